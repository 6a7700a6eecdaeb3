import PyProof.Rows.All
import Wide.All
import OpenK.AllK
import Wide.FinOn
import HandS.ForMost
import HandS.Walk
import HandS.Wide
import HandS.IsInst
import HandS.TupAny
import HandS.TupMul
import HandS.Style
import KE.GoesMore
import KE.GoesEnum
import HandS.Zip
import HandS.Deep
import HandS.SortOrd
import HandS.NamedTupSort
import HandS.TupLe
import KE.KSortTupAny
import PyProof.TwoTypesSub
import PyProof.FactsMod
import PyProof.NeKinds
import PyProof.CallStr
import PyProof.FitsInt
import HandS.NoneIn
import HandS.More
import HandS.SetTxt0
import HandS.SetFor
import HandS.TupSets
import HandS.Strs
import KE.DataMinMax
import KE.KDictKeyed
import KE.KDictWalk
import KE.KDictCopyH
import PyProof.SumAny
import HandS.Defaults
import HandS.MakeKwOnly
import PySem.Challenge.RW_mouldkin_k05_fewest_by_all_lines
set_option Elab.async false
set_option linter.all false
set_option maxRecDepth 100000
set_option maxHeartbeats 4000000
/-! A layer of our own: values whose tuples are trees (T), an abstract heap of lists, dicts and instances over them (Gp), readings that compute. -/
namespace Lw
open PySem PySem.Spec PyProof.Rows L2

inductive TyN where
  | int | bool | str | tuple | list | dict | set
abbrev TyN.name : TyN → String
  | .int => "int" | .bool => "bool" | .str => "str" | .tuple => "tuple" | .list => "list" | .dict => "dict" | .set => "set"
inductive T where
  | non | bl (b : Bool) | int (i : Int) | str (x : Str) | tup (ts : List T) | ref (a : Addr) | ty (n : TyN)
  /-- the script -/
  | scr (ns : List Int)

mutual
def Rp (K : PySem.W.Frag) (H : Hp) : T → V → Prop
  | .non, v => v = .non
  | .bl b, v => v = .bl b
  | .int i, v => v = .int i
  | .str x, v => v = .str x
  | .tup ts, v => ∃ a vs, v = .ref a ∧ H a = some (.tup vs) ∧ RpL K H ts vs
  | .ref a, v => v = .ref a
  | .ty n, v => v = .ty n.name
  | .scr ns, v => ∃ a, v = .ref a ∧ ((∃ o, H a = some (.frz o (.lst (ns.map V.int)))) ∨ ∃ (o : Obj) (its : Array Value) (n : Nat), K.lookup a = some o ∧ o.cls = .type "list" ∧ o.dict = none ∧ o.data = .seq its n ∧ its.size ≤ sizeLine ∧ Vals (ns.map V.int) its.toList)
def RpL (K : PySem.W.Frag) (H : Hp) : List T → List V → Prop
  | [], vs => vs = []
  | t :: ts, vs => ∃ v r, vs = v :: r ∧ Rp K H t v ∧ RpL K H ts r
end
/-- tuples and frozen lists are as they were -/
structure Tups (H H' : Hp) : Prop where
  t : ∀ b xs, H b = some (.tup xs) → H' b = some (.tup xs)
  f : ∀ b o xs, H b = some (.frz o (.lst xs)) → H' b = some (.frz o (.lst xs))
theorem Tups.refl (H : Hp) : Tups H H := ⟨fun _ _ h => h, fun _ _ _ h => h⟩
theorem Tups.trans {H H1 H2 : Hp} (a : Tups H H1) (b : Tups H1 H2) : Tups H H2 := ⟨fun c o h => b.t c o (a.t c o h), fun c o x h => b.f c o x (a.f c o x h)⟩
theorem Tups.new {H : Hp} {p : Addr} {o : HO} (h : H p = none) : Tups H (upd H p o) := ⟨fun b xs e => by
  rw [upd_ne (ne_of_none e h)]
  exact e, fun b ob xs e => by
  rw [upd_ne (ne_of_none e h)]
  exact e⟩
/-- what may be written -/
def Wr (H : Hp) (p : Addr) : Prop := (∀ xs, H p ≠ some (.tup xs)) ∧ ∀ o xs, H p ≠ some (.frz o (.lst xs))
theorem Tups.set {H : Hp} {p : Addr} {o : HO} (h : Wr H p) : Tups H (upd H p o) := ⟨fun b xs e => by
  rw [upd_ne (fun z => h.1 xs (by rw [← z]; exact e))]
  exact e, fun b ob xs e => by
  rw [upd_ne (fun z => h.2 ob xs (by rw [← z]; exact e))]
  exact e⟩
theorem Wr.of {H : Hp} {p : Addr} {o : HO} (h : H p = some o) (h1 : ∀ xs, o ≠ .tup xs) (h2 : ∀ ob xs, o ≠ .frz ob (.lst xs)) : Wr H p :=
  ⟨fun xs e => by rw [h] at e; exact h1 xs (Option.some.inj e), fun ob xs e => by rw [h] at e; exact h2 ob xs (Option.some.inj e)⟩
mutual
theorem Rp.mono {K : PySem.W.Frag} {H H' : Hp} (k : Tups H H') : ∀ (t : T) (v : V), Rp K H t v → Rp K H' t v
  | .non, _, h => h
  | .bl _, _, h => h
  | .int _, _, h => h
  | .str _, _, h => h
  | .tup ts, _, ⟨a, vs, e, h, r⟩ => ⟨a, vs, e, k.t _ _ h, RpL.mono k ts vs r⟩
  | .ref _, _, h => h
  | .ty _, _, h => h
  | .scr _, _, ⟨a, e, h⟩ => ⟨a, e, h.imp (fun ⟨o, q⟩ => ⟨o, k.f _ _ _ q⟩) id⟩
theorem RpL.mono {K : PySem.W.Frag} {H H' : Hp} (k : Tups H H') : ∀ (ts : List T) (vs : List V), RpL K H ts vs → RpL K H' ts vs
  | [], _, h => h
  | t :: ts, _, ⟨v, r, e, h, hr⟩ => ⟨v, r, e, Rp.mono k t v h, RpL.mono k ts r hr⟩
end
theorem RpL.length {K : PySem.W.Frag} {H : Hp} : ∀ {ts : List T} {vs : List V}, RpL K H ts vs → vs.length = ts.length
  | [], _, h => by rw [show _ = [] from h]; rfl
  | t :: ts, _, ⟨v, r, e, h, hr⟩ => by rw [e, List.length_cons, RpL.length hr]; rfl
theorem RpL.get {K : PySem.W.Frag} {H : Hp} : ∀ {ts : List T} {vs : List V} {i : Nat} {v : V}, RpL K H ts vs → vs[i]? = some v → ∃ t, ts[i]? = some t ∧ Rp K H t v
  | [], _, i, v, h, e => by rw [show _ = [] from h] at e; simp at e
  | t :: ts, _, 0, v, ⟨w, r, e1, h, hr⟩, e => by subst e1; simp at e; subst e; exact ⟨t, rfl, h⟩
  | t :: ts, _, i + 1, v, ⟨w, r, e1, h, hr⟩, e => by
    subst e1
    obtain ⟨u, h1, h2⟩ := RpL.get (i := i) hr (by simpa using e)
    exact ⟨u, by simpa using h1, h2⟩
theorem RpL.at {K : PySem.W.Frag} {H : Hp} {ts : List T} {vs : List V} {i : Nat} {t : T} (h : RpL K H ts vs) (e : ts[i]? = some t) : ∃ v, vs[i]? = some v ∧ Rp K H t v := by
  have hl := h.length
  have hi : i < vs.length := by rw [hl]; exact (List.getElem?_eq_some_iff.mp e).1
  obtain ⟨u, h1, h2⟩ := h.get (v := vs[i]) (List.getElem?_eq_getElem hi)
  rw [e] at h1; cases h1
  exact ⟨vs[i], List.getElem?_eq_getElem hi, h2⟩
theorem RpL.append {K : PySem.W.Frag} {H : Hp} : ∀ {ts us : List T} {vs ws : List V}, RpL K H ts vs → RpL K H us ws → RpL K H (ts ++ us) (vs ++ ws)
  | [], _, _, _, h, q => by rw [show _ = [] from h]; exact q
  | t :: ts, _, _, _, ⟨v, r, e, h, hr⟩, q => ⟨v, r ++ _, by rw [e]; rfl, h, RpL.append hr q⟩
theorem RpL.take {K : PySem.W.Frag} {H : Hp} : ∀ {ts : List T} {vs : List V} (n : Nat), RpL K H ts vs → RpL K H (ts.take n) (vs.take n)
  | _, _, 0, _ => rfl
  | [], _, n + 1, h => by rw [show _ = [] from h]; rfl
  | t :: ts, _, n + 1, ⟨v, r, e, h, hr⟩ => ⟨v, r.take n, by rw [e]; rfl, h, RpL.take n hr⟩
theorem RpL.drop {K : PySem.W.Frag} {H : Hp} : ∀ {ts : List T} {vs : List V} (n : Nat), RpL K H ts vs → RpL K H (ts.drop n) (vs.drop n)
  | _, _, 0, h => h
  | [], _, n + 1, h => by rw [show _ = [] from h]; rfl
  | t :: ts, _, n + 1, ⟨v, r, e, h, hr⟩ => by rw [e]; exact RpL.drop n hr
theorem RpL.set {K : PySem.W.Frag} {H : Hp} {t : T} {v : V} (h : Rp K H t v) : ∀ {ts : List T} {vs : List V} (n : Nat), RpL K H ts vs → RpL K H (ts.set n t) (vs.set n v)
  | [], _, n, h => by rw [show _ = [] from h]; rfl
  | _ :: ts, _, 0, ⟨w, r, e, _, hr⟩ => ⟨v, r, by rw [e]; rfl, h, hr⟩
  | u :: ts, _, n + 1, ⟨w, r, e, hu, hr⟩ => ⟨w, r.set n v, by rw [e]; rfl, hu, RpL.set h n hr⟩
theorem RpL.one {K : PySem.W.Frag} {H : Hp} {t : T} {v : V} (h : Rp K H t v) : RpL K H [t] [v] := ⟨v, [], rfl, h, rfl⟩
theorem RpL.flat {K : PySem.W.Frag} {H : Hp} {ts : List T} {vs : List V} (h : RpL K H ts vs) : ∀ n : Nat, RpL K H (List.replicate n ts).flatten (List.replicate n vs).flatten
  | 0 => rfl
  | n + 1 => by
    rw [List.replicate_succ, List.replicate_succ, List.flatten_cons, List.flatten_cons]
    exact RpL.append h (RpL.flat h n)
theorem RpL.ints {K : PySem.W.Frag} {H : Hp} : ∀ {ns : List Int} {vs : List V}, RpL K H (ns.map T.int) vs → vs = ns.map V.int
  | [], _, h => h
  | n :: ns, _, ⟨v, r, e, h, hr⟩ => by rw [e, show v = V.int n from h, RpL.ints hr]; rfl
theorem RpL.of_ints {K : PySem.W.Frag} {H : Hp} : ∀ {ns : List Int}, RpL K H (ns.map T.int) (ns.map V.int)
  | [] => rfl
  | n :: ns => ⟨_, _, rfl, rfl, RpL.of_ints⟩

/-! ### the abstract heap -/
inductive GO where
  | lst (ts : List T) | dK (kvs : List (Key × T)) | dT (kvs : List (List Key × T)) | ins (x : Str) (ns : List Str) (ts : List T) | rcd (ns : List Str) (ts : List T) | raw (o : HO) | fz (o : Obj) (ws : List (Key × V)) (kvs : List (Key × T))
def RpK (K : PySem.W.Frag) {κ : Type} (H : Hp) : List (κ × T) → List (κ × V) → Prop
  | [], ws => ws = []
  | p :: ps, ws => ∃ v r, ws = (p.1, v) :: r ∧ Rp K H p.2 v ∧ RpK K H ps r
theorem RpK.mono {K : PySem.W.Frag} {κ : Type} {H H' : Hp} (k : Tups H H') : ∀ {ps : List (κ × T)} {ws : List (κ × V)}, RpK K H ps ws → RpK K H' ps ws
  | [], _, h => h
  | p :: ps, _, ⟨v, r, e, h, hr⟩ => ⟨v, r, e, Rp.mono k _ _ h, RpK.mono k hr⟩
def GOk (K : PySem.W.Frag) (H : Hp) (a : Addr) : GO → Prop
  | .lst ts => ∃ vs, H a = some (.lst vs) ∧ RpL K H ts vs
  | .dK kvs => ∃ ws, H a = some (.dK ws) ∧ RpK K H kvs ws
  | .dT kvs => ∃ ws, H a = some (.dT ws) ∧ RpK K H kvs ws
  | .ins x ns ts => ∃ C dx vs, PySem.W.nsIn K mainGlobals x = some (some (.ref C)) ∧ H a = some (.ins C dx (ns.zip vs)) ∧ RpL K H ts vs
  | .rcd ns ts => ∃ vs, H a = some (.dK ((ns.map Sum.inr).zip vs)) ∧ RpL K H ts vs
  | .raw o => H a = some o
  | .fz o ws kvs => H a = some (.frz o (.dK ws)) ∧ RpK K H kvs ws
abbrev Gp := Addr → Option GO
def gput (G : Gp) (a : Addr) (o : GO) : Gp := fun b => if b = a then some o else G b
theorem gput_same {G : Gp} {a : Addr} {o : GO} : gput G a o a = some o := by unfold gput; rw [if_pos rfl]
theorem gput_ne {G : Gp} {a b : Addr} {o : GO} (h : b ≠ a) : gput G a o b = G b := by unfold gput; rw [if_neg h]
theorem gput_put {G : Gp} {a : Addr} {o u : GO} : gput (gput G a o) a u = gput G a u := by
  funext b; unfold gput; split <;> rfl
theorem gput_id {G : Gp} {a : Addr} {o : GO} (h : G a = some o) : gput G a o = G := by
  funext b; unfold gput; split
  · rename_i e; subst e; exact h.symm
  · rfl
theorem gput_comm {G : Gp} {a b : Addr} {o u : GO} (h : a ≠ b) : gput (gput G a o) b u = gput (gput G b u) a o := by
  funext c; unfold gput
  by_cases h1 : c = a
  · subst h1; rw [if_neg h, if_pos rfl, if_pos rfl]
  · rw [if_neg h1, if_neg h1]
theorem gne {G : Gp} {a b : Addr} {o : GO} (h : G a = some o) (h' : G b = none) : a ≠ b := fun e => by
  subst e; rw [h] at h'; cases h'
def Abs (K : PySem.W.Frag) (H : Hp) (G : Gp) : Prop := ∀ a o, G a = some o → GOk K H a o
def Sub (G G' : Gp) : Prop := ∀ a o, G a = some o → G' a = some o
theorem Sub.refl (G : Gp) : Sub G G := fun _ _ h => h
theorem Sub.trans {G G1 G2 : Gp} (a : Sub G G1) (b : Sub G1 G2) : Sub G G2 := fun c o h => b c o (a c o h)
theorem Sub.new {G G' : Gp} {p : Addr} {o : GO} (s : Sub G G') (h : G' p = none) : Sub G (gput G' p o) := fun b u e => by
  have e' := s b u e
  rw [gput_ne (gne e' h)]
  exact e'
/-- an object that G doesn't know may change -/
theorem Sub.mut {G G' : Gp} {p : Addr} {o : GO} (s : Sub G G') (h : G p = none) : Sub G (gput G' p o) := fun b u e => by
  rw [gput_ne (gne e h)]
  exact s b u e
theorem Sub.put {G G' : Gp} {p : Addr} {o : GO} (s : Sub G G') : Sub (gput G p o) (gput G' p o) := fun b u e => by
  unfold gput at *
  split
  · rename_i h; rw [if_pos h] at e; exact e
  · rename_i h; rw [if_neg h] at e; exact s b u e
theorem Sub.free {G G' : Gp} (s : Sub G G') {p : Addr} (h : G' p = none) : G p = none := by
  cases q : G p with
  | none => rfl
  | some o => rw [s p o q] at h; cases h
theorem Abs.sub {K : PySem.W.Frag} {H : Hp} {G G' : Gp} (x : Abs K H G') (s : Sub G G') : Abs K H G := fun a o e => x a o (s a o e)
theorem GOk.other {K : PySem.W.Frag} {H : Hp} {a p : Addr} {u : HO} {o : GO} (hne : a ≠ p) (ht : Wr H p) (x : GOk K H a o) : GOk K (upd H p u) a o := by
  have k : Tups H (upd H p u) := Tups.set ht
  cases o with
  | lst ts => obtain ⟨vs, h, r⟩ := x; exact ⟨vs, by rw [upd_ne hne]; exact h, RpL.mono k _ _ r⟩
  | dK kvs => obtain ⟨vs, h, r⟩ := x; exact ⟨vs, by rw [upd_ne hne]; exact h, r.mono k⟩
  | dT kvs => obtain ⟨vs, h, r⟩ := x; exact ⟨vs, by rw [upd_ne hne]; exact h, r.mono k⟩
  | ins y ns ts => obtain ⟨C, dx, vs, n, h, r⟩ := x; exact ⟨C, dx, vs, n, by rw [upd_ne hne]; exact h, RpL.mono k _ _ r⟩
  | rcd ns ts => obtain ⟨vs, h, r⟩ := x; exact ⟨vs, by rw [upd_ne hne]; exact h, RpL.mono k _ _ r⟩
  | raw o => exact (show upd H p u a = some o by rw [upd_ne hne]; exact x)
  | fz o ws kvs => exact ⟨by rw [upd_ne hne]; exact x.1, x.2.mono k⟩
theorem GOk.fresh {K : PySem.W.Frag} {H : Hp} {a p : Addr} {u : HO} {o : GO} (hp : H p = none) (x : GOk K H a o) : GOk K (upd H p u) a o := by
  by_cases hne : a = p
  · subst hne
    cases o with
    | lst ts => obtain ⟨vs, h, r⟩ := x; rw [hp] at h; cases h
    | dK kvs => obtain ⟨vs, h, r⟩ := x; rw [hp] at h; cases h
    | dT kvs => obtain ⟨vs, h, r⟩ := x; rw [hp] at h; cases h
    | ins y ns ts => obtain ⟨C, dx, vs, n, h, r⟩ := x; rw [hp] at h; cases h
    | rcd ns ts => obtain ⟨vs, h, r⟩ := x; rw [hp] at h; cases h
    | raw o => exact absurd (show H a = some o from x) (by rw [hp]; intro z; cases z)
    | fz o ws kvs => have h := x.1; rw [hp] at h; cases h
  · exact GOk.other hne ⟨fun xs z => (by rw [hp] at z; cases z), fun o xs z => (by rw [hp] at z; cases z)⟩ x
/-- a new untracked object (a tuple) -/
theorem Abs.grow {K : PySem.W.Frag} {H : Hp} {G : Gp} {p : Addr} {u : HO} (x : Abs K H G) (hp : H p = none) : Abs K (upd H p u) G := fun a o e => (x a o e).fresh hp
theorem Abs.put {K : PySem.W.Frag} {H : Hp} {G : Gp} {p : Addr} {u : HO} {o : GO} (x : Abs K H G) (ht : Wr H p) (n : GOk K (upd H p u) p o) : Abs K (upd H p u) (gput G p o) := fun a v e => by
  by_cases h : a = p
  · subst h; rw [gput_same] at e; cases e; exact n
  · rw [gput_ne h] at e; exact (x a v e).other h ht
theorem Abs.free {K : PySem.W.Frag} {H : Hp} {G : Gp} {p : Addr} (x : Abs K H G) (h : H p = none) : G p = none := by
  cases q : G p with
  | none => rfl
  | some o =>
    have y := x p o q
    cases o with
    | lst ts => obtain ⟨vs, e, _⟩ := y; rw [h] at e; cases e
    | dK kvs => obtain ⟨vs, e, _⟩ := y; rw [h] at e; cases e
    | dT kvs => obtain ⟨vs, e, _⟩ := y; rw [h] at e; cases e
    | ins x ns ts => obtain ⟨C, dx, vs, _, e, _⟩ := y; rw [h] at e; cases e
    | rcd ns ts => obtain ⟨vs, e, _⟩ := y; rw [h] at e; cases e
    | raw o => exact absurd (show H p = some o from y) (by rw [h]; intro z; cases z)
    | fz o ws kvs => have e := y.1; rw [h] at e; cases e
end Lw

set_option Elab.async false
set_option linter.all false
set_option maxRecDepth 100000
set_option maxHeartbeats 4000000
namespace Lw
open PySem PySem.Spec PyProof.Rows L2

/-! ### environments -/
abbrev REnv := List (Option T)
def nth {α : Type} : List α → Nat → Option α
  | [], _ => none
  | a :: _, 0 => some a
  | _ :: l, n + 1 => nth l n
def put {α : Type} : List α → Nat → α → List α
  | [], _, _ => []
  | _ :: l, 0, x => x :: l
  | a :: l, n + 1, x => a :: put l n x
/-- put, handed on with its cells written out -/
def putK {α : Type} : List α → Nat → α → (List α → Prop) → Prop
  | [], _, _, k => k []
  | _ :: l, 0, x, k => k (x :: l)
  | a :: l, n + 1, x, k => putK l n x fun l' => k (a :: l')
theorem putK_put {α : Type} : ∀ {l : List α} {n : Nat} {x : α} {k : List α → Prop}, putK l n x k → k (put l n x)
  | [], _, _, _, h => h
  | _ :: _, 0, _, _, h => h
  | a :: l, n + 1, x, k, h => putK_put (l := l) (n := n) (x := x) (k := fun l' => k (a :: l')) h
def normK {α : Type} : List α → (List α → Prop) → Prop
  | [], k => k []
  | a :: l, k => normK l fun l' => k (a :: l')
theorem normK_norm {α : Type} : ∀ {l : List α} {k : List α → Prop}, normK l k → k l
  | [], _, h => h
  | a :: l, k, h => normK_norm (l := l) (k := fun l' => k (a :: l')) h
def EnvR (K : PySem.W.Frag) (H : Hp) : REnv → L2.St → Prop
  | [], σ => σ = []
  | o :: r, σ => ∃ w s, σ = w :: s ∧ (∀ t, o = some t → ∃ v, w = some v ∧ Rp K H t v) ∧ EnvR K H r s
section
variable {K : PySem.W.Frag} {H H' : Hp}
theorem EnvR.mono (k : Tups H H') : ∀ {ρ : REnv} {σ : L2.St}, EnvR K H ρ σ → EnvR K H' ρ σ
  | [], _, h => h
  | o :: r, _, ⟨w, s, e, h, hr⟩ => ⟨w, s, e, fun t q => let ⟨v, a, b⟩ := h t q; ⟨v, a, b.mono k⟩, EnvR.mono k hr⟩
theorem EnvR.get : ∀ {ρ : REnv} {σ : L2.St} {i : Nat} {t : T}, EnvR K H ρ σ → nth ρ i = some (some t) → ∃ v, σ[i]? = some (some v) ∧ Rp K H t v
  | [], _, _, _, _, e => by simp [nth] at e
  | o :: r, _, 0, t, ⟨w, s, e, h, hr⟩, q => by
    subst e
    obtain ⟨v, a, b⟩ := h t (Option.some.inj q)
    subst a
    exact ⟨v, rfl, b⟩
  | o :: r, _, i + 1, t, ⟨w, s, e, h, hr⟩, q => by
    subst e
    obtain ⟨v, a, b⟩ := EnvR.get (i := i) hr q
    exact ⟨v, by simpa using a, b⟩
theorem EnvR.put {t : T} {v : V} (r : Rp K H t v) : ∀ {ρ : REnv} {σ : L2.St} (i : Nat), EnvR K H ρ σ → EnvR K H (put ρ i (some t)) (σ.set i (some v))
  | [], _, _, h => by rw [show _ = [] from h]; rfl
  | o :: ρ, _, 0, ⟨w, s, e, h, hr⟩ => ⟨some v, s, by rw [e]; rfl, fun u q => ⟨v, rfl, (by cases q; exact r)⟩, hr⟩
  | o :: ρ, _, i + 1, ⟨w, s, e, h, hr⟩ => ⟨w, s.set i (some v), by rw [e]; rfl, h, EnvR.put r i hr⟩
theorem EnvR.putN : ∀ {ρ : REnv} {σ : L2.St} (i : Nat) {w : Option V}, EnvR K H ρ σ → EnvR K H (Lw.put ρ i none) (σ.set i w)
  | [], _, _, _, h => by rw [show _ = [] from h]; rfl
  | o :: ρ, _, 0, w, ⟨_, s, e, h, hr⟩ => ⟨w, s, by rw [e]; rfl, fun u q => (by cases q), hr⟩
  | o :: ρ, _, i + 1, w, ⟨x, s, e, h, hr⟩ => ⟨x, s.set i w, by rw [e]; rfl, h, EnvR.putN i hr⟩
theorem EnvR.nil : EnvR K H [] [] := rfl
theorem EnvR.nones : ∀ n : Nat, EnvR K H (List.replicate n none) (List.replicate n none)
  | 0 => rfl
  | n + 1 => ⟨none, List.replicate n none, rfl, fun t q => (by cases q), EnvR.nones n⟩
theorem EnvR.start : ∀ {ts : List T} {vs : List V} (n : Nat), RpL K H ts vs → EnvR K H (ts.map some ++ List.replicate n none) (vs.map some ++ List.replicate n none)
  | [], _, n, h => by rw [show _ = [] from h]; exact EnvR.nones n
  | t :: ts, _, n, ⟨v, r, e, h, hr⟩ => by subst e; exact ⟨some v, _, rfl, fun u q => ⟨v, rfl, (by cases q; exact h)⟩, EnvR.start n hr⟩
end
/-- slots forgotten -/
inductive ELe : REnv → REnv → Prop
  | nil : ELe [] []
  | keep (o : Option T) {r s : REnv} : ELe r s → ELe (o :: r) (o :: s)
  | drop (o : Option T) {r s : REnv} : ELe r s → ELe (none :: r) (o :: s)
theorem ELe.refl : ∀ ρ : REnv, ELe ρ ρ
  | [] => .nil
  | o :: r => .keep o (ELe.refl r)
theorem EnvR.le {K : PySem.W.Frag} {H : Hp} {ρ ρ' : REnv} {σ : L2.St} (l : ELe ρ ρ') : EnvR K H ρ' σ → EnvR K H ρ σ := by
  induction l generalizing σ with
  | nil => exact id
  | keep o _ ih => rintro ⟨w, s, e, h, hr⟩; exact ⟨w, s, e, h, ih hr⟩
  | drop o _ ih => rintro ⟨w, s, e, h, hr⟩; exact ⟨w, s, e, fun t q => (by cases q), ih hr⟩

/-! ### readings -/
abbrev TK := T → Gp → Prop
abbrev QE := REnv → Gp → TK → Prop
abbrev QT := REnv → Gp → (Bool → Gp → Prop) → Prop
abbrev QA := REnv → Gp → (List T → Gp → Prop) → Prop
/-- an exception: its class, its field -/
abbrev XQ := Value → Option T → Gp → Prop
abbrev QSp := List T → Gp → TK → XQ → Prop
structure QD where
  nx : REnv → Gp → Prop
  rt : TK
  bk : REnv → Gp → Prop := fun _ _ => False
  ct : REnv → Gp → Prop := fun _ _ => False
abbrev QS := QD → REnv → Gp → Prop
abbrev Q2 := T → T → Gp → TK → Prop
abbrev Q1 := T → Gp → TK → Prop
abbrev QC := List T → Gp → TK → Prop
section
variable (K : PySem.W.Frag)
/-- what follows, seen from H -/
def Fol (H : Hp) (Q : TK) (KQ : VK) : Prop := ∀ v H' t G', Tups H H' → Abs K H' G' → Rp K H' t v → Q t G' → KQ v H'
def FolS (H : Hp) (Q : REnv → Gp → Prop) (KQ : L2.St → Hp → Prop) : Prop := ∀ σ' H' ρ' G', Tups H H' → EnvR K H' ρ' σ' → Abs K H' G' → Q ρ' G' → KQ σ' H'
structure FolD (H : Hp) (D' : QD) (D : Ends) : Prop where
  nx : FolS K H D'.nx D.nx
  rt : Fol K H D'.rt D.rt
  bk : FolS K H D'.bk D.bk
  ct : FolS K H D'.ct D.ct
def cE (q : QE) : TE := fun σ H KQ => ∃ ρ G Q, EnvR K H ρ σ ∧ Abs K H G ∧ q ρ G Q ∧ Fol K H Q KQ
def cT (q : QT) : TT := fun σ H KQ => ∃ ρ G Q, EnvR K H ρ σ ∧ Abs K H G ∧ q ρ G Q ∧ ∀ b H' G', Tups H H' → Abs K H' G' → Q b G' → KQ b H'
def cA (q : QA) : TA := fun σ H KQ => ∃ ρ G Q, EnvR K H ρ σ ∧ Abs K H G ∧ q ρ G Q ∧ ∀ vs H' ts G', Tups H H' → Abs K H' G' → RpL K H' ts vs → Q ts G' → KQ vs H'
def cS (q : QS) : TS := fun D σ H => ∃ ρ G D', EnvR K H ρ σ ∧ Abs K H G ∧ q D' ρ G ∧ FolD K H D' D
def c2 (f : Q2) : R2 := fun v w H KQ => ∃ x y G Q, Rp K H x v ∧ Rp K H y w ∧ Abs K H G ∧ f x y G Q ∧ Fol K H Q KQ
def c1 (f : Q1) : V → Hp → VK → Prop := fun v H KQ => ∃ x G Q, Rp K H x v ∧ Abs K H G ∧ f x G Q ∧ Fol K H Q KQ
def cC (f : QC) : List V → Hp → VK → Prop := fun vs H KQ => ∃ ts G Q, RpL K H ts vs ∧ Abs K H G ∧ f ts G Q ∧ Fol K H Q KQ
/-- how an exception is handed on: no dict (no field), or its own dict with the field «number» -/
def RpX (H : Hp) : Option T → Option Addr → Prop
  | none, d => d = none
  | some t, d => ∃ a v, d = some a ∧ H a = some (.xd [("number", v)]) ∧ Rp K H t v
def FolX (H : Hp) (E' : XQ) (E : XK) : Prop := ∀ c d H' fo G', Tups H H' → Abs K H' G' → RpX K H' fo d → E' c fo G' → E c d H'
def cSp (q : QSp) : Sp := fun vs H KQ E => ∃ ts G Q E', RpL K H ts vs ∧ Abs K H G ∧ q ts G Q E' ∧ Fol K H Q KQ ∧ FolX K H E' E
abbrev QG := T → REnv → Gp → (REnv → Gp → Prop) → Prop
def cG (own : List Nat) (q : QG) : TG := fun v σ H KQ => ∃ t ρ G Q, Rp K H t v ∧ EnvR K H ρ σ ∧ Abs K H G ∧ q t ρ G Q ∧ ∀ σ' H' ρ' G', wipe σ' own = wipe σ own → Tups H H' → EnvR K H' ρ' σ' → Abs K H' G' → Q ρ' G' → KQ σ' H'
abbrev QGs := List T → REnv → Gp → (REnv → Gp → Prop) → Prop
def cGs (own : List Nat) (q : QGs) : TGs := fun vs σ H KQ => ∃ ts ρ G Q, RpL K H ts vs ∧ EnvR K H ρ σ ∧ Abs K H G ∧ q ts ρ G Q ∧ ∀ σ' H' ρ' G', wipe σ' own = wipe σ own → Tups H H' → EnvR K H' ρ' σ' → Abs K H' G' → Q ρ' G' → KQ σ' H'
/-- a walk over the items ts, as long as the heap is so -/
structure WalkT (J : It) (H1 : Hp) (ts : List T) (St : Gp → Prop) : Prop where
  goes : ∀ i H G, i < ts.length → Tups H1 H → Abs K H G → St G → J.go i H
  stops : ∀ H G, Tups H1 H → Abs K H G → St G → J.stop ts.length H
  yields : ∀ i H G x H', i < ts.length → Tups H1 H → Abs K H G → St G → J.yld i H x H' → Tups H H' ∧ Abs K H' G ∧ ∃ t, ts[i]? = some t ∧ Rp K H' t x
abbrev QI := REnv → Gp → (List T → (Gp → Prop) → Gp → Prop) → Prop
def cI (q : QI) : TI := fun σ H R => ∃ ρ G Q, EnvR K H ρ σ ∧ Abs K H G ∧ q ρ G Q ∧ ∀ J H1 ts St G1, Tups H H1 → Abs K H1 G1 → WalkT K J H1 ts St → Q ts St G1 → R J H1
end
section
variable {K : PySem.W.Frag} {H H1 H' : Hp} {Q Q' : TK} {KQ KQ' : VK}
theorem Fol.from (f : Fol K H Q KQ) (k : Tups H H1) : Fol K H1 Q KQ := fun v H' t G' a => f v H' t G' (k.trans a)
theorem FolS.from {Q : REnv → Gp → Prop} {KQ : L2.St → Hp → Prop} (f : FolS K H Q KQ) (k : Tups H H1) : FolS K H1 Q KQ := fun v H' t G' a => f v H' t G' (k.trans a)
theorem FolX.from {E' : XQ} {E : XK} (f : FolX K H E' E) (k : Tups H H1) : FolX K H1 E' E := fun v d H' t G' a => f v d H' t G' (k.trans a)
theorem FolD.from {D' : QD} {D : Ends} (f : FolD K H D' D) (k : Tups H H1) : FolD K H1 D' D := ⟨f.nx.from k, f.rt.from k, f.bk.from k, f.ct.from k⟩
theorem cE.go {q : QE} {σ : L2.St} {ρ : REnv} {G : Gp} (e : EnvR K H ρ σ) (a : Abs K H G) (h : q ρ G Q) (f : Fol K H Q KQ) : cE K q σ H KQ := ⟨ρ, G, Q, e, a, h, f⟩
end
/-! ### weaker wishes -/
section
variable {X : Cx}
theorem PE.wk {e : Expr} {t t' : TE} (h : PE X e t) (w : ∀ σ H Q, t' σ H Q → t σ H Q) : PE X e t' := ⟨fun p s σ H Q I q => h.run p s σ H Q I (w σ H Q q)⟩
theorem PT.wk {e : Expr} {t t' : TT} (h : PT X e t) (w : ∀ σ H Q, t' σ H Q → t σ H Q) : PT X e t' := ⟨fun p s σ H Q I q => h.run p s σ H Q I (w σ H Q q)⟩
theorem PW.wk {e : Expr} {t t' : TT} (h : PW X e t) (w : ∀ σ H Q, t' σ H Q → t σ H Q) : PW X e t' := ⟨fun wh p s σ H Q I q => h.run wh p s σ H Q I (w σ H Q q)⟩
theorem PA.wk {e : List Expr} {t t' : TA} (h : PA X e t) (w : ∀ σ H Q, t' σ H Q → t σ H Q) : PA X e t' := ⟨fun po p s σ H Q I q => h.run po p s σ H Q I (w σ H Q q)⟩
theorem PS.wk {e : Stmt} {t t' : TS} (h : PS X e t) (w : ∀ D σ H, t' D σ H → t D σ H) : PS X e t' := ⟨fun p s σ H D I q => h.run p s σ H D I (w D σ H q)⟩
theorem PSs.wk {e : List Stmt} {t t' : TS} (h : PSs X e t) (w : ∀ D σ H, t' D σ H → t D σ H) : PSs X e t' := ⟨fun p s σ H D I q => h.run p s σ H D I (w D σ H q)⟩
theorem PG.wk {e : Expr} {t t' : TG} (h : PG X e t) (w : ∀ v σ H Q, t' v σ H Q → t v σ H Q) : PG X e t' := ⟨fun p s σ H v u Q I r q => h.run p s σ H v u Q I r (w v σ H Q q)⟩
theorem PGs.wk {e : List Expr} {t t' : TGs} (h : PGs X e t) (w : ∀ v σ H Q, t' v σ H Q → t v σ H Q) : PGs X e t' := ⟨fun p s σ H v u Q I r q => h.run p s σ H v u Q I r (w v σ H Q q)⟩
theorem PI.wk {tg e : Expr} {t t' : TI} (h : PI X tg e t) (w : ∀ σ H R, t' σ H R → t σ H R) : PI X tg e t' := ⟨fun p s σ H R I q => h.run p s σ H R I (w σ H R q)⟩

/-! ### names, constants -/
def qVar (i : Nat) : QE := fun ρ G Q => match nth ρ i with | some (some t) => Q t G | _ => False
def qC (t : T) : QE := fun _ G Q => Q t G
theorem e_var (i : Nat) {x : Str} {pos : Pos} (hN : X.N[i]? = some x := by rfl) (hv : Vis X.env.scope x := by first | exact Or.inl rfl | exact Or.inr (Or.inl rfl) | exact Or.inr (Or.inr rfl)) (hd : (x == ("__debug__" : Str)) = false := by decide)
    (hcd : (x == ("__classdict__" : Str)) = false := by decide) : PE X (.Name x pos) (cE X.K (qVar i)) := PE.wk (pv i hN hv hd hcd) fun σ H KQ h => by
  obtain ⟨ρ, G, Q, e, a, q, f⟩ := h
  unfold qVar at q
  split at q
  · rename_i t ht
    obtain ⟨v, hv, r⟩ := e.get ht
    exact ⟨v, hv, f v H t G (Tups.refl H) a r q⟩
  · exact q.elim
theorem e_k {t : T} {v : V} {e : Expr} (h : PE X e (tC v)) (r : ∀ H, Rp X.K H t v) : PE X e (cE X.K (qC t)) := PE.wk h fun σ H KQ h => by
  obtain ⟨ρ, G, Q, e, a, q, f⟩ := h
  exact f v H t G (Tups.refl H) a (r H) q
theorem e_int {i j pos} : PE X (.Constant (.int i) j pos) (cE X.K (qC (.int i))) := e_k pe_int fun _ => rfl
theorem e_bl {b j pos} : PE X (.Constant (.bool b) j pos) (cE X.K (qC (.bl b))) := e_k pe_bl fun _ => rfl
theorem e_non {j pos} : PE X (.Constant .none j pos) (cE X.K (qC .non)) := e_k pe_non fun _ => rfl
theorem e_str {x j pos} : PE X (.Constant (.str x) j pos) (cE X.K (qC (.str x))) := e_k pe_str fun _ => rfl
theorem e_ty (n : TyN) {x : Str} {pos : Pos} (hg : Gl X x) (hm : X.mg x = none) (hv : bootBuiltins x = some (.type n.name)) (hn : x ≠ "__name__" := by decide) (hd : (x == ("__debug__" : Str)) = false := by decide) : PE X (.Name x pos) (cE X.K (qC (.ty n))) :=
  e_k (pe_bltn (v := .ty n.name) hg hm hv rfl hn hd) fun _ => rfl
/-- a module's constant -/
theorem e_glob {x : Str} {t : T} {v : V} {u : Value} {pos : Pos} (hg : Gl X x) (hm : X.mg x = some u) (r : RelV v u) (r2 : ∀ H, Rp X.K H t v) (hd : (x == ("__debug__" : Str)) = false := by decide) : PE X (.Name x pos) (cE X.K (qC t)) :=
  e_k (pe_glob hg hm r hd) r2

/-! ### arguments, displays -/
def qNil : QA := fun _ G Q => Q [] G
def qCons (qe : QE) (qa : QA) : QA := fun ρ G Q => qe ρ G fun x G1 => qa ρ G1 fun xs G2 => Q (x :: xs) G2
variable {e a b c : Expr} {es : List Expr} {qe qa qb qc : QE} {qs : QA} {pos : Pos}
theorem a_nil : PA X [] (cA X.K qNil) := PA.wk pa_nil fun σ H KQ h => by
  obtain ⟨ρ, G, Q, e, a, q, f⟩ := h
  exact f [] H [] G (Tups.refl H) a rfl q
theorem a_cons (ha : PE X e (cE X.K qe)) (hr : PA X es (cA X.K qs)) (hs : starEach (e :: es) X.env = (false, eval e X.env) :: starEach es X.env := by rfl) : PA X (e :: es) (cA X.K (qCons qe qs)) :=
  PA.wk (pa_cons ha hr hs) fun σ H KQ h => by
    obtain ⟨ρ, G, Q, e, a, q, f⟩ := h
    refine ⟨ρ, G, _, e, a, q, fun v H1 t G1 k1 a1 r1 q1 => ?_⟩
    refine ⟨ρ, G1, _, e.mono k1, a1, q1, fun vs H2 ts G2 k2 a2 r2 q2 => ?_⟩
    exact f (v :: vs) H2 (t :: ts) G2 (k1.trans k2) a2 ⟨v, vs, rfl, r1.mono k2, r2⟩ q2
/-- short lists ask nothing -/
def shortL : Nat → List T → Bool
  | _, [] => true
  | 0, _ :: _ => false
  | n + 1, _ :: l => shortL n l
theorem shortL.le : ∀ {n : Nat} {l : List T}, shortL n l = true → l.length ≤ n
  | _, [], _ => Nat.zero_le _
  | 0, _ :: _, h => by cases h
  | n + 1, _ :: l, h => Nat.succ_le_succ (shortL.le (n := n) h)
def lenOk (ts : List T) (P : Prop) : Prop := match shortL 16 ts with
  | true => P
  | false => ts.length ≤ 100000 ∧ P
theorem lenOk.len {ts : List T} {P : Prop} (h : lenOk ts P) : ts.length ≤ 100000 ∧ P := by
  unfold lenOk at h
  split at h
  · rename_i e
    exact ⟨Nat.le_trans (shortL.le e) (by decide), h⟩
  · exact h
theorem lenOk.of {ts : List T} {P : Prop} (h : ts.length ≤ 100000) (p : P) : lenOk ts P := by
  unfold lenOk
  split
  · exact p
  · exact ⟨h, p⟩
def qTup (qa : QA) : QE := fun ρ G Q => qa ρ G fun ts G1 => lenOk ts (Q (.tup ts) G1)
theorem sz100 {n : Nat} (h : n ≤ 100000) : n ≤ sizeLine := Nat.le_trans h (by decide)
theorem e_tup {x1} (h : PA X es (cA X.K qs)) : PE X (.Tuple es x1 pos) (cE X.K (qTup qs)) := PE.wk (pe_tup h) fun σ H KQ h => by
  obtain ⟨ρ, G, Q, e, a, q, f⟩ := h
  refine ⟨ρ, G, _, e, a, q, fun vs H1 ts G1 k1 a1 r1 q1 => ⟨by rw [r1.length]; exact sz100 q1.len.1, fun p hp => ?_⟩⟩
  have q1 := q1.len
  have k2 : Tups H1 (upd H1 p (.tup vs)) := Tups.new hp
  exact f (.ref p) _ (.tup ts) G1 (k1.trans k2) (a1.grow hp) ⟨p, vs, rfl, upd_same, r1.mono k2⟩ q1.2
def qLst (qa : QA) : QE := fun ρ G Q => qa ρ G fun ts G1 => lenOk ts (∀ p, G1 p = none → Q (.ref p) (gput G1 p (.lst ts)))
theorem e_lst (h : PA X es (cA X.K qs)) : PE X (.List es pos) (cE X.K (qLst qs)) := PE.wk (pe_lst h) fun σ H KQ h => by
  obtain ⟨ρ, G, Q, e, a, q, f⟩ := h
  refine ⟨ρ, G, _, e, a, q, fun vs H1 ts G1 k1 a1 r1 q1 => ⟨by rw [r1.length]; exact sz100 q1.len.1, fun p hp => ?_⟩⟩
  have q1 := q1.len
  have k2 : Tups H1 (upd H1 p (.lst vs)) := Tups.new hp
  exact f (.ref p) _ (.ref p) _ (k1.trans k2) (a1.put (o := .lst ts) ⟨fun xs z => (by rw [hp] at z; cases z), fun o xs z => (by rw [hp] at z; cases z)⟩ ⟨vs, upd_same, r1.mono k2⟩) rfl (q1.2 p (a1.free hp))

/-! ### operators -/
def qOp (f : Q2) (qa qb : QE) : QE := fun ρ G Q => qa ρ G fun x G1 => qb ρ G1 fun y G2 => f x y G2 Q
theorem op_wk {f : Q2} {ta tb : TE} (ha : ta = cE X.K qa) (hb : tb = cE X.K qb) : ∀ σ H KQ, cE X.K (qOp f qa qb) σ H KQ → tOp (c2 X.K f) ta tb σ H KQ := fun σ H KQ h => by
  subst ha hb
  obtain ⟨ρ, G, Q, e, a, q, g⟩ := h
  refine ⟨ρ, G, _, e, a, q, fun v H1 t G1 k1 a1 r1 q1 => ?_⟩
  refine ⟨ρ, G1, _, e.mono k1, a1, q1, fun w H2 u G2 k2 a2 r2 q2 => ?_⟩
  exact ⟨t, u, G2, Q, r1.mono k2, r2, a2, q2, g.from (k1.trans k2)⟩
theorem e_op {op : Operator} {f : Q2} (ho : OpR X (binaryOp op) (c2 X.K f)) (ha : PE X a (cE X.K qa)) (hb : PE X b (cE X.K qb)) : PE X (.BinOp a op b pos) (cE X.K (qOp f qa qb)) :=
  PE.wk (pe_op ho ha hb) (op_wk rfl rfl)
theorem e_cmp {op : CmpOp} {f : Q2} (ho : OpR X (compareOp op) (c2 X.K f)) (ha : PE X a (cE X.K qa)) (hb : PE X b (cE X.K qb)) (hm : behindInMarks op b = false) : PE X (.Compare a [op] [b] pos) (cE X.K (qOp f qa qb)) :=
  PE.wk (pe_cmpR ho ha hb hm) (op_wk rfl rfl)
theorem e_ix {f : Q2} (hr : IxR X (c2 X.K f)) (ha : PE X a (cE X.K qa)) (hb : PE X b (cE X.K qb)) (hs : PlainIx b) : PE X (.Subscript a b pos) (cE X.K (qOp f qa qb)) :=
  PE.wk (pe_ix hr ha hb hs) (op_wk rfl rfl)
/-- two comparisons in a row -/
def qChain (f g : Q2) (qa qb qc : QE) : QE := fun ρ G Q => qa ρ G fun x G1 => qb ρ G1 fun y G2 => f x y G2 fun z G3 => match z with
  | .bl k => (k = true → qc ρ G3 fun w G4 => g y w G4 Q) ∧ (k = false → Q (.bl false) G3)
  | _ => False

/-! ### tests -/
def qTB (qe : QE) : QT := fun ρ G Q => qe ρ G fun x G1 => match x with | .bl b => Q b G1 | _ => False
/-- a value's truth -/
def qTr (qe : QE) : QT := fun ρ G Q => qe ρ G fun x G1 => match x with
  | .bl b => Q b G1
  | .non => Q false G1
  | .int i => Q (i != 0) G1
  | .tup ts => Q (!ts.isEmpty) G1
  | .ref a => (∃ ts, G1 a = some (.lst ts) ∧ Q (!ts.isEmpty) G1)
  | _ => False
theorem t_val {e : Expr} (h : PE X e (cE X.K qe)) (he : ∀ whole, isTrue e X.env whole = (do let v ← whole; standAt e.pos; holding [v] (truthy v)) := by intro _; rfl) : PT X e (cT X.K (qTB qe)) :=
  PT.wk (pt_val h he) fun σ H KQ h => by
    obtain ⟨ρ, G, Q, e, a, q, f⟩ := h
    refine ⟨ρ, G, _, e, a, q, fun v H1 t G1 k1 a1 r1 q1 => ?_⟩
    cases t with
    | bl b => exact ⟨b, r1, f b H1 G1 k1 a1 q1⟩
    | _ => exact q1.elim
theorem RpL.isEmpty {K : PySem.W.Frag} {H : Hp} {ts : List T} {vs : List V} (r : RpL K H ts vs) : (!vs.isEmpty) = !ts.isEmpty := by
  have h := r.length
  cases ts <;> cases vs <;> simp at h ⊢
theorem t_tr {e : Expr} (h : PE X e (cE X.K qe)) (he : ∀ whole, isTrue e X.env whole = (do let v ← whole; standAt e.pos; holding [v] (truthy v)) := by intro _; rfl) : PT X e (cT X.K (qTr qe)) :=
  PT.wk (pt_truth h he) fun σ H KQ h => by
    obtain ⟨ρ, G, Q, e, a, q, f⟩ := h
    refine ⟨ρ, G, _, e, a, q, fun v H1 t G1 k1 a1 r1 q1 => ?_⟩
    cases t with
    | bl b => cases r1; exact ⟨b, rfl, f b H1 G1 k1 a1 q1⟩
    | non => cases r1; exact ⟨false, rfl, f _ H1 G1 k1 a1 q1⟩
    | int i => cases r1; exact ⟨_, rfl, f _ H1 G1 k1 a1 q1⟩
    | tup ts =>
      obtain ⟨p, vs, rfl, hp, r⟩ := r1
      exact ⟨_, .inr (.inl ⟨vs, SqT.of hp, rfl⟩), f _ H1 G1 k1 a1 (by rw [r.isEmpty]; exact q1)⟩
    | ref p =>
      cases r1
      obtain ⟨ts, hG, q1⟩ := q1
      obtain ⟨vs, hp, r⟩ := a1 p _ hG
      exact ⟨_, .inl ⟨vs, SqL.of hp, rfl⟩, f _ H1 G1 k1 a1 (by rw [r.isEmpty]; exact q1)⟩
    | _ => exact q1.elim
theorem t_cmp {op : CmpOp} {f : Q2} (ho : OpR X (compareOp op) (c2 X.K f)) (ha : PE X a (cE X.K qa)) (hb : PE X b (cE X.K qb)) (hm : behindInMarks op b = false) : PT X (.Compare a [op] [b] pos) (cT X.K (qTB (qOp f qa qb))) :=
  PT.wk (pt_cmpR ho ha hb hm) fun σ H KQ h => by
    obtain ⟨ρ, G, Q, e, a, q, g⟩ := h
    refine op_wk rfl rfl σ H _ ⟨ρ, G, _, e, a, q, fun v H1 t G1 k1 a1 r1 q1 => ?_⟩
    cases t with
    | bl b => exact ⟨b, r1, g b H1 G1 k1 a1 q1⟩
    | _ => exact q1.elim
def qAnd (t u : QT) : QT := fun ρ G Q => t ρ G fun c G1 => (c = true → u ρ G1 Q) ∧ (c = false → Q false G1)
def qOr (t u : QT) : QT := fun ρ G Q => t ρ G fun c G1 => (c = true → Q true G1) ∧ (c = false → u ρ G1 Q)
def qNot (t : QT) : QT := fun ρ G Q => t ρ G fun c G1 => Q (!c) G1
variable {tA tB' : QT} {rest : List Expr}
theorem t_not (ha : PT X a (cT X.K tA)) : PT X (.UnaryOp .Not a pos) (cT X.K (qNot tA)) := PT.wk (pt_not ha) fun σ H KQ h => by
  obtain ⟨ρ, G, Q, e, a, q, f⟩ := h
  exact ⟨ρ, G, _, e, a, q, fun b H1 G1 k1 a1 q1 => f (!b) H1 G1 k1 a1 q1⟩
theorem w_and (ha : PT X a (cT X.K tA)) (hb : PW X (.BoolOp .And (b :: rest) pos) (cT X.K tB')) : PW X (.BoolOp .And (a :: b :: rest) pos) (cT X.K (qAnd tA tB')) := PW.wk (pw_and ha hb) fun σ H KQ h => by
  obtain ⟨ρ, G, Q, e, a, q, f⟩ := h
  refine ⟨ρ, G, _, e, a, q, fun b H1 G1 k1 a1 q1 => ?_⟩
  cases b with
  | true => exact ⟨ρ, G1, Q, e.mono k1, a1, q1.1 rfl, fun b H2 G2 k2 => f b H2 G2 (k1.trans k2)⟩
  | false => exact f false H1 G1 k1 a1 (q1.2 rfl)
theorem w_or (ha : PT X a (cT X.K tA)) (hb : PW X (.BoolOp .Or (b :: rest) pos) (cT X.K tB')) : PW X (.BoolOp .Or (a :: b :: rest) pos) (cT X.K (qOr tA tB')) := PW.wk (pw_or ha hb) fun σ H KQ h => by
  obtain ⟨ρ, G, Q, e, a, q, f⟩ := h
  refine ⟨ρ, G, _, e, a, q, fun b H1 G1 k1 a1 q1 => ?_⟩
  cases b with
  | true => exact f true H1 G1 k1 a1 (q1.1 rfl)
  | false => exact ⟨ρ, G1, Q, e.mono k1, a1, q1.2 rfl, fun b H2 G2 k2 => f b H2 G2 (k1.trans k2)⟩
/-- as values (bools) -/
def qAndV (t u : QE) : QE := fun ρ G Q => t ρ G fun x G1 => match x with | .bl c => (c = true → u ρ G1 Q) ∧ (c = false → Q (.bl false) G1) | _ => False
def qOrV (t u : QE) : QE := fun ρ G Q => t ρ G fun x G1 => match x with | .bl c => (c = true → Q (.bl true) G1) ∧ (c = false → u ρ G1 Q) | _ => False
def qNotV (t : QE) : QE := fun ρ G Q => t ρ G fun x G1 => match x with | .bl c => Q (.bl !c) G1 | _ => False
theorem e_and (ha : PE X a (cE X.K qa)) (hb : PE X (.BoolOp .And (b :: rest) pos) (cE X.K qb)) : PE X (.BoolOp .And (a :: b :: rest) pos) (cE X.K (qAndV qa qb)) := PE.wk (pe_and ha hb) fun σ H KQ h => by
  obtain ⟨ρ, G, Q, e, a, q, f⟩ := h
  refine ⟨ρ, G, _, e, a, q, fun v H1 t G1 k1 a1 r1 q1 => ?_⟩
  cases t with
  | bl b =>
    refine ⟨b, r1, ?_⟩
    cases b with
    | true => exact ⟨ρ, G1, Q, e.mono k1, a1, q1.1 rfl, f.from k1⟩
    | false => exact f (.bl false) H1 (.bl false) G1 k1 a1 rfl (q1.2 rfl)
  | _ => exact q1.elim
theorem e_or (ha : PE X a (cE X.K qa)) (hb : PE X (.BoolOp .Or (b :: rest) pos) (cE X.K qb)) : PE X (.BoolOp .Or (a :: b :: rest) pos) (cE X.K (qOrV qa qb)) := PE.wk (pe_or ha hb) fun σ H KQ h => by
  obtain ⟨ρ, G, Q, e, a, q, f⟩ := h
  refine ⟨ρ, G, _, e, a, q, fun v H1 t G1 k1 a1 r1 q1 => ?_⟩
  cases t with
  | bl b =>
    refine ⟨b, r1, ?_⟩
    cases b with
    | true => exact f (.bl true) H1 (.bl true) G1 k1 a1 rfl (q1.1 rfl)
    | false => exact ⟨ρ, G1, Q, e.mono k1, a1, q1.2 rfl, f.from k1⟩
  | _ => exact q1.elim
theorem e_not (ha : PE X a (cE X.K qa)) : PE X (.UnaryOp .Not a pos) (cE X.K (qNotV qa)) := PE.wk (pe_not ha) fun σ H KQ h => by
  obtain ⟨ρ, G, Q, e, a, q, f⟩ := h
  refine ⟨ρ, G, _, e, a, q, fun v H1 t G1 k1 a1 r1 q1 => ?_⟩
  cases t with
  | bl b => exact ⟨b, r1, f (.bl !b) H1 (.bl !b) G1 k1 a1 rfl q1⟩
  | _ => exact q1.elim
def qIf (t : QT) (qa qb : QE) : QE := fun ρ G Q => t ρ G fun c G1 => (c = true → qa ρ G1 Q) ∧ (c = false → qb ρ G1 Q)
theorem e_if (hc : PT X c (cT X.K tA)) (ha : PE X a (cE X.K qa)) (hb : PE X b (cE X.K qb)) : PE X (.IfExp c a b pos) (cE X.K (qIf tA qa qb)) := PE.wk (pe_ifExp hc ha hb) fun σ H KQ h => by
  obtain ⟨ρ, G, Q, e, a, q, f⟩ := h
  refine ⟨ρ, G, _, e, a, q, fun b H1 G1 k1 a1 q1 => ?_⟩
  cases b with
  | true => exact ⟨ρ, G1, Q, e.mono k1, a1, q1.1 rfl, f.from k1⟩
  | false => exact ⟨ρ, G1, Q, e.mono k1, a1, q1.2 rfl, f.from k1⟩
end
end Lw

set_option Elab.async false
set_option linter.all false
set_option maxRecDepth 100000
set_option maxHeartbeats 4000000
namespace Lw
open PySem PySem.Spec PyProof.Rows L2

/-! ### operators by value -/
def MulOk (i j : Int) : Prop := ∃ a b : Nat, i.natAbs < 2 ^ a ∧ j.natAbs < 2 ^ b ∧ a + b ≤ 900000
def DivOk (j : Int) : Prop := 0 < j ∧ ∃ b : Nat, j.natAbs < 2 ^ b ∧ b ≤ 8999
theorem pow_up {a : Nat} {x : Nat} (h : x < 2 ^ a) : x < 2 ^ (a + 1) := Nat.lt_of_lt_of_le h (Nat.pow_le_pow_right (by decide) (Nat.le_succ a))
theorem MulOk.w {i j : Int} (h : MulOk i j) : CMulW i j := by
  obtain ⟨a, b, h1, h2, h3⟩ := h
  exact wide_mul (pow_up h1) (pow_up h2) (Nat.succ_pos _) (Nat.succ_pos _) (by omega)
theorem DivOk.w {j : Int} (h : DivOk j) (i : Int) : CDivW i j := by
  obtain ⟨h0, b, h1, h2⟩ := h
  exact wide_div h0 (pow_up h1) (Nat.succ_pos _) (by omega)
def fAdd : Q2 := fun x y G Q => match x, y with
  | .int i, .int j => Q (.int (i + j)) G
  | .tup xs, .tup ys => xs.length + ys.length ≤ 100000 ∧ Q (.tup (xs ++ ys)) G
  | .str i, .str j => i.length + j.length ≤ 100000 ∧ Q (.str (i ++ j)) G
  | .ref a, .ref b => ∃ xs ys, G a = some (.lst xs) ∧ G b = some (.lst ys) ∧ xs.length + ys.length ≤ 100000 ∧ ∀ p, G p = none → Q (.ref p) (gput G p (.lst (xs ++ ys)))
  | _, _ => False
def fSub : Q2 := fun x y G Q => match x, y with
  | .int i, .int j => Q (.int (i - j)) G
  | _, _ => False
def fMul : Q2 := fun x y G Q => match x, y with
  | .int i, .int j => MulOk i j ∧ Q (.int (i * j)) G
  | _, _ => False
def fMod : Q2 := fun x y G Q => match x, y with
  | .int i, .int j => 0 < j ∧ Q (.int (i % j)) G
  | _, _ => False
def fDiv : Q2 := fun x y G Q => match x, y with
  | .int i, .int j => DivOk j ∧ Q (.int (i / j)) G
  | _, _ => False
/-- a written power -/
def fPow : Q2 := fun x y G Q => match x, y with
  | .int i, .int j => CPow i j ∧ Q (.int (i ^ j.toNat)) G
  | _, _ => False
def fLt : Q2 := fun x y G Q => match x, y with
  | .int i, .int j => Q (.bl (decide (i < j))) G
  | .str i, .str j => Q (.bl (decide (i.cps.toList < j.cps.toList))) G
  | _, _ => False
def fLe : Q2 := fun x y G Q => match x, y with
  | .int i, .int j => Q (.bl (decide (i ≤ j))) G
  | _, _ => False
def fGt : Q2 := fun x y G Q => match x, y with
  | .int i, .int j => Q (.bl (decide (j < i))) G
  | _, _ => False
def fGe : Q2 := fun x y G Q => match x, y with
  | .int i, .int j => Q (.bl (decide (j ≤ i))) G
  | _, _ => False
section
variable {X : Cx}
theorem o_int {f : Value → Value → Sem Value} {C : Int → Int → Prop} {g : Int → Int → V} {q : Q2} (h : OpR X f (rI C g)) (gt : Int → Int → T) (hg : ∀ H i j, Rp X.K H (gt i j) (g i j))
    (hq : ∀ x y G Q, q x y G Q → ∃ i j, x = .int i ∧ y = .int j ∧ C i j ∧ Q (gt i j) G) : OpR X f (c2 X.K q) := by
  intro pins s σ H v w u u' KQ I rv rw' h2
  obtain ⟨x, y, G, Q, hx, hy, ha, hf, hk⟩ := h2
  obtain ⟨i, j, rfl, rfl, hc, hQ⟩ := hq _ _ _ _ hf
  exact h pins s σ H v w u u' KQ I rv rw' ⟨i, j, hx, hy, hc, hk _ H _ G (Tups.refl H) ha (hg H i j) hQ⟩
theorem rI_of {f : Value → Value → Sem Value} {g : Int → Int → V} (h : OpR X f (rI0 g)) : OpR X f (rI (fun _ _ => True) g) := fun pins s σ H v w u u' KQ I rv rw' ⟨i, j, a, b, _, q⟩ => h pins s σ H v w u u' KQ I rv rw' ⟨i, j, a, b, q⟩
theorem o_sub : OpR X (binaryOp .Sub) (c2 X.K fSub) := o_int (rI_of op_sub) (fun i j => .int (i - j)) (fun _ _ _ => rfl) fun x y G Q h => by
  unfold fSub at h
  split at h
  · exact ⟨_, _, rfl, rfl, trivial, h⟩
  · exact h.elim
theorem o_mul0 : OpR X (binaryOp .Mult) (c2 X.K fMul) := o_int op_mulW (fun i j => .int (i * j)) (fun _ _ _ => rfl) fun x y G Q h => by
  unfold fMul at h
  split at h
  · exact ⟨_, _, rfl, rfl, h.1.w, h.2⟩
  · exact h.elim
theorem o_mod : OpR X (binaryOp .Mod) (c2 X.K fMod) := o_int op_mod (fun i j => .int (i % j)) (fun _ _ _ => rfl) fun x y G Q h => by
  unfold fMod at h
  split at h
  · exact ⟨_, _, rfl, rfl, h.1, h.2⟩
  · exact h.elim
theorem o_div : OpR X (binaryOp .FloorDiv) (c2 X.K fDiv) := o_int op_fdivW (fun i j => .int (i / j)) (fun _ _ _ => rfl) fun x y G Q h => by
  unfold fDiv at h
  split at h
  · exact ⟨_, _, rfl, rfl, h.1.w _, h.2⟩
  · exact h.elim
theorem o_pow : OpR X (binaryOp .Pow) (c2 X.K fPow) := o_int op_pow (fun i j => .int (i ^ j.toNat)) (fun _ _ _ => rfl) fun x y G Q h => by
  unfold fPow at h
  split at h
  · exact ⟨_, _, rfl, rfl, h.1, h.2⟩
  · exact h.elim
theorem o_lt : OpR X (compareOp .Lt) (c2 X.K fLt) := by
  intro pins s σ H v w u u' KQ I rv rw' h2
  obtain ⟨x, y, G, Q, hx, hy, ha, hf, hk⟩ := h2
  unfold fLt at hf
  split at hf
  · exact op_lt pins s σ H v w u u' KQ I rv rw' ⟨_, _, hx, hy, hk _ H _ G (Tups.refl H) ha (show Rp X.K H (.bl _) (.bl _) from rfl) hf⟩
  · exact op_lt_str pins s σ H v w u u' KQ I rv rw' ⟨_, _, hx, hy, hk _ H _ G (Tups.refl H) ha (show Rp X.K H (.bl _) (.bl _) from rfl) hf⟩
  · exact hf.elim
theorem o_le : OpR X (compareOp .LtE) (c2 X.K fLe) := o_int (rI_of op_le) (fun i j => .bl (decide (i ≤ j))) (fun _ _ _ => rfl) fun x y G Q h => by
  unfold fLe at h
  split at h
  · exact ⟨_, _, rfl, rfl, trivial, h⟩
  · exact h.elim
theorem o_gt : OpR X (compareOp .Gt) (c2 X.K fGt) := o_int (rI_of op_gt) (fun i j => .bl (decide (j < i))) (fun _ _ _ => rfl) fun x y G Q h => by
  unfold fGt at h
  split at h
  · exact ⟨_, _, rfl, rfl, trivial, h⟩
  · exact h.elim
theorem o_ge : OpR X (compareOp .GtE) (c2 X.K fGe) := o_int (rI_of op_ge) (fun i j => .bl (decide (j ≤ i))) (fun _ _ _ => rfl) fun x y G Q h => by
  unfold fGe at h
  split at h
  · exact ⟨_, _, rfl, rfl, trivial, h⟩
  · exact h.elim
theorem o_add : OpR X (binaryOp .Add) (c2 X.K fAdd) := by
  intro pins s σ H v w u u' KQ I rv rw' h2
  obtain ⟨x, y, G, Q, hx, hy, ha, hf, hk⟩ := h2
  unfold fAdd at hf
  split at hf
  · exact op_add pins s σ H v w u u' KQ I rv rw' ⟨_, _, hx, hy, hk _ H _ G (Tups.refl H) ha (show Rp X.K H (.int _) (.int _) from rfl) hf⟩
  · obtain ⟨p, vs, rfl, hp, r⟩ := hx
    obtain ⟨q, ws, rfl, hq, r'⟩ := hy
    rename_i xs ys
    refine op_catA pins s σ H _ _ u u' KQ I rv rw' ⟨p, q, vs, ws, rfl, rfl, SqT.of hp, SqT.of hq, by rw [r.length, r'.length]; exact sz100 hf.1, fun e => ?_, fun e1 e2 => ?_, fun e1 e2 l hl => ?_⟩
    · subst e
      have e0 : xs = [] := List.eq_nil_of_length_eq_zero r.length.symm
      subst e0
      exact hk _ H _ G (Tups.refl H) ha (show Rp X.K H (.tup ([] ++ ys)) _ from ⟨q, ws, rfl, hq, r'⟩) hf.2
    · subst e2
      have e0 : ys = [] := List.eq_nil_of_length_eq_zero r'.length.symm
      subst e0
      have hf2 := hf.2
      rw [List.append_nil] at hf2
      exact hk _ H _ G (Tups.refl H) ha (show Rp X.K H (.tup xs) _ from ⟨p, vs, rfl, hp, r⟩) hf2
    · have k : Tups H (upd H l (.tup (vs ++ ws))) := Tups.new hl
      exact hk _ _ _ G k (ha.grow hl) (show Rp X.K _ (.tup (xs ++ ys)) _ from ⟨l, _, rfl, upd_same, (r.append r').mono k⟩) hf.2
  · exact op_add_str pins s σ H v w u u' KQ I rv rw' ⟨_, _, hx, hy, sz100 hf.1, hk _ H _ G (Tups.refl H) ha (show Rp X.K H (.str _) (.str _) from rfl) hf.2⟩
  · obtain ⟨xs, ys, ga, gb, hz, hf⟩ := hf
    cases hx
    cases hy
    obtain ⟨vs, hp, r⟩ := ha _ _ ga
    obtain ⟨ws, hq, r'⟩ := ha _ _ gb
    refine op_cat pins s σ H _ _ u u' KQ I rv rw' ⟨_, _, vs, ws, rfl, rfl, hp, hq, by rw [r.length, r'.length]; exact sz100 hz, fun l hl => ?_⟩
    have k : Tups H (upd H l (.lst (vs ++ ws))) := Tups.new hl
    exact hk _ _ _ _ k (ha.put (o := .lst (xs ++ ys)) ⟨fun xs z => (by rw [hl] at z; cases z), fun o xs z => (by rw [hl] at z; cases z)⟩ ⟨_, upd_same, (r.append r').mono k⟩) (show Rp X.K _ (.ref l) _ from rfl) (hf l (ha.free hl))
  · exact hf.elim
end

/-! ### subscripts -/
/-- a written index of a tuple or list: it computes -/
def fIxC : Q2 := fun x y G Q => match x, y with
  | .tup ts, .int (.ofNat n) => (match nth ts n with | some t => Q t G | none => False)
  | .ref a, .int (.ofNat n) => ∃ ts, G a = some (.lst ts) ∧ (match nth ts n with | some t => Q t G | none => False)
  | _, _ => False
def fIx : Q2 := fun x y G Q => match x, y with
  | .tup ts, .int i => ∃ n t, ixN ts.length i = some n ∧ ts[n]? = some t ∧ Q t G
  | .ref a, .int i => ∃ ts n t, G a = some (.lst ts) ∧ ixN ts.length i = some n ∧ ts[n]? = some t ∧ Q t G
  | .scr ns, .int i => ∃ n m, ixN ns.length i = some n ∧ ns[n]? = some m ∧ Q (.int m) G
  | _, _ => False
theorem nth_get {α : Type} : ∀ {l : List α} {n : Nat}, nth l n = l[n]?
  | [], n => by simp [nth]
  | a :: l, 0 => rfl
  | a :: l, n + 1 => by simp only [nth, List.getElem?_cons_succ]; exact nth_get
theorem RpL.atI {K : PySem.W.Frag} {H : Hp} {ts : List T} {vs : List V} {i : Int} {n : Nat} {t : T} (r : RpL K H ts vs) (h : ixN ts.length i = some n) (e : ts[n]? = some t) : ∃ v, L2.atI vs i = some v ∧ Rp K H t v := by
  obtain ⟨v, h1, h2⟩ := r.at e
  refine ⟨v, ?_, h2⟩
  unfold L2.atI
  rw [r.length, h]
  exact h1
theorem ixN_nat {n len : Nat} (h : n < len) : ixN len (Int.ofNat n) = some n := by
  show ixN len ((n : Nat) : Int) = some n
  unfold ixN
  rw [if_pos (Int.natCast_nonneg n), if_pos (show ((n : Nat) : Int) < (len : Int) from Int.ofNat_lt.mpr h)]
  rfl
section
variable {X : Cx}
theorem scr_sq {K : PySem.W.Frag} {H : Hp} {ns : List Int} {v : V} (h : Rp K H (.scr ns) v) : ∃ a, v = .ref a ∧ SqL K H a (ns.map V.int) := by
  obtain ⟨a, e, h⟩ := h
  exact ⟨a, e, h.imp (fun ⟨o, q⟩ => .inr ⟨o, q⟩) id⟩
theorem i_ix : IxR X (c2 X.K fIx) := by
  intro value slice pins s σ H v w u u' KQ I rv rw' h2 hs
  obtain ⟨x, y, G, Q, hx, hy, ha, hf, hk⟩ := h2
  unfold fIx at hf
  split at hf
  · obtain ⟨n, t, h1, h2, hf⟩ := hf
    obtain ⟨p, vs, rfl, hp, r⟩ := hx
    obtain ⟨z, hz, rz⟩ := r.atI h1 h2
    exact ix_tup value slice pins s σ H _ _ u u' KQ I rv rw' ⟨p, vs, _, z, rfl, hy, SqT.of hp, hz, hk _ H _ G (Tups.refl H) ha rz hf⟩ hs
  · obtain ⟨ts, n, t, hg, h1, h2, hf⟩ := hf
    cases hx
    obtain ⟨vs, hp, r⟩ := ha _ _ hg
    obtain ⟨z, hz, rz⟩ := r.atI h1 h2
    exact ix_list value slice pins s σ H _ _ u u' KQ I rv rw' ⟨_, vs, _, z, rfl, hy, SqL.of hp, hz, hk _ H _ G (Tups.refl H) ha rz hf⟩ hs
  · obtain ⟨n, m, h1, h2, hf⟩ := hf
    obtain ⟨a, rfl, hq⟩ := scr_sq hx
    refine ix_list value slice pins s σ H _ _ u u' KQ I rv rw' ⟨_, _, _, .int m, rfl, hy, hq, ?_, hk _ H (.int m) G (Tups.refl H) ha rfl hf⟩ hs
    unfold L2.atI
    rw [List.length_map, h1]
    simp [h2]
  · exact hf.elim
theorem i_ixC : IxR X (c2 X.K fIxC) := by
  intro value slice pins s σ H v w u u' KQ I rv rw' h2 hs
  obtain ⟨x, y, G, Q, hx, hy, ha, hf, hk⟩ := h2
  refine i_ix value slice pins s σ H v w u u' KQ I rv rw' ⟨x, y, G, Q, hx, hy, ha, ?_, hk⟩ hs
  unfold fIxC at hf
  split at hf
  · rename_i ts n
    split at hf
    · rename_i t h
      rw [nth_get] at h
      exact ⟨n, t, ixN_nat (List.getElem?_eq_some_iff.mp h).1, h, hf⟩
    · exact hf.elim
  · rename_i a n
    obtain ⟨ts, hg, hf⟩ := hf
    split at hf
    · rename_i t h
      rw [nth_get] at h
      exact ⟨ts, n, t, hg, ixN_nat (List.getElem?_eq_some_iff.mp h).1, h, hf⟩
    · exact hf.elim
  · exact hf.elim
end

/-! ### calls of built-ins -/
def qCB (f : QC) (qa : QA) : QE := fun ρ G Q => qa ρ G fun ts G1 => f ts G1 Q
section
variable {X : Cx} {x : Str} {p pos : Pos} {e : Expr} {es : List Expr} {qa : QA} {id Ty : String} {f : QC}
theorem cb_wk : ∀ σ H KQ, cE X.K (qCB f qa) σ H KQ → tCB (cC X.K f) (cA X.K qa) σ H KQ := fun σ H KQ h => by
  obtain ⟨ρ, G, Q, e, a, q, g⟩ := h
  exact ⟨ρ, G, _, e, a, q, fun vs H1 ts G1 k1 a1 r1 q1 => ⟨ts, G1, Q, r1, a1, q1, g.from k1⟩⟩
theorem e_callB (hc : CallR X (.builtin id) (cC X.K f)) (hg : Gl X x) (hm : X.mg x = none) (hv : bootBuiltins x = some (.builtin id)) (ha : PA X (e :: es) (cA X.K qa)) (hn : x ≠ "__name__" := by decide) (hdb : (x == ("__debug__" : Str)) = false := by decide)
    (he : starEach (e :: es) X.env = (false, eval e X.env) :: starEach es X.env := by rfl) (hpl : (backTo pos (starEach es X.env)).any (·.1) = false := by rfl) : PE X (.Call (.Name x p) (e :: es) [] pos) (cE X.K (qCB f qa)) :=
  PE.wk (pe_callB hc hg hm hv ha hn hdb he hpl) cb_wk
theorem e_callTy (hc : CallR X (.type Ty) (cC X.K f)) (hg : Gl X x) (hm : X.mg x = none) (hv : bootBuiltins x = some (.type Ty)) (ha : PA X (e :: es) (cA X.K qa)) (hn : x ≠ "__name__" := by decide) (hdb : (x == ("__debug__" : Str)) = false := by decide)
    (he : starEach (e :: es) X.env = (false, eval e X.env) :: starEach es X.env := by rfl) (hpl : (backTo pos (starEach es X.env)).any (·.1) = false := by rfl) : PE X (.Call (.Name x p) (e :: es) [] pos) (cE X.K (qCB f qa)) :=
  PE.wk (pe_callTy hc hg hm hv ha hn hdb he hpl) cb_wk
end
def fLen : QC := fun ts G Q => match ts with
  | [.tup xs] => Q (.int xs.length) G
  | [.scr ns] => Q (.int ns.length) G
  | [.str x] => x.length ≤ 100000 ∧ Q (.int x.length) G
  | [.ref a] => ∃ xs, G a = some (.lst xs) ∧ Q (.int xs.length) G
  | _ => False
def fAbs : QC := fun ts G Q => match ts with
  | [.int i] => Q (.int (if i < 0 then -i else i)) G
  | _ => False
def fMin2 : QC := fun ts G Q => match ts with
  | [.int i, .int j] => Q (.int (if j < i then j else i)) G
  | _ => False
def fMax2 : QC := fun ts G Q => match ts with
  | [.int i, .int j] => Q (.int (if j > i then j else i)) G
  | _ => False
def fTuple : QC := fun ts G Q => match ts with
  | [.ref a] => ∃ xs, G a = some (.lst xs) ∧ Q (.tup xs) G
  | [.tup xs] => Q (.tup xs) G
  | _ => False
def fList : QC := fun ts G Q => match ts with
  | [.ref a] => ∃ xs, G a = some (.lst xs) ∧ ∀ p, G p = none → Q (.ref p) (gput G p (.lst xs))
  | [.tup xs] => ∀ p, G p = none → Q (.ref p) (gput G p (.lst xs))
  | _ => False
section
variable {X : Cx}
theorem rpl1 {K : PySem.W.Frag} {H : Hp} {t : T} {vs : List V} (h : RpL K H [t] vs) : ∃ v, vs = [v] ∧ Rp K H t v := by
  obtain ⟨v, r, e, h, hr⟩ := h
  rw [show r = [] from hr] at e
  exact ⟨v, e, h⟩
theorem rpl2 {K : PySem.W.Frag} {H : Hp} {t u : T} {vs : List V} (h : RpL K H [t, u] vs) : ∃ v w, vs = [v, w] ∧ Rp K H t v ∧ Rp K H u w := by
  obtain ⟨v, r, e, h, hr⟩ := h
  obtain ⟨w, rfl, h2⟩ := rpl1 hr
  exact ⟨v, w, e, h, h2⟩
theorem b_len : CallR X (.builtin "len") (cC X.K fLen) := by
  intro pins s σ H vs us KQ I r h
  obtain ⟨ts, G, Q, hr, ha, hf, hk⟩ := h
  unfold fLen at hf
  split at hf
  · obtain ⟨v, rfl, h1⟩ := rpl1 hr
    obtain ⟨p, ws, rfl, hp, rr⟩ := h1
    exact call_len pins s σ H _ us KQ I r ⟨_, ws.length, rfl, .inr ⟨ws, SqT.of hp, rfl⟩, hk _ H (.int _) G (Tups.refl H) ha (by rw [rr.length]; rfl) hf⟩
  · obtain ⟨v, rfl, h1⟩ := rpl1 hr
    obtain ⟨a, rfl, hq⟩ := scr_sq h1
    exact call_len pins s σ H _ us KQ I r ⟨_, _, rfl, .inl ⟨_, hq, rfl⟩, hk _ H (.int _) G (Tups.refl H) ha (by rw [List.length_map]; rfl) hf⟩
  · obtain ⟨v, rfl, h1⟩ := rpl1 hr
    cases h1
    exact call_len pins s σ H _ us KQ I r ⟨_, _, rfl, ⟨sz100 hf.1, rfl⟩, hk _ H (.int _) G (Tups.refl H) ha rfl hf.2⟩
  · obtain ⟨v, rfl, h1⟩ := rpl1 hr
    cases h1
    obtain ⟨xs, hg, hf⟩ := hf
    obtain ⟨ws, hp, rr⟩ := ha _ _ hg
    exact call_len pins s σ H _ us KQ I r ⟨_, ws.length, rfl, .inl ⟨ws, SqL.of hp, rfl⟩, hk _ H (.int _) G (Tups.refl H) ha (by rw [rr.length]; rfl) hf⟩
  · exact hf.elim
theorem b_abs : CallR X (.builtin "abs") (cC X.K fAbs) := by
  intro pins s σ H vs us KQ I r h
  obtain ⟨ts, G, Q, hr, ha, hf, hk⟩ := h
  unfold fAbs at hf
  split at hf
  · obtain ⟨v, rfl, h1⟩ := rpl1 hr
    cases h1
    exact call_abs pins s σ H _ us KQ I r ⟨_, rfl, hk _ H (.int _) G (Tups.refl H) ha rfl hf⟩
  · exact hf.elim
theorem b_min2 (hc : X.calm = true) : CallR X (.builtin "min") (cC X.K fMin2) := by
  intro pins s σ H vs us KQ I r h
  obtain ⟨ts, G, Q, hr, ha, hf, hk⟩ := h
  unfold fMin2 at hf
  split at hf
  · obtain ⟨v, w, rfl, h1, h2⟩ := rpl2 hr
    cases h1; cases h2
    exact call_min2 hc pins s σ H _ us KQ I r ⟨_, _, rfl, hk _ H (.int _) G (Tups.refl H) ha rfl hf⟩
  · exact hf.elim
theorem b_max2 (hc : X.calm = true) : CallR X (.builtin "max") (cC X.K fMax2) := by
  intro pins s σ H vs us KQ I r h
  obtain ⟨ts, G, Q, hr, ha, hf, hk⟩ := h
  unfold fMax2 at hf
  split at hf
  · obtain ⟨v, w, rfl, h1, h2⟩ := rpl2 hr
    cases h1; cases h2
    exact call_max2 hc pins s σ H _ us KQ I r ⟨_, _, rfl, hk _ H (.int _) G (Tups.refl H) ha rfl hf⟩
  · exact hf.elim
theorem b_tuple : CallR X (.type "tuple") (cC X.K fTuple) := by
  intro pins s σ H vs us KQ I r h
  obtain ⟨ts, G, Q, hr, ha, hf, hk⟩ := h
  unfold fTuple at hf
  split at hf
  · obtain ⟨v, rfl, h1⟩ := rpl1 hr
    cases h1
    obtain ⟨xs, hg, hf⟩ := hf
    obtain ⟨ws, hp, rr⟩ := ha _ _ hg
    refine call_tuple_of pins s σ H _ us KQ I r ⟨_, ws, rfl, .inl ⟨SqL.of hp, fun l hl => ?_⟩⟩
    have k : Tups H (upd H l (.tup ws)) := Tups.new hl
    exact hk _ _ (.tup xs) G k (ha.grow hl) ⟨l, ws, rfl, upd_same, rr.mono k⟩ hf
  · obtain ⟨v, rfl, h1⟩ := rpl1 hr
    obtain ⟨p, ws, rfl, hp, rr⟩ := id h1
    exact call_tuple_of pins s σ H _ us KQ I r ⟨_, ws, rfl, .inr ⟨SqT.of hp, hk _ H _ G (Tups.refl H) ha h1 hf⟩⟩
  · exact hf.elim
theorem b_list : CallR X (.type "list") (cC X.K fList) := by
  intro pins s σ H vs us KQ I r h
  obtain ⟨ts, G, Q, hr, ha, hf, hk⟩ := h
  unfold fList at hf
  split at hf
  · obtain ⟨v, rfl, h1⟩ := rpl1 hr
    cases h1
    obtain ⟨xs, hg, hf⟩ := hf
    obtain ⟨ws, hp, rr⟩ := ha _ _ hg
    refine call_list_of pins s σ H _ us KQ I r ⟨_, ws, rfl, .inl (SqL.of hp), fun l hl => ?_⟩
    have k : Tups H (upd H l (.lst ws)) := Tups.new hl
    exact hk _ _ _ _ k (ha.put (o := .lst xs) ⟨fun xs z => (by rw [hl] at z; cases z), fun o xs z => (by rw [hl] at z; cases z)⟩ ⟨_, upd_same, rr.mono k⟩) (show Rp X.K _ (.ref l) _ from rfl) (hf l (ha.free hl))
  · obtain ⟨v, rfl, h1⟩ := rpl1 hr
    obtain ⟨p, ws, rfl, hp, rr⟩ := id h1
    refine call_list_of pins s σ H _ us KQ I r ⟨_, ws, rfl, .inr (SqT.of hp), fun l hl => ?_⟩
    have k : Tups H (upd H l (.lst ws)) := Tups.new hl
    exact hk _ _ _ _ k (ha.put (o := .lst _) ⟨fun xs z => (by rw [hl] at z; cases z), fun o xs z => (by rw [hl] at z; cases z)⟩ ⟨_, upd_same, rr.mono k⟩) (show Rp X.K _ (.ref l) _ from rfl) (hf l (ha.free hl))
  · exact hf.elim
end

/-! ### calls of defs -/
abbrev X0 : XQ := fun _ _ _ => False
def qCall (sp : QSp) (qa : QA) : QE := fun ρ G Q => qa ρ G fun ts G1 => sp ts G1 Q X0
section
variable {X : Cx} {CX : CXT} {k : Nat} {f : Addr} {fd : FuncData} {ps : List Str} {sp : QSp} {x : Str} {p pos : Pos} {e : Expr} {es : List Expr} {qa : QA}
theorem folx0 {K : PySem.W.Frag} {H : Hp} : FolX K H X0 E0 := fun _ _ _ _ _ _ _ _ z => z.elim
theorem e_call (F : FnOk X.prog X.w X.K X.mg X.base CX k f fd ps (cSp X.K sp)) (hr : Room k X.A) (hg : Gl X x) (hm : X.mg x = some (.ref f)) (hk : PySem.W.keepIn X.K (.ref f) = true) (hb : Binds X.K fd ps []) (hx : Passes CX X E0)
    (ha : PA X (e :: es) (cA X.K qa)) (hdb : (x == ("__debug__" : Str)) = false := by decide) (he : starEach (e :: es) X.env = (false, eval e X.env) :: starEach es X.env := by rfl) (hpl : (backTo pos (starEach es X.env)).any (·.1) = false := by rfl) :
    PE X (.Call (.Name x p) (e :: es) [] pos) (cE X.K (qCall sp qa)) := PE.wk (pe_call F hr hg hm hk hb .nil hx ha hdb he hpl) fun σ H KQ h => by
  obtain ⟨ρ, G, Q, e, a, q, g⟩ := h
  refine ⟨ρ, G, _, e, a, q, fun vs H1 ts G1 k1 a1 r1 q1 => ?_⟩
  exact ⟨ts, G1, Q, X0, by rw [List.append_nil]; exact r1, a1, q1, g.from k1, folx0⟩
end

/-! ### statements -/
section
variable {X : Cx} {st : Stmt} {rest : List Stmt} {q1 q2 : QS} {e : Expr} {qe : QE} {pos : Pos}
def qNext : QS := fun D ρ G => D.nx ρ G
def qSeq (t u : QS) : QS := fun D ρ G => t { D with nx := u D } ρ G
theorem ss_nil : PSs X [] (cS X.K qNext) := PSs.wk pss_nil fun D σ H h => by
  obtain ⟨ρ, G, D', e, a, q, f⟩ := h
  exact f.nx σ H ρ G (Tups.refl H) e a q
theorem ss_cons (h1 : PS X st (cS X.K q1)) (h2 : PSs X rest (cS X.K q2)) : PSs X (st :: rest) (cS X.K (qSeq q1 q2)) := PSs.wk (pss_cons h1 h2) fun D σ H h => by
  obtain ⟨ρ, G, D', e, a, q, f⟩ := h
  exact ⟨ρ, G, _, e, a, q, ⟨fun σ' H' ρ' G' k e' a' q' => ⟨ρ', G', D', e', a', q', f.from k⟩, f.rt, f.bk, f.ct⟩⟩
theorem ss_one (h1 : PS X st (cS X.K q1)) : PSs X [st] (cS X.K q1) := pss_one h1
def qNever : QS := fun _ _ _ => False
theorem s_never : PS X st (cS X.K qNever) := PS.wk ps_never fun D σ H h => by
  obtain ⟨ρ, G, D', e, a, q, f⟩ := h
  exact q
theorem ss_never {sts : List Stmt} : PSs X sts (cS X.K qNever) := PSs.wk pss_never fun D σ H h => by
  obtain ⟨ρ, G, D', e, a, q, f⟩ := h
  exact q
theorem s_pass : PS X (.Pass pos) (cS X.K qNext) := PS.wk ps_pass fun D σ H h => by
  obtain ⟨ρ, G, D', e, a, q, f⟩ := h
  exact f.nx σ H ρ G (Tups.refl H) e a q
def qDrop (qe : QE) : QS := fun D ρ G => qe ρ G fun _ G1 => D.nx ρ G1
theorem s_expr (he : PE X e (cE X.K qe)) (hs : swapsWith e none pos.line X.env = pure false := by rfl) : PS X (.Expr e pos) (cS X.K (qDrop qe)) := PS.wk (ps_expr he hs) fun D σ H h => by
  obtain ⟨ρ, G, D', e, a, q, f⟩ := h
  exact ⟨ρ, G, _, e, a, q, fun v H1 t G1 k1 a1 _ q1 => f.nx σ H1 ρ G1 k1 (e.mono k1) a1 q1⟩
def qRet (qe : QE) : QS := fun D ρ G => qe ρ G D.rt
theorem s_ret (he : PE X e (cE X.K qe)) : PS X (.Return (some e) pos) (cS X.K (qRet qe)) := PS.wk (ps_ret he) fun D σ H h => by
  obtain ⟨ρ, G, D', e, a, q, f⟩ := h
  exact ⟨ρ, G, _, e, a, q, f.rt⟩
def qRetN : QS := fun D _ G => D.rt .non G
theorem s_retN : PS X (.Return none pos) (cS X.K qRetN) := PS.wk ps_retN fun D σ H h => by
  obtain ⟨ρ, G, D', e, a, q, f⟩ := h
  exact f.rt _ H .non G (Tups.refl H) a rfl q
def qIfS (c : QT) (t u : QS) : QS := fun D ρ G => c ρ G fun b G1 => (b = true → t D ρ G1) ∧ (b = false → u D ρ G1)
theorem s_if {c : Expr} {a b : List Stmt} {qc : QT} (hc : PT X c (cT X.K qc)) (ha : PSs X a (cS X.K q1)) (hb : PSs X b (cS X.K q2)) : PS X (.If c a b pos) (cS X.K (qIfS qc q1 q2)) := PS.wk (ps_if hc ha hb) fun D σ H h => by
  obtain ⟨ρ, G, D', e, a, q, f⟩ := h
  refine ⟨ρ, G, _, e, a, q, fun b H1 G1 k1 a1 q1 => ?_⟩
  cases b with
  | true => exact ⟨ρ, G1, D', e.mono k1, a1, q1.1 rfl, f.from k1⟩
  | false => exact ⟨ρ, G1, D', e.mono k1, a1, q1.2 rfl, f.from k1⟩

/-! targets -/
variable {own : List Nat} {tg : Expr} {qg : QG} {qgs : QGs} {es : List Expr}
def gNm (i : Nat) : QG := fun t ρ G Q => putK ρ i (some t) fun ρ' => Q ρ' G
theorem wipe_go {i : Nat} {w : Option V} : ∀ (vs : List Nat) (σ : L2.St), wipe (σ.set i w) vs = (wipe σ vs).set i w ∨ wipe (σ.set i w) vs = wipe σ vs := by
  intro vs
  induction vs with
  | nil => intro σ; exact .inl rfl
  | cons u us ih =>
    intro σ
    show ((wipe (σ.set i w) us).set u none = ((wipe σ us).set u none).set i w) ∨ ((wipe (σ.set i w) us).set u none = (wipe σ us).set u none)
    rcases ih σ with e | e
    · rw [e]
      by_cases hu : u = i
      · subst hu
        right
        rw [List.set_set]
      · left
        rw [List.set_comm _ _ (Ne.symm hu)]
    · right; rw [e]
theorem wipe_wipe {σ : L2.St} : ∀ {vs : List Nat}, wipe (wipe σ vs) vs = wipe σ vs := by
  intro vs
  induction vs with
  | nil => rfl
  | cons v us ih =>
    show (wipe ((wipe σ us).set v none) us).set v none = (wipe σ us).set v none
    rcases wipe_go (i := v) (w := none) us (wipe σ us) with e | e
    · rw [e, List.set_set, ih]
    · rw [e, ih]
theorem wipe_set {σ : L2.St} {i : Nat} {w : Option V} : ∀ {vs : List Nat}, i ∈ vs → wipe (σ.set i w) vs = wipe σ vs
  | [], h => absurd h (by simp)
  | v :: vs, h => by
    show (wipe (σ.set i w) vs).set v none = (wipe σ vs).set v none
    by_cases hv : i = v
    · subst hv
      rcases wipe_go (i := i) (w := w) vs σ with e | e
      · rw [e, List.set_set]
      · rw [e]
    · have hm : i ∈ vs := by
        rcases List.mem_cons.mp h with z | z
        · exact absurd z hv
        · exact z
      rw [wipe_set hm]
theorem g_name {i : Nat} {x : Str} (hN : X.N.Nodup) (hi : X.N[i]? = some x) (hx : Loc X.env.scope x) (ho : i ∈ own := by decide) (hf : X.fn x = true ∨ X.env.scope.names.lookup x = some .local := by first | exact .inl rfl | exact .inr rfl | assumption) :
    PG X (.Name x pos) (cG X.K own (gNm i)) := PG.wk (pg_name hN hi hx hf) fun v σ H KQ h => by
  obtain ⟨t, ρ, G, Q, r, e, a, q, f⟩ := h
  exact f _ H _ G (wipe_set ho) (Tups.refl H) (e.put r i) a (putK_put q)
def gsNil : QGs := fun ts ρ G Q => match ts with | [] => Q ρ G | _ => False
def gsCons (t : QG) (u : QGs) : QGs := fun ts ρ G Q => match ts with | x :: r => t x ρ G fun ρ' G' => u r ρ' G' Q | _ => False
theorem gs_nil : PGs X [] (cGs X.K own gsNil) := PGs.wk pgs_nil fun vs σ H KQ h => by
  obtain ⟨ts, ρ, G, Q, r, e, a, q, f⟩ := h
  unfold gsNil at q
  split at q
  · exact ⟨r, f _ H _ G rfl (Tups.refl H) e a q⟩
  · exact q.elim
theorem gs_cons (h1 : PG X e (cG X.K own qg)) (h2 : PGs X es (cGs X.K own qgs)) (hs : (assignEach (e :: es) X.env).map (·.2) = assign e X.env :: (assignEach es X.env).map (·.2) := by rfl) : PGs X (e :: es) (cGs X.K own (gsCons qg qgs)) :=
  PGs.wk (pgs_cons h1 h2 hs) fun vs σ H KQ h => by
    obtain ⟨ts, ρ, G, Q, r, e, a, q, f⟩ := h
    unfold gsCons at q
    split at q
    · obtain ⟨v, vr, rfl, r1, r2⟩ := r
      exact ⟨v, vr, rfl, _, ρ, G, _, r1, e, a, q, fun σ' H' ρ' G' w1 k1 e1 a1 q1 => ⟨_, ρ', G', Q, r2.mono k1, e1, a1, q1, fun σ2 H2 ρ2 G2 w2 k2 e2 a2 q2 => f σ2 H2 ρ2 G2 (w2.trans w1) (k1.trans k2) e2 a2 q2⟩⟩
    · exact q.elim
def lenIs {α : Type} : Nat → List α → Bool
  | 0, [] => true
  | n + 1, _ :: l => lenIs n l
  | _, _ => false
theorem lenIs_len {α : Type} : ∀ {n : Nat} {l : List α}, lenIs n l = true → l.length = n
  | 0, [], _ => rfl
  | n + 1, _ :: l, h => congrArg Nat.succ (lenIs_len (n := n) (l := l) h)
  | 0, _ :: _, h => by cases h
  | _ + 1, [], h => by cases h
def gTp (n : Nat) (t : QGs) : QG := fun x ρ G Q => match x with | .tup ts => (match lenIs n ts with | true => t ts ρ G Q | false => False) | _ => False
theorem g_tup {kk : Nat} {n : Nat} (hc : X.calm = true) (h : PGs X es (cGs X.K own qgs)) (hn : (assignEach es X.env).length = n := by rfl) (hst : (assignEach es X.env).findIdx? (·.1) = none := by rfl) :
    PG X (.Tuple es kk pos) (cG X.K own (gTp n qgs)) := PG.wk (pg_tup hc h hn hst) fun v σ H KQ h => by
  obtain ⟨t, ρ, G, Q, r, e, a, q, f⟩ := h
  unfold gTp at q
  split at q
  · obtain ⟨p, vs, rfl, hp, r⟩ := r
    split at q
    · rename_i hl
      exact ⟨p, vs, rfl, SqT.of hp, by rw [r.length]; exact lenIs_len hl, _, ρ, G, Q, r, e, a, q, f⟩
    · exact q.elim
  · exact q.elim
def qAsg (qe : QE) (qg : QG) : QS := fun D ρ G => qe ρ G fun t G1 => qg t ρ G1 D.nx
theorem s_asg (he : PE X e (cE X.K qe)) (hg : PG X tg (cG X.K own qg)) (hs : swapsWithSole [tg] e pos.line X.env = pure false := by rfl) (hw : swappedStores [tg] e X.env = pure none := by rfl)
    (h1 : (assignEach [tg] X.env).map (·.2) = [assign tg X.env] := by rfl) : PS X (.Assign [tg] e pos) (cS X.K (qAsg qe qg)) := PS.wk (ps_asg he hg hs hw h1) fun D σ H h => by
  obtain ⟨ρ, G, D', e, a, q, f⟩ := h
  exact ⟨ρ, G, _, e, a, q, fun v H1 t G1 k1 a1 r1 q1 => ⟨t, ρ, G1, _, r1, e.mono k1, a1, q1, fun σ' H' ρ' G' _ k2 e2 a2 q2 => f.nx σ' H' ρ' G' (k1.trans k2) e2 a2 q2⟩⟩
theorem s_set {i : Nat} {x : Str} {pos' : Pos} (hN : X.N.Nodup) (hi : X.N[i]? = some x) (hx : Loc X.env.scope x) (he : PE X e (cE X.K qe)) (hs : swapsWith e (some (.Name x pos')) pos.line X.env = pure false := by rfl)
    (hf : X.fn x = true ∨ X.env.scope.names.lookup x = some .local := by first | exact .inl rfl | exact .inr rfl | assumption) : PS X (.Assign [.Name x pos'] e pos) (cS X.K (qAsg qe (gNm i))) := PS.wk (ps_set hN hi hx he hs hf) fun D σ H h => by
  obtain ⟨ρ, G, D', e, a, q, f⟩ := h
  exact ⟨ρ, G, _, e, a, q, fun v H1 t G1 k1 a1 r1 q1 => f.nx _ H1 _ G1 k1 ((e.mono k1).put r1 i) a1 (putK_put q1)⟩
/-- a, b = x, y, the names local: stored from the right -/
def qPar (i j : Nat) (qa : QA) : QS := fun D ρ G => qa ρ G fun ts G1 => match ts with | [v, w] => putK ρ i (some v) (fun ρ1 => putK ρ1 j (some w) fun ρ2 => D.nx ρ2 G1) | _ => False
theorem s_par {i j : Nat} {x y : Str} {a b : Expr} {qa : QA} {px py pt : Pos} {kt k2 pt2} (hc : X.calm = true) (hN : X.N.Nodup) (hi : X.N[i]? = some x) (hj : X.N[j]? = some y) (hij : i ≠ j)
    (hx : X.env.scope.names.lookup x = some .local) (hy : X.env.scope.names.lookup y = some .local) (ha : PA X [a, b] (cA X.K qa))
    (hw : swappedStores [.Tuple [.Name x px, .Name y py] kt pt] (.Tuple [a, b] k2 pt2) X.env = pure (some [x, y]))
    (hs : swapsWithSole [.Tuple [.Name x px, .Name y py] kt pt] (.Tuple [a, b] k2 pt2) pos.line X.env = pure false := by rfl) :
    PS X (.Assign [.Tuple [.Name x px, .Name y py] kt pt] (.Tuple [a, b] k2 pt2) pos) (cS X.K (qPar i j qa)) := PS.wk (ps_par hc hN hi hj hij hx hy ha hw hs) fun D σ H h => by
  obtain ⟨ρ, G, D', e, a, q, f⟩ := h
  refine ⟨ρ, G, _, e, a, q, fun vs H1 ts G1 k1 a1 r1 q1 => ?_⟩
  split at q1
  · obtain ⟨v, w, rfl, h1, h2⟩ := rpl2 r1
    exact ⟨v, w, rfl, f.nx _ H1 _ G1 k1 (((e.mono k1).put h1 i).put h2 j) a1 (putK_put (putK_put q1))⟩
  · exact q1.elim
def qPar3 (i j l : Nat) (qa : QA) : QS := fun D ρ G => qa ρ G fun ts G1 => match ts with | [u, v, w] => putK ρ i (some u) (fun ρ1 => putK ρ1 j (some v) fun ρ2 => putK ρ2 l (some w) fun ρ3 => D.nx ρ3 G1) | _ => False
theorem s_par3 {i j l : Nat} {x y z : Str} {a b c : Expr} {qa : QA} {px py pz pt pos : Pos} {kt k2 pt2} (hc : X.calm = true) (hN : X.N.Nodup) (hi : X.N[i]? = some x) (hj : X.N[j]? = some y) (hl : X.N[l]? = some z) (hij : i ≠ j) (hil : i ≠ l) (hjl : j ≠ l)
    (hx : X.env.scope.names.lookup x = some .local) (hy : X.env.scope.names.lookup y = some .local) (hz : X.env.scope.names.lookup z = some .local) (ha : PA X [a, b, c] (cA X.K qa))
    (hw : swappedStores [.Tuple [.Name x px, .Name y py, .Name z pz] kt pt] (.Tuple [a, b, c] k2 pt2) X.env = pure (some [x, y, z]))
    (hs : swapsWithSole [.Tuple [.Name x px, .Name y py, .Name z pz] kt pt] (.Tuple [a, b, c] k2 pt2) pos.line X.env = pure false := by rfl) :
    PS X (.Assign [.Tuple [.Name x px, .Name y py, .Name z pz] kt pt] (.Tuple [a, b, c] k2 pt2) pos) (cS X.K (qPar3 i j l qa)) := PS.wk (ps_par3 hc hN hi hj hl hij hil hjl hx hy hz ha hw hs) fun D σ H h => by
  obtain ⟨ρ, G, D', e, a, q, f⟩ := h
  refine ⟨ρ, G, _, e, a, q, fun vs H1 ts G1 k1 a1 r1 q1 => ?_⟩
  split at q1
  · obtain ⟨v, r, rfl, h1, r2⟩ := r1
    obtain ⟨w, z, rfl, h2, h3⟩ := rpl2 r2
    exact ⟨v, w, z, rfl, f.nx _ H1 _ G1 k1 ((((e.mono k1).put h1 i).put h2 j).put h3 l) a1 (putK_put (putK_put (putK_put q1)))⟩
  · exact q1.elim
/-! o[i] = e -/
def fSetL : T → T → T → Gp → (Gp → Prop) → Prop := fun o i v G Q => match o, i with
  | .ref a, .int k => ∃ ts n, G a = some (.lst ts) ∧ ixN ts.length k = some n ∧ Q (gput G a (.lst (ts.set n v)))
  | _, _ => False
abbrev QSet := T → T → T → Gp → (Gp → Prop) → Prop
def cSet (K : PySem.W.Frag) (f : QSet) : TSet := fun o i v H KQ => ∃ x y z G Q, Rp K H x o ∧ Rp K H y i ∧ Rp K H z v ∧ Abs K H G ∧ f x y z G Q ∧ ∀ H' G', Tups H H' → Abs K H' G' → Q G' → KQ H'
theorem set_lst : PSet X (cSet X.K fSetL) := by
  intro pins s σ H o i v ov iv u KQ I ro ri rv h
  obtain ⟨x, y, z, G, Q, hx, hy, hz, ha, hf, hk⟩ := h
  unfold fSetL at hf
  split at hf
  · obtain ⟨ts, n, hg, h1, hf⟩ := hf
    cases hx
    cases hy
    obtain ⟨vs, hp, r⟩ := ha _ _ hg
    have wr : Wr H _ := Wr.of hp (fun _ z => by cases z) (fun _ _ z => by cases z)
    have k := Tups.set (o := .lst (vs.set n v)) wr
    refine L2.set_list pins s σ H _ _ v ov iv u KQ I ro ri rv ⟨_, vs, _, n, rfl, rfl, hp, by rw [r.length]; exact h1, ?_⟩
    exact hk _ _ k (ha.put (o := .lst (ts.set n z)) wr ⟨_, upd_same, (r.set hz n).mono k⟩) hf
  · exact hf.elim
def gSb (qo qi : QE) (f : QSet) : QG := fun t ρ G Q => qo ρ G fun o G1 => qi ρ G1 fun i G2 => f o i t G2 fun G3 => Q ρ G3
theorem g_sub {o i : Expr} {qo qi : QE} {f : QSet} (ho : PE X o (cE X.K qo)) (hi : PE X i (cE X.K qi)) (hs : PSet X (cSet X.K f))
    (ha : ∀ v, assign (.Subscript o i pos) X.env v = (do
      let ov ← holding [v] (eval o X.env)
      let iv ← holding [v, ov] (eval i X.env)
      standAt pos
      holding [v, ov, iv] (setItem ov iv v)
      release [v, ov, iv] []) := by intro _; rfl) : PG X (.Subscript o i pos) (cG X.K own (gSb qo qi f)) := PG.wk (pg_sub ho hi hs ha) fun v σ H KQ h => by
  obtain ⟨t, ρ, G, Q, r, e, a, q, g⟩ := h
  refine ⟨ρ, G, _, e, a, q, fun w H1 u G1 k1 a1 r1 q1 => ?_⟩
  refine ⟨ρ, G1, _, e.mono k1, a1, q1, fun w2 H2 u2 G2 k2 a2 r2 q2 => ?_⟩
  exact ⟨u, u2, t, G2, _, r1.mono k2, r2, r.mono (k1.trans k2), a2, q2, fun H3 G3 k3 a3 q3 => g _ H3 ρ G3 rfl ((k1.trans k2).trans k3) (e.mono ((k1.trans k2).trans k3)) a3 q3⟩

/-! ### loops -/
def Wk (P : REnv → Gp → Prop) : REnv → Gp → Prop := fun ρ G => ∃ ρ1 G1, ELe ρ1 ρ ∧ Sub G1 G ∧ P ρ1 G1
theorem Wk.of {P : REnv → Gp → Prop} {ρ : REnv} {G : Gp} (h : P ρ G) : Wk P ρ G := ⟨ρ, G, ELe.refl ρ, Sub.refl G, h⟩
def qWhile (c : QT) (b : QS) : QS := fun D ρ G => ∃ I : Nat → REnv → Gp → Prop, (∃ m, I m ρ G) ∧ ∀ m ρ G, I m ρ G →
  c ρ G fun k G1 => (k = true → b { D with nx := Wk fun ρ' G' => ∃ m', m' < m ∧ I m' ρ' G', ct := Wk fun ρ' G' => ∃ m', m' < m ∧ I m' ρ' G', bk := D.nx } ρ G1) ∧ (k = false → D.nx ρ G1)
theorem s_while {c : Expr} {body : List Stmt} {qc : QT} {qb : QS} (hp : PassesOwn (model X.prog X.w) X.A X.env X.xe) (hc : PT X c (cT X.K qc)) (hb : PSs X body (cS X.K qb)) : PS X (.While c body [] pos) (cS X.K (qWhile qc qb)) :=
  PS.wk (ps_while hp hc hb) fun D σ H h => by
    obtain ⟨ρ, G, D', e, a, ⟨J, ⟨m0, i0⟩, turn⟩, f⟩ := h
    refine ⟨fun m σ' H' => Tups H H' ∧ ∃ ρ' G', EnvR X.K H' ρ' σ' ∧ Abs X.K H' G' ∧ J m ρ' G', ⟨m0, Tups.refl H, ρ, G, e, a, i0⟩, ?_⟩
    rintro m σ1 H1 ⟨k1, ρ1, G1, e1, a1, j1⟩
    refine ⟨ρ1, G1, _, e1, a1, turn m ρ1 G1 j1, fun b H2 G2 k2 a2 q2 => ?_⟩
    cases b with
    | true =>
      rw [if_pos rfl]
      refine ⟨fun σ' H' => Tups H H' ∧ ∃ ρ' G', EnvR X.K H' ρ' σ' ∧ Abs X.K H' G' ∧ ∃ m', m' < m ∧ J m' ρ' G', fun σ' H' ⟨k, ρ', G', e', a', m', hm, j'⟩ => ⟨m', hm, k, ρ', G', e', a', j'⟩, ?_⟩
      have k12 := k1.trans k2
      have fol : FolS X.K H2 (Wk fun ρ' G' => ∃ m', m' < m ∧ J m' ρ' G') (fun σ' H' => Tups H H' ∧ ∃ ρ' G', EnvR X.K H' ρ' σ' ∧ Abs X.K H' G' ∧ ∃ m', m' < m ∧ J m' ρ' G') :=
        fun σ' H' ρ' G' k3 e3 a3 ⟨ρ4, G4, le, sb, q4⟩ => ⟨k12.trans k3, ρ4, G4, e3.le le, a3.sub sb, q4⟩
      exact ⟨ρ1, G2, _, e1.mono k2, a2, q2.1 rfl, ⟨fol, f.rt.from k12, f.nx.from k12, fol⟩⟩
    | false =>
      rw [if_neg Bool.false_ne_true]
      exact f.nx σ1 H2 ρ1 G2 (k1.trans k2) (e1.mono k2) a2 (q2.2 rfl)
def qFor (qi : QI) (qg : QG) (b : QS) : QS := fun D ρ G => qi ρ G fun ts St G1 => ∃ I : Nat → REnv → Gp → Prop, I 0 ρ G1 ∧ (∀ i ρ G, i ≤ ts.length → I i ρ G → St G) ∧
  (∀ i t ρ G, ts[i]? = some t → I i ρ G → qg t ρ G fun ρ2 G2 => b { D with nx := Wk (I (i + 1)), ct := Wk (I (i + 1)), bk := D.nx } ρ2 G2) ∧ ∀ ρ G, I ts.length ρ G → D.nx ρ G
theorem s_for {iter : Expr} {body : List Stmt} {qi : QI} {qb : QS} (hp : PassesOwn (model X.prog X.w) X.A X.env X.xe) (hc : X.calm = true) (hi : PI X tg iter (cI X.K qi)) (hg : PG X tg (cG X.K own qg)) (hb : PSs X body (cS X.K qb))
    (hs : ∀ x, foldedSetIterable iter X.env x = pure x := by intro _; rfl) : PS X (.For tg iter body [] pos) (cS X.K (qFor qi qg qb)) := PS.wk (ps_for hp hc hi hg hb hs) fun D σ H h => by
  obtain ⟨ρ, G, D', e, a, q, f⟩ := h
  refine ⟨ρ, G, _, e, a, q, fun J H1 ts St G1 k1 a1 w ⟨I, i0, hst, turn, done⟩ => ?_⟩
  refine ⟨fun i m σ' H' => m = ts.length - i ∧ i ≤ ts.length ∧ Tups H1 H' ∧ ∃ ρ' G', EnvR X.K H' ρ' σ' ∧ Abs X.K H' G' ∧ I i ρ' G', ⟨ts.length, by simp, Nat.zero_le _, Tups.refl H1, ρ, G1, e.mono k1, a1, i0⟩, ?_⟩
  rintro i m σ2 H2 ⟨rfl, hi, k2, ρ2, G2, e2, a2, j2⟩
  have st := hst i ρ2 G2 hi j2
  by_cases hlt : i < ts.length
  · refine .inr ⟨w.goes i H2 G2 hlt k2 a2 st, fun σ' H' => Tups H1 H' ∧ ∃ ρ' G', EnvR X.K H' ρ' σ' ∧ Abs X.K H' G' ∧ I (i + 1) ρ' G', fun σ' H' ⟨k, p⟩ => ⟨ts.length - (i + 1), by omega, rfl, hlt, k, p⟩, fun x H3 y => ?_⟩
    obtain ⟨k3, a3, t, ht, r3⟩ := w.yields i H2 G2 x H3 hlt k2 a2 st y
    have k23 := k2.trans k3
    refine ⟨t, ρ2, G2, _, r3, e2.mono k3, a3, turn i t ρ2 G2 ht j2, fun σ4 H4 ρ4 G4 _ k4 e4 a4 q4 => ?_⟩
    have k14 := k23.trans k4
    have fol : FolS X.K H4 (Wk (I (i + 1))) (fun σ' H' => Tups H1 H' ∧ ∃ ρ' G', EnvR X.K H' ρ' σ' ∧ Abs X.K H' G' ∧ I (i + 1) ρ' G') :=
      fun σ' H' ρ' G' k5 e5 a5 ⟨ρ6, G6, le, sb, q6⟩ => ⟨k14.trans k5, ρ6, G6, e5.le le, a5.sub sb, q6⟩
    exact ⟨ρ4, G4, _, e4, a4, q4, ⟨fol, f.rt.from (k1.trans k14), f.nx.from (k1.trans k14), fol⟩⟩
  · have e' : i = ts.length := by omega
    subst e'
    exact .inl ⟨w.stops H2 G2 k2 a2 st, f.nx σ2 H2 ρ2 G2 (k1.trans k2) e2 a2 (done ρ2 G2 j2)⟩
end
end Lw

set_option Elab.async false
set_option linter.all false
set_option maxRecDepth 100000
set_option maxHeartbeats 4000000
namespace Lw
open PySem PySem.Spec PyProof.Rows L2

/-! ### what is walked -/
section
variable {K : PySem.W.Frag} {H1 : Hp} {a b : Addr}
theorem wt_of {J : It} {n : Nat} {Gd : Hp → Prop} {Y : Nat → Hp → V → Hp → Prop} {ts : List T} {St : Gp → Prop} (w : Walk J n Gd Y) (hn : n = ts.length) (hg : ∀ H G, Tups H1 H → Abs K H G → St G → Gd H)
    (hy : ∀ i H G x H', i < ts.length → Tups H1 H → Abs K H G → St G → Y i H x H' → Tups H H' ∧ Abs K H' G ∧ ∃ t, ts[i]? = some t ∧ Rp K H' t x) : WalkT K J H1 ts St := by
  subst hn
  exact ⟨fun i H G hi k a s => w.goes i H hi (hg H G k a s), fun H G k a s => w.stops H (hg H G k a s), fun i H G x H' hi k a s y => hy i H G x H' hi k a s (w.yields i H x H' hi (hg H G k a s) y)⟩
theorem wt_tup {ts : List T} {vs : List V} (hp : H1 a = some (.tup vs)) (r : RpL K H1 ts vs) : WalkT K (Itt K a) H1 ts (fun _ => True) :=
  wt_of (walk_tup (xs := vs)) r.length (fun H G k _ _ => SqT.of (k.t _ _ hp)) fun i H G x H' hi k a _ y => by
    obtain ⟨e, hx⟩ := y
    subst e
    exact ⟨Tups.refl _, a, (r.mono k).get hx⟩
theorem list_eq {H : Hp} {xs ys : List V} (h : H a = some (.lst xs)) (h' : H a = some (.lst ys)) : xs = ys := by
  rw [h] at h'; cases h'; rfl
/-- the list at a, which holds ts through the loop -/
theorem wt_list {ts : List T} : WalkT K (Itl K a) H1 ts (fun G => G a = some (.lst ts)) where
  goes := fun i H G hi k ab s => by
    obtain ⟨vs, hp, r⟩ := ab _ _ s
    obtain ⟨v, hv, _⟩ := r.at (show ts[i]? = some ts[i] by simp [hi])
    exact ⟨vs, v, SqL.of hp, hv⟩
  stops := fun H G k ab s => by
    obtain ⟨vs, hp, r⟩ := ab _ _ s
    exact ⟨vs, SqL.of hp, by rw [r.length]; exact Nat.le_refl _⟩
  yields := fun i H G x H' hi k ab s y => by
    obtain ⟨e, hy⟩ := y
    subst e
    obtain ⟨vs, hp, r⟩ := ab _ _ s
    exact ⟨Tups.refl _, ab, r.get (hy vs (SqL.of hp))⟩
theorem wt_range {lo : Int} {n : Nat} : WalkT K (Itr lo n) H1 ((List.range n).map fun i : Nat => T.int (lo + i)) (fun _ => True) :=
  wt_of walk_range (by simp) (fun _ _ _ _ _ => trivial) fun i H G x H' hi k a _ y => by
    obtain ⟨e, hx⟩ := y
    subst e hx
    rw [List.length_map, List.length_range] at hi
    exact ⟨Tups.refl _, a, .int (lo + i), by simp [hi], rfl⟩
/-- the pairs that enumerate gives -/
def enumT (ts : List T) : List T := (List.range ts.length).map fun i : Nat => T.tup [.int i, ts.getD i .non]
theorem enumT_len {ts : List T} : (enumT ts).length = ts.length := by unfold enumT; rw [List.length_map, List.length_range]
theorem enumT_at {ts : List T} {i : Nat} {t : T} (h : ts[i]? = some t) : (enumT ts)[i]? = some (.tup [.int i, t]) := by
  have hi := (List.getElem?_eq_some_iff.mp h).1
  unfold enumT
  rw [List.getElem?_map, List.getElem?_range hi]
  show some (T.tup [.int i, ts.getD i .non]) = _
  rw [List.getD_eq_getElem?_getD, h]
  rfl
theorem enumT_get {ts : List T} {i : Nat} {t : T} (h : (enumT ts)[i]? = some t) : ∃ u, ts[i]? = some u ∧ t = .tup [.int i, u] := by
  have hi : i < ts.length := by
    have := (List.getElem?_eq_some_iff.mp h).1
    rw [enumT_len] at this; exact this
  have e := enumT_at (ts := ts) (i := i) (t := ts[i]) (by simp [hi])
  rw [e] at h
  exact ⟨ts[i], by simp [hi], (Option.some.inj h).symm⟩
theorem pair_new {H : Hp} {p : Addr} {t u : T} {v w : V} (hp : H p = none) (h1 : Rp K H t v) (h2 : Rp K H u w) : Rp K (upd H p (.tup [v, w])) (.tup [t, u]) (.ref p) := by
  have k : Tups H (upd H p (.tup [v, w])) := Tups.new hp
  exact ⟨p, [v, w], rfl, upd_same, v, [w], rfl, h1.mono k, w, [], rfl, h2.mono k, rfl⟩
theorem wt_enum {ts : List T} : WalkT K (Ite K a) H1 (enumT ts) (fun G => G a = some (.lst ts)) where
  goes := fun i H G hi k ab s => by
    rw [enumT_len] at hi
    obtain ⟨vs, hp, r⟩ := ab _ _ s
    obtain ⟨v, hv, _⟩ := r.at (show ts[i]? = some ts[i] by simp [hi])
    exact ⟨vs, v, SqL.of hp, hv⟩
  stops := fun H G k ab s => by
    obtain ⟨vs, hp, r⟩ := ab _ _ s
    exact ⟨vs, SqL.of hp, by rw [r.length, enumT_len]; exact Nat.le_refl _⟩
  yields := fun i H G x H' hi k ab s y => by
    obtain ⟨p, z, rfl, hp0, rfl, hz⟩ := y
    obtain ⟨vs, hp, r⟩ := ab _ _ s
    obtain ⟨t, ht, rt⟩ := r.get (hz vs (SqL.of hp))
    exact ⟨Tups.new hp0, ab.grow hp0, _, enumT_at ht, pair_new hp0 (show Rp K H (.int i) (.int i) from rfl) rt⟩
end

section
variable {X : Cx} {tg : Expr} {l : Expr} {qe : QE} {qa : QA}
/-- over a list or a tuple: which, is told by the value -/
def qiTup (qe : QE) : QI := fun ρ G R => qe ρ G fun x G1 => match x with | .tup ts => R ts (fun _ => True) G1 | _ => False
def qiLst (qe : QE) : QI := fun ρ G R => qe ρ G fun x G1 => match x with | .ref a => ∃ ts, G1 a = some (.lst ts) ∧ R ts (fun G => G a = some (.lst ts)) G1 | _ => False
theorem i_tup (hl : PE X l (cE X.K qe)) : PI X tg l (cI X.K (qiTup qe)) := PI.wk (pi_tup hl) fun σ H R h => by
  obtain ⟨ρ, G, Q, e, a, q, f⟩ := h
  refine ⟨ρ, G, _, e, a, q, fun v H1 t G1 k1 a1 r1 q1 => ?_⟩
  split at q1
  · obtain ⟨p, vs, rfl, hp, r⟩ := r1
    exact ⟨p, rfl, ⟨vs, SqT.of hp⟩, f _ H1 _ _ G1 k1 a1 (wt_tup hp r) q1⟩
  · exact q1.elim
theorem i_lst (hl : PE X l (cE X.K qe)) : PI X tg l (cI X.K (qiLst qe)) := PI.wk (pi_list hl) fun σ H R h => by
  obtain ⟨ρ, G, Q, e, a, q, f⟩ := h
  refine ⟨ρ, G, _, e, a, q, fun v H1 t G1 k1 a1 r1 q1 => ?_⟩
  split at q1
  · cases r1
    obtain ⟨ts, hg, q1⟩ := q1
    obtain ⟨vs, hp, r⟩ := a1 _ _ hg
    exact ⟨_, rfl, ⟨vs, SqL.of hp⟩, f _ H1 _ _ G1 k1 a1 wt_list q1⟩
  · exact q1.elim
def rngT (n : Nat) : List T := (List.range n).map fun i : Nat => T.int i
def qiRng1 (qa : QA) : QI := fun ρ G R => qa ρ G fun ts G1 => match ts with | [.int j] => (-1000000 ≤ j ∧ j ≤ 1000000) ∧ R (rngT j.toNat) (fun _ => True) G1 | _ => False
def qiRng2 (qa : QA) : QI := fun ρ G R => qa ρ G fun ts G1 => match ts with
  | [.int i, .int j] => (-1000000 ≤ i ∧ i ≤ 1000000 ∧ -1000000 ≤ j ∧ j ≤ 1000000) ∧ R ((List.range (j - i).toNat).map fun n : Nat => T.int (i + n)) (fun _ => True) G1
  | _ => False
theorem i_rng1 {a : Expr} {p pos : Pos} (hg : Gl X "range") (hm : X.mg "range" = none) (ha : PA X [a] (cA X.K qa)) (hs : starEach [a] X.env = [(false, eval a X.env)] := by rfl) : PI X tg (.Call (.Name "range" p) [a] [] pos) (cI X.K (qiRng1 qa)) :=
  PI.wk (pi_range1 hg hm ha hs) fun σ H R h => by
    obtain ⟨ρ, G, Q, e, a, q, f⟩ := h
    refine ⟨ρ, G, _, e, a, q, fun vs H1 ts G1 k1 a1 r1 q1 => ?_⟩
    split at q1
    · obtain ⟨v, rfl, h1⟩ := rpl1 r1
      cases h1
      rename_i j
      have w := wt_range (K := X.K) (H1 := H1) (lo := 0) (n := j.toNat)
      have e1 : ((List.range j.toNat).map fun i : Nat => T.int (0 + (i : Int))) = rngT j.toNat := by unfold rngT; simp only [Int.zero_add]
      rw [e1] at w
      exact ⟨j, rfl, by omega, by omega, f _ H1 _ _ G1 k1 a1 w q1.2⟩
    · exact q1.elim
theorem i_rng2 {a b : Expr} {p pos : Pos} (hg : Gl X "range") (hm : X.mg "range" = none) (ha : PA X [a, b] (cA X.K qa)) (hs : starEach [a, b] X.env = [(false, eval a X.env), (false, eval b X.env)] := by rfl) (hs2 : starEach [b] X.env = [(false, eval b X.env)] := by rfl) :
    PI X tg (.Call (.Name "range" p) [a, b] [] pos) (cI X.K (qiRng2 qa)) := PI.wk (pi_range2 hg hm ha hs hs2) fun σ H R h => by
  obtain ⟨ρ, G, Q, e, a, q, f⟩ := h
  refine ⟨ρ, G, _, e, a, q, fun vs H1 ts G1 k1 a1 r1 q1 => ?_⟩
  split at q1
  · obtain ⟨v, w, rfl, h1, h2⟩ := rpl2 r1
    cases h1; cases h2
    exact ⟨_, _, rfl, ⟨by omega, by omega, by omega, by omega⟩, f _ H1 _ _ G1 k1 a1 wt_range q1.2⟩
  · exact q1.elim
def qiEnumL (qa : QA) : QI := fun ρ G R => qa ρ G fun ts G1 => match ts with | [.ref a] => ∃ ts, G1 a = some (.lst ts) ∧ R (enumT ts) (fun G => G a = some (.lst ts)) G1 | _ => False
theorem i_enumL {e : Expr} {p pos tpos : Pos} {elts : List Expr} {kk : Nat} (hg : Gl X "enumerate") (hm : X.mg "enumerate" = none) (ha : PA X [e] (cA X.K qa)) (hs : starEach [e] X.env = [(false, eval e X.env)] := by rfl) :
    PI X (.Tuple elts kk tpos) (.Call (.Name "enumerate" p) [e] [] pos) (cI X.K (qiEnumL qa)) := PI.wk (pi_enum hg hm ha hs) fun σ H R h => by
  obtain ⟨ρ, G, Q, e, a, q, f⟩ := h
  refine ⟨ρ, G, _, e, a, q, fun vs H1 ts G1 k1 a1 r1 q1 => ?_⟩
  split at q1
  · obtain ⟨v, rfl, h1⟩ := rpl1 r1
    cases h1
    obtain ⟨us, hg, q1⟩ := q1
    obtain ⟨ws, hp, r⟩ := a1 _ _ hg
    exact ⟨_, ws, rfl, SqL.of hp, f _ H1 _ _ G1 k1 a1 wt_enum q1⟩
  · exact q1.elim

/-! ### comprehensions -/
def wipeT (ρ : REnv) : List Nat → REnv
  | [] => ρ
  | v :: vs => put (wipeT ρ vs) v none
def wipeK (ρ : REnv) : List Nat → (REnv → Prop) → Prop
  | [], k => k ρ
  | v :: vs, k => wipeK ρ vs fun ρ' => putK ρ' v none k
theorem wipeK_wipe {ρ : REnv} : ∀ {vs : List Nat} {k : REnv → Prop}, wipeK ρ vs k → k (wipeT ρ vs)
  | [], _, h => h
  | v :: vs, k, h => putK_put (wipeK_wipe (vs := vs) (k := fun ρ' => putK ρ' v none k) h)
theorem EnvR.wipe {K : PySem.W.Frag} {H : Hp} {ρ : REnv} {σ : L2.St} (e : EnvR K H ρ σ) : ∀ vs : List Nat, EnvR K H (wipeT ρ vs) (L2.wipe σ vs)
  | [] => e
  | v :: vs => EnvR.putN v (EnvR.wipe e vs)
/-- I: by the turn, what is made so far, the heap (the new list at D within) -/
def qLc (qi : QI) (qg : QG) (qt : QT) (qe : QE) (own : List Nat) : QE := fun ρ G Q => qi ρ G fun ts St G1 => ∀ D, G1 D = none → ts.length ≤ 100000 ∧ ∃ I : Nat → List T → Gp → Prop, I 0 [] (gput G1 D (.lst [])) ∧ (∀ i acc G, i ≤ ts.length → I i acc G → St G ∧ G D = some (.lst acc) ∧ acc.length ≤ i) ∧
  (∀ i t acc G, ts[i]? = some t → I i acc G → wipeK ρ own fun ρ1 => qg t ρ1 G fun ρ2 G2 => qt ρ2 G2 fun b G3 => (b = true → qe ρ2 G3 fun y G4 => G4 D = some (.lst acc) ∧ ∃ G5, Sub G5 (gput G4 D (.lst (acc ++ [y]))) ∧ I (i + 1) (acc ++ [y]) G5) ∧ (b = false → ∃ G5, Sub G5 G3 ∧ I (i + 1) acc G5)) ∧
  ∀ acc G, I ts.length acc G → Q (.ref D) G
def qYes : QT := fun _ G Q => Q true G
theorem ts_nil : PTs X [] (cT X.K qYes) := ⟨fun pins s σ H Q I h => by
  obtain ⟨ρ, G, Q, e, a, q, f⟩ := h
  exact wpAny_tests_nil ⟨H, I, f true H G (Tups.refl H) a q⟩⟩
theorem ts_one {c : Expr} {t : QT} (h : PT X c (cT X.K t)) : PTs X [c] (cT X.K t) := pts_one h
variable {elt iter : Expr} {ifs : List Expr} {scope : Scope} {own : List (Str × Nat)} {pos : Pos} {qi : QI} {qg : QG} {qt : QT} {qel : QE}
theorem lc_wk : ∀ σ H KQ, cE X.K (qLc qi qg qt qel (own.map (·.2))) σ H KQ → tLc (cI X.K qi) (cG X.K (own.map (·.2)) qg) (cT X.K qt) (cE X.K qel) (own.map (·.2)) σ H KQ := fun σ H KQ h => by
  obtain ⟨ρ, G, Q, e, a, q, f⟩ := h
  refine ⟨ρ, G, _, e, a, q, fun J H1 ts St G1 k1 a1 w q1 => fun D hD => ?_⟩
  obtain ⟨hz, I, i0, hst, turn, done⟩ := q1 D (a1.free hD)
  have kD : Tups H1 (upd H1 D (.lst [])) := Tups.new hD
  refine ⟨fun i m H' => m = ts.length - i ∧ i ≤ ts.length ∧ Tups H1 H' ∧ ∃ acc G', Abs X.K H' G' ∧ I i acc G',
    ⟨ts.length, by simp, Nat.zero_le _, kD, [], _, a1.put (o := .lst []) ⟨fun xs z => (by rw [hD] at z; cases z), fun o xs z => (by rw [hD] at z; cases z)⟩ ⟨[], upd_same, rfl⟩, i0⟩, ?_⟩
  rintro i m H2 ⟨rfl, hi, k2, acc, G2, a2, j2⟩
  obtain ⟨st, gd, hl⟩ := hst i acc G2 hi j2
  have e2 : EnvR X.K H2 ρ σ := e.mono (k1.trans k2)
  by_cases hlt : i < ts.length
  · refine .inr ⟨w.goes i H2 G2 hlt k2 a2 st, fun H' => Tups H1 H' ∧ ∃ acc G', Abs X.K H' G' ∧ I (i + 1) acc G', fun H' p => ⟨ts.length - (i + 1), by omega, rfl, hlt, p⟩, fun x H3 y => ?_⟩
    obtain ⟨k3, a3, t, ht, r3⟩ := w.yields i H2 G2 x H3 hlt k2 a2 st y
    have k23 := k2.trans k3
    refine ⟨t, _, G2, _, r3, (e2.mono k3).wipe _, a3, wipeK_wipe (turn i t acc G2 ht j2), fun σ4 H4 ρ4 G4 w4 k4 e4 a4 q4 => ⟨?_, ?_⟩⟩
    · rw [w4]
      exact wipe_wipe
    · refine ⟨ρ4, G4, _, e4, a4, q4, fun b H5 G5 k5 a5 q5 => ?_⟩
      have k15 := (k23.trans k4).trans k5
      cases b with
      | false =>
        show (if false = true then _ else _)
        rw [if_neg Bool.false_ne_true]
        obtain ⟨G6, sb, j6⟩ := q5.2 rfl
        exact ⟨k15, acc, G6, a5.sub sb, j6⟩
      | true =>
        show (if true = true then _ else _)
        rw [if_pos rfl]
        refine ⟨ρ4, G5, _, e4.mono k5, a5, q5.1 rfl, fun v H6 y6 G6 k6 a6 r6 ⟨gd6, G7, sb, j7⟩ => ?_⟩
        obtain ⟨vs, hv, rv⟩ := a6 _ _ gd6
        have hz2 : acc.length < 100000 := by
          have := (List.getElem?_eq_some_iff.mp ht).1
          omega
        have wr : Wr H6 D := Wr.of hv (fun _ z => by cases z) (fun _ _ z => by cases z)
        have k7 := Tups.set (o := .lst (vs ++ [v])) wr
        refine ⟨vs, hv, by rw [rv.length]; exact Nat.lt_of_lt_of_le hz2 (by decide), (k15.trans k6).trans k7, acc ++ [y6], G7, Abs.sub (a6.put (o := .lst (acc ++ [y6])) wr ⟨_, upd_same, (rv.append (RpL.one r6)).mono k7⟩) sb, j7⟩
  · have e' : i = ts.length := by omega
    subst e'
    exact .inl ⟨w.stops H2 G2 k2 a2 st, f _ H2 (.ref D) G2 (k1.trans k2) a2 rfl (done acc G2 j2)⟩
theorem e_lc (hc : X.calm = true) (hN : X.N.Nodup) (hi : PI X tg iter (cI X.K qi)) (ok : BlkOk X.N X.env.scope scope own)
    (hg : ∀ (s : Shared) (H : Hp) (C : Addr) (cl : List (Str × Addr)) (fp : List Addr), PG (X.blk s H scope (compEnvC scope cl C X.env) fp) tg (cG X.K (own.map (·.2)) qg)) (ht : ∀ (s : Shared) (H : Hp) (C : Addr) (cl : List (Str × Addr)) (fp : List Addr), PTs (X.blk s H scope (compEnvC scope cl C X.env) fp) ifs (cT X.K qt))
    (he : ∀ (s : Shared) (H : Hp) (C : Addr) (cl : List (Str × Addr)) (fp : List Addr), PE (X.blk s H scope (compEnvC scope cl C X.env) fp) elt (cE X.K qel)) (hs : ∀ x, foldedSetIterable iter X.env x = pure x := by intro _; rfl) :
    PE X (.ListComp elt [⟨tg, iter, ifs, 0⟩] scope pos) (cE X.K (qLc qi qg qt qel (own.map (·.2)))) := PE.wk (pe_lc hc hN hi ok hg ht he hs) lc_wk
theorem s_setLc {i : Nat} {y : Str} {py spos : Pos} (hc : X.calm = true) (hN : X.N.Nodup) (hy : X.N[i]? = some y) (hyl : X.env.scope.names.lookup y = some .local)
    (hsw : swapsWith (.ListComp elt [⟨tg, iter, ifs, 0⟩] scope pos) (some (.Name y py)) spos.line X.env = pure true) (hi : PI X tg iter (cI X.K qi)) (ok : BlkOk X.N X.env.scope scope own)
    (hg : ∀ (s : Shared) (H : Hp) (C : Addr) (cl : List (Str × Addr)) (fp : List Addr), PG (X.blk s H scope (compEnvC scope cl C X.env) fp) tg (cG X.K (own.map (·.2)) qg)) (ht : ∀ (s : Shared) (H : Hp) (C : Addr) (cl : List (Str × Addr)) (fp : List Addr), PTs (X.blk s H scope (compEnvC scope cl C X.env) fp) ifs (cT X.K qt))
    (he : ∀ (s : Shared) (H : Hp) (C : Addr) (cl : List (Str × Addr)) (fp : List Addr), PE (X.blk s H scope (compEnvC scope cl C X.env) fp) elt (cE X.K qel)) (hs : ∀ x, foldedSetIterable iter X.env x = pure x := by intro _; rfl) :
    PS X (.Assign [.Name y py] (.ListComp elt [⟨tg, iter, ifs, 0⟩] scope pos) spos) (cS X.K (qAsg (qLc qi qg qt qel (own.map (·.2))) (gNm i))) := PS.wk (ps_setLc hc hN hy hyl hsw hi ok hg ht he hs) fun D σ H h => by
  obtain ⟨ρ, G, D', e, a, q, f⟩ := h
  exact lc_wk σ H _ ⟨ρ, G, _, e, a, q, fun v H1 t G1 k1 a1 r1 q1 => f.nx _ H1 _ G1 k1 ((e.mono k1).put r1 i) a1 (putK_put q1)⟩
end

/-! ### a def's promise by its body -/
section
variable {P : Program} {w : World} {K : PySem.W.Frag} {mg : Str → Option Value} {base : Heap}
def startT (N : List Str) (ts : List T) : REnv := ts.map some ++ List.replicate (N.length - ts.length) none
/-- what a def hands back: what it made besides may be dropped -/
def Ret (Q : TK) : TK := fun t G => ∃ G1, Sub G1 G ∧ Q t G1
theorem Ret.of {Q : TK} {t : T} {G : Gp} (h : Q t G) : Ret Q t G := ⟨G, Sub.refl G, h⟩
def endOf (Q : TK) : QD := { nx := fun _ G => Ret Q .non G, rt := Ret Q }
theorem okq {x qual : Str} {st : Stmt} {f : Addr} {fd : FuncData} {N ps : List Str} {k : Nat} {sp : QSp} {q : QS} (F : Fun K x qual st f fd) (S : FnScope N ps (defScope st)) (len : ∀ ts G Q E, sp ts G Q E → ts.length = ps.length)
    (der : ∀ (cdv : Value) (A : Around) (outer : List PySem.Env) (s : Shared) (H : Hp) (E : XK), Room k (A.deeper (envOfC qual (defScope st) s.heap.objs.size f cdv)) → PSs (cxOf CX0 P w K mg base N qual (defScope st) f cdv A outer s H E).nox (defBody st) (cS K q))
    (run : ∀ ts G Q E, sp ts G Q E → normK (startT N ts) fun ρ => q (endOf Q) ρ G) : FnOk P w K mg base CX0 (k + 1) f fd ps (cSp K sp) := by
  refine F.ok S (fun vs H Q E h => ?_) (fun cdv A outer s H vs KQ E hr h => ⟨_, der cdv A outer s H E hr, ?_⟩)
  · obtain ⟨ts, G, Q, E', r, a, h, _⟩ := h
    rw [r.length]
    exact len _ _ _ _ h
  · obtain ⟨ts, G, Q, E', r, a, h, g, _⟩ := h
    have e : EnvR K H (startT N ts) (L2.start N vs) := by
      unfold startT L2.start
      rw [r.length]
      exact EnvR.start _ r
    refine ⟨startT N ts, G, endOf Q, e, a, normK_norm (run ts G Q E' h), ⟨fun σ' H' ρ' G' k1 e1 a1 ⟨G2, sb, q1⟩ => g .non H' .non G2 k1 (a1.sub sb) rfl q1, fun v H' t G' k1 a1 r1 ⟨G2, sb, q1⟩ => g v H' t G2 k1 (a1.sub sb) r1 q1, fun _ _ _ _ _ _ _ z => z.elim, fun _ _ _ _ _ _ _ z => z.elim⟩⟩
end

/-! ### the law's own -/
/-- the law's promise: it hands back True -/
def spLaw : QSp := fun ts G Q _ => ∃ ns : List Int, ts = [.scr ns] ∧ ns.length ≤ 63 ∧ (∀ b, G b = none) ∧ ∀ G', Q (.bl true) G'
theorem law_sp {K : PySem.W.Frag} {H : Hp} {a : Addr} {ns : List Int} (hl : ns.length ≤ 63) (hO : Only H) (hS : SqL K H a (ns.map V.int)) : cSp K spLaw [.ref a] H (fun v _ => v = .bl true) fun _ _ _ => False := by
  refine ⟨[.scr ns], fun _ => none, fun t _ => t = .bl true, X0, ⟨.ref a, [], rfl, ⟨a, rfl, ?_⟩, rfl⟩, fun _ _ z => (by cases z), ⟨ns, rfl, hl, fun _ => rfl, fun _ => rfl⟩, fun v H' t G' _ _ r e => ?_, folx0⟩
  · rcases hS with (h | h) | h
    · rcases hO a with z | ⟨o, xs, z⟩
      · rw [h] at z; cases z
      · rw [h] at z; cases z
    · exact .inl h
    · exact .inr h
  · subst e
    exact r
end Lw

set_option Elab.async false
set_option linter.all false
set_option maxRecDepth 100000
set_option maxHeartbeats 4000000
namespace Lw
open PySem PySem.Spec PyProof.Rows L2

/-! ### enumerate of a tuple -/
section
open AutoSeq1 (wpAny_loadPart')
theorem meets_enumerate_newT {v : Value} {o : Obj} {H : Heap → Prop} (B : Begins v o H) :
    Meets (Builtin.«enumerate.__new__» ⟨[.type "enumerate", v], []⟩) (fun _ R s => H s.heap ∧
      R (.ok (.ret (.ref (s.heap.push o).objs.size))) { s with heap := (s.heap.push o).push { cls := .type "enumerate", data := .fields #[.none, .bool false, .ref s.heap.objs.size, rawInt 0, .none, .none] } }) :=
  .of_wp fun prog w A R s h => by
    obtain ⟨hp, g, d, tk, os⟩ := s; obtain ⟨h1, h⟩ := h
    have hsub := sub_enumerate
    have q1 : ∀ {A' : Around} {E : Value → Shared → Prop} {Q : Value → Shared → Prop}, Q (.ref hp.objs.size) ⟨hp.push o, g, d, tk, os⟩ → wpAny (model prog w) A' (pyIter v) Q E ⟨hp, g, d, tk, os⟩ :=
      fun q => B.iter prog w _ _ ⟨hp, g, d, tk, os⟩ _ h1 q
    wp_walk using q1
    refine wpAny_stack_any fun st => wpAny_pure ?_
    split
    · rename_i c _ _ _ _ _
      cases (c == Value.type "enumerate")
      · wp_walk using q1
        exact ⟨_, rfl, h⟩
      · wp_walk using q1
        exact ⟨_, rfl, h⟩
    · wp_walk using q1
      exact ⟨_, rfl, h⟩
end
theorem enum1_begins {prog : Program} {w : World} {A : Around} {E : Value → Shared → Prop} {s : Shared} {v : Value} {o : Obj} {H : Heap → Prop} {Q : Value → Shared → Prop} (B : Begins v o H) (h1 : H s.heap)
    (h : ∀ h', IsEnum h' (s.heap.objs.size + 1) s.heap.objs.size 0 .none → h'.get? s.heap.objs.size = some o → h'.objs.size = s.heap.objs.size + 2 →
      (∀ b o, s.heap.get? b = some o → h'.get? b = some o) → Q (.ref (s.heap.objs.size + 1)) { s with heap := h' }) :
    wpAny (model prog w) A (call (.type "enumerate") [v]) Q E s := by
  refine callType_new F.called_enumerate (by decide) (F.typeCall_enumerate_1 _) (F.newCall_enumerate_1 _) (fun obj => F.args_object_init_2 obj _) F.entry_enumerate_new
    (meets_enumerate_newT B) ⟨h1, ?_⟩
  have hz : (s.heap.push o).objs.size = s.heap.objs.size + 1 := Heap.size_push ..
  show _ ∧ _
  rw [hz]
  have he : IsEnum ((s.heap.push o).push { cls := .type "enumerate", data := .fields #[.none, .bool false, .ref s.heap.objs.size, rawInt 0, .none, .none] }) (s.heap.objs.size + 1) s.heap.objs.size 0 .none := by
    have := Heap.get?_push_size (s.heap.push o) (o := { cls := .type "enumerate", data := .fields #[.none, .bool false, .ref s.heap.objs.size, rawInt 0, .none, .none] }) rfl
    rw [hz] at this; exact this
  refine ⟨⟨_, he, rfl⟩, h _ he (Heap.get?_push_of_some _ (Heap.get?_push_size _ B.free)) (by rw [Heap.size_push, hz]) fun b o x => Heap.get?_push_of_some _ (Heap.get?_push_of_some _ x)⟩
def IteT (K : PySem.W.Frag) (a : Addr) : It :=
  ⟨fun i H => ∃ (xs : List V) (x : V), SqT K H a xs ∧ xs[i]? = some x, fun i H v H' => ∃ T x, v = .ref T ∧ H T = none ∧ H' = upd H T (.tup [.int (i : Nat), x]) ∧ ∀ xs, SqT K H a xs → xs[i]? = some x, fun i H => ∃ xs : List V, SqT K H a xs ∧ xs.length ≤ i⟩
theorem turn_enumT {P : Program} {w : World} {K : PySem.W.Frag} {elts : List Expr} {kk : Nat} {tpos : Pos} (a e it : Addr) :
    Turn P w K (.Tuple elts kk tpos) (IteT K a) [e, it] e (fun i h => (∃ old, IsEnum h e it ((i : Nat) : Int) old) ∧ h.IsTupleIter it a i ∧ e ≠ it) where
  mem := by simp
  obj := fun i h st b hb => by
    obtain ⟨⟨old, he⟩, ⟨o, ho, hc, hd⟩, _⟩ := st
    have e' : b = e ∨ b = it := by simpa using hb
    rcases e' with z | z
    · rw [z]; exact ⟨_, he, fun v q => nomatch q⟩
    · rw [z]; exact ⟨o, ho, fun v q => by rw [hd] at q; cases q⟩
  keep := fun i h h' st k => let ⟨⟨old, he⟩, hi, hne⟩ := st; ⟨⟨old, k e (by simp) _ he⟩, hi.at fun o q => k it (by simp) o q, hne⟩
  item := by
    intro X hP hw hK hc i pins s σ H E I hf st hg
    subst hP hw hK
    obtain ⟨⟨old, he⟩, hit, hne⟩ := st
    obtain ⟨xs, x, hq, hx⟩ := hg
    obtain ⟨its, rv, p, hz⟩ := I.tuple hq
    have p' : s.heap.IsTuple a its.toArray := p
    obtain ⟨u, hu, ru⟩ := rv.get hx
    have hel : e < s.heap.objs.size := Heap.lt_size he
    have hil : it < s.heap.objs.size := by obtain ⟨_, q, _⟩ := hit; exact Heap.lt_size q
    have hat : a ≠ it := by
      rintro rfl
      obtain ⟨o, h1, h2, _⟩ := hit
      obtain ⟨o', h3, h4, _⟩ := p'
      rw [h1] at h3; cases h3
      rw [h2] at h4; exact absurd (Value.type.inj h4) (by decide)
    have hae : a ≠ e := by
      rintro rfl
      obtain ⟨o', h3, h4, _⟩ := p'
      have : IsEnum s.heap a it ((i : Nat) : Int) old := he
      unfold IsEnum at this
      rw [this] at h3; cases h3
      exact absurd (Value.type.inj h4) (by decide)
    refine wpAny_pyNext_enum_itemD (Draws.tuple (prog := X.prog) (w := X.w) (A := X.A.in1) (I.ok.hd hc) it a hat its.toArray) he ⟨hit, p'⟩ (by rw [List.size_toArray]; exact (List.getElem?_eq_some_iff.mp hu).1) hne (by simp; exact ⟨hne, fun z => hae z.symm⟩) fun x2 h' tk hx2 ho hst hT hsz hk => ?_
    have e2 : x2 = u := by
      have : its[i]? = some x2 := by simpa using hx2
      rw [hu] at this; cases this; rfl
    subst e2
    refine ⟨_, rfl, wpAny_letOwnedTupleGo_enum (s := { s with heap := h', toks := tk + 1 }) ho fun h'' he' sb => ?_⟩
    have hT2 : h''.get? s.heap.objs.size = some { cls := .type "tuple", data := .seq #[.int i tk, x2] } := (sb.2 _ (Nat.ne_of_gt hel)).trans hT
    have new : ObjOk X.prog X.w (upd H s.heap.objs.size (.tup [.int (i : Nat), x])) h'' s.heap.objs.size (.tup [.int (i : Nat), x]) :=
      ⟨by show 2 ≤ sizeLine; decide, [.int i tk, x2], .cons ⟨_, rfl⟩ (.cons ru .nil), ⟨_, hT2, rfl, _, rfl⟩⟩
    have I1 : Inv X pins σ (upd H s.heap.objs.size (.tup [.int (i : Nat), x])) { s with heap := h'', toks := tk + 1 } :=
      I.turnedNew (ch := [e, it]) (fun b ob hb q => (sb.2 b (fun z => hb (by simp [z]))).trans (hk b ob (fun z => hb (by simp [z])) (fun z => hb (by simp [z])) q)) hf (Nat.le_refl _) new
    refine ⟨.ref s.heap.objs.size, _, I1, rfl, ⟨_, x, rfl, I.hok.fresh (Nat.le_refl _), rfl, fun ys hy => by rw [I.tuple_inj hy hq]; exact hx⟩, ⟨⟨x2, ?_⟩, hst.1.at fun o q => (sb.2 it (Ne.symm hne)).trans q, hne⟩, fun b hb => ?_⟩
    · have e1 : ((i + 1 : Nat) : Int) = (i : Int) + 1 := by omega
      rw [e1]; exact he'
    · have hb' : b < s.heap.objs.size := by
        have e' : b = e ∨ b = it := by simpa using hb
        rcases e' with z | z
        · rw [z]; exact hel
        · rw [z]; exact hil
      rw [upd_ne (Nat.ne_of_lt hb')]
      exact (hf b hb).1
  done := by
    intro X hP hw hK hc i pins s σ H E I hf st hg
    subst hP hw hK
    obtain ⟨⟨old, he⟩, hit, hne⟩ := st
    obtain ⟨xs, hq, hx⟩ := hg
    obtain ⟨its, rv, p, hz⟩ := I.tuple hq
    have p' : s.heap.IsTuple a its.toArray := p
    obtain ⟨f0, f1, f2, f3, f4, f5⟩ := hf it (by simp)
    have hl := rv.length
    have hT : s.TypeIs (.ref e) "enumerate" := ⟨_, he, rfl⟩
    unfold pyNext
    refine wpAny_bind (wpAny_attempt (wpAny_callSpecial?_slot (name := Str.ofString "__next__") hT F.slot_enumerate_next
      (wpAny_call_entry F.slot_enumerate_next hT F.entry_enumerate_next ?_ (F.args_enumerate_next_1 _))))
    show wpAny _ _ (field (.ref e) 2 >>= _) _ _ _
    refine wpAny_bind (wpAny_field he rfl (x := .ref it) rfl ?_)
    refine wpAny_bind (wpAny_nextOf_tuple_end (A := X.A.in1) (I.ok.hd hc) hit p' (by simp; omega) fun h' x he' hx' => ?_)
    obtain ⟨o, ho, hc2⟩ := hx'
    refine wpAny_bind (wpAny_isInstance (T := "StopIteration") (b := true) ⟨o, ho, hc2⟩ isSubtype_stop ?_)
    exact wpAny_pure ⟨rfl, I.turned (t' := s.toks) (fun b o hb q => he' b o hb q) f0 f1 f3 f4 f5⟩
  self := fun A i s Q E st h => let ⟨⟨_, he⟩, _⟩ := st; wpAny_pyIter_enum he h
def iEnumT (K : PySem.W.Frag) (ta : TA) : TI := fun σ H R => ta σ H fun vs H1 => ∃ a xs, vs = [.ref a] ∧ SqT K H1 a xs ∧ R (IteT K a) H1
theorem pi_enumT {X : Cx} {e : Expr} {ta : TA} {p pos tpos : Pos} {elts : List Expr} {kk : Nat} (hg : Gl X "enumerate") (hm : X.mg "enumerate" = none) (ha : PA X [e] ta) (hs : starEach [e] X.env = [(false, eval e X.env)] := by rfl) :
    PI X (.Tuple elts kk tpos) (.Call (.Name "enumerate" p) [e] [] pos) (iEnumT X.K ta) := by
  refine ⟨fun pins s σ H R I h => ?_⟩
  refine Call_ (ld_blt I hg hm boot_enumerate (PyProof.Rows.callWith_type1 (thn (ha.run pos pins s σ H _ I h) fun us s1 ⟨vs, H1, I1, r1, q1⟩ => ?_) hs rfl))
  obtain ⟨a, xs, ex, hq, q⟩ := q1
  subst ex
  cases r1 with
  | cons r rr =>
    cases rr
    cases r
    obtain ⟨its, rv, p', hz⟩ := I1.tuple hq
    refine enum1_begins (begins_tuple a its.toArray) (show s1.heap.IsTuple a its.toArray from p') fun h' he hit hsz hk => wpAny_pyIter_enum he ?_
    have I2 : Inv X pins σ H1 { s1 with heap := h' } := I1.kept (t' := s1.toks) hk
    refine ⟨s1.heap.objs.size + 1, [s1.heap.objs.size + 1, s1.heap.objs.size], _, _, H1, rfl, I2, turn_enumT a (s1.heap.objs.size + 1) s1.heap.objs.size, ⟨⟨.none, he⟩, ⟨_, hit, rfl, rfl⟩, Nat.succ_ne_self _⟩, fun b hb => ?_, q⟩
    have e' : b = s1.heap.objs.size + 1 ∨ b = s1.heap.objs.size := by simpa using hb
    have hle : s1.heap.objs.size ≤ b := by
      rcases e' with z | z
      · rw [z]; exact Nat.le_add_right _ _
      · rw [z]; exact Nat.le_refl _
    exact I1.fpOk hle (I1.hok.fresh hle)
theorem wt_enumT {K : PySem.W.Frag} {H1 : Hp} {a : Addr} {ts : List T} {vs : List V} (hp : H1 a = some (.tup vs)) (r : RpL K H1 ts vs) : WalkT K (IteT K a) H1 (enumT ts) (fun _ => True) where
  goes := fun i H G hi k ab s => by
    rw [enumT_len] at hi
    obtain ⟨v, hv, _⟩ := r.at (show ts[i]? = some ts[i] by simp [hi])
    exact ⟨vs, v, SqT.of (k.t _ _ hp), hv⟩
  stops := fun H G k ab s => ⟨vs, SqT.of (k.t _ _ hp), by rw [r.length, enumT_len]; exact Nat.le_refl _⟩
  yields := fun i H G x H' hi k ab s y => by
    obtain ⟨p, z, rfl, hp0, rfl, hz⟩ := y
    obtain ⟨t, ht, rt⟩ := (r.mono k).get (hz vs (SqT.of (k.t _ _ hp)))
    exact ⟨Tups.new hp0, ab.grow hp0, _, enumT_at ht, pair_new hp0 (show Rp K H (.int i) (.int i) from rfl) rt⟩
section
variable {X : Cx} {qa : QA}
def qiEnumT (qa : QA) : QI := fun ρ G R => qa ρ G fun ts G1 => match ts with | [.tup us] => R (enumT us) (fun _ => True) G1 | _ => False
theorem i_enumT {e : Expr} {p pos tpos : Pos} {elts : List Expr} {kk : Nat} (hg : Gl X "enumerate") (hm : X.mg "enumerate" = none) (ha : PA X [e] (cA X.K qa)) (hs : starEach [e] X.env = [(false, eval e X.env)] := by rfl) :
    PI X (.Tuple elts kk tpos) (.Call (.Name "enumerate" p) [e] [] pos) (cI X.K (qiEnumT qa)) := PI.wk (pi_enumT hg hm ha hs) fun σ H R h => by
  obtain ⟨ρ, G, Q, e, a, q, f⟩ := h
  refine ⟨ρ, G, _, e, a, q, fun vs H1 ts G1 k1 a1 r1 q1 => ?_⟩
  split at q1
  · obtain ⟨v, rfl, h1⟩ := rpl1 r1
    obtain ⟨p, ws, rfl, hp, r⟩ := h1
    exact ⟨p, ws, rfl, SqT.of hp, f _ H1 _ _ G1 k1 a1 (wt_enumT hp r) q1⟩
  · exact q1.elim
end
end Lw

set_option Elab.async false
set_option linter.all false
set_option maxRecDepth 100000
set_option maxHeartbeats 4000000
namespace Lw
open PySem PySem.Spec PyProof.Rows L2

/-! ### either of two rules -/
section
variable {X : Cx}
theorem c2_or {K : PySem.W.Frag} {f g h : Q2} (s : ∀ x y G Q, h x y G Q → f x y G Q ∨ g x y G Q) {v w : V} {H : Hp} {KQ : VK} (q : c2 K h v w H KQ) : c2 K f v w H KQ ∨ c2 K g v w H KQ := by
  obtain ⟨x, y, G, Q, hx, hy, ha, hf, hk⟩ := q
  rcases s x y G Q hf with z | z
  · exact .inl ⟨x, y, G, Q, hx, hy, ha, z, hk⟩
  · exact .inr ⟨x, y, G, Q, hx, hy, ha, z, hk⟩
theorem o_or {o : Value → Value → Sem Value} {f g h : Q2} (a : OpR X o (c2 X.K f)) (b : OpR X o (c2 X.K g)) (s : ∀ x y G Q, h x y G Q → f x y G Q ∨ g x y G Q) : OpR X o (c2 X.K h) := fun pins st σ H v w u u' KQ I rv rw' q =>
  (c2_or s q).elim (fun z => a pins st σ H v w u u' KQ I rv rw' z) (fun z => b pins st σ H v w u u' KQ I rv rw' z)
theorem pi_or {tg l : Expr} {q1 q2 q : QI} (a : PI X tg l (cI X.K q1)) (b : PI X tg l (cI X.K q2)) (s : ∀ ρ G R, q ρ G R → q1 ρ G R ∨ q2 ρ G R) : PI X tg l (cI X.K q) := ⟨fun pins st σ H R I h => by
  obtain ⟨ρ, G, Q, e, ab, h, f⟩ := h
  rcases s ρ G Q h with z | z
  · exact a.run pins st σ H R I ⟨ρ, G, Q, e, ab, z, f⟩
  · exact b.run pins st σ H R I ⟨ρ, G, Q, e, ab, z, f⟩⟩
end

/-! ### defs by name -/
structure DefOk (P : Program) (w : World) (K : PySem.W.Frag) (mg : Str → Option Value) (base : Heap) (k : Nat) (x : Str) (ps : List Str) (sp : QSp) : Prop where
  ex : ∃ f fd, FnOk P w K mg base CX0 k f fd ps (cSp K sp) ∧ mg x = some (.ref f) ∧ PySem.W.keepIn K (.ref f) = true ∧ L2.Binds K fd ps []
structure FunAt (K : PySem.W.Frag) (mg : Str → Option Value) (x qual : Str) (st : Stmt) (ps : List Str) : Prop where
  ex : ∃ f fd, Fun K x qual st f fd ∧ mg x = some (.ref f) ∧ L2.Binds K fd ps []
section
variable {P : Program} {w : World} {K : PySem.W.Frag} {mg : Str → Option Value} {base : Heap}
theorem funAt_mk {x qual : Str} {st : Stmt} {ps : List Str} {h : Heap} {f : Addr} {oc : Value} {od an : Option Addr} {osl : Array (Option Value)} {kV doc pm cdv ct : Value} (X : K.In h) (G : h.Ns mainGlobals mg)
    (a : PySem.W.nsIn K mainGlobals x = some (some (.ref f))) (l : K.lookup f = some ⟨oc, od, .func (PySem.W.fnOf x qual (defArgs st) (defBody st) (defScope st) .none kV doc pm an cdv ct), osl⟩)
    (c : PySem.W.codeIn K cdv qual = true) (k : PySem.W.keepIn K (.ref f) = true)
    (hb : ∀ (kV doc pm : Value) (an : Option Addr) (cdv ct : Value) (us : List Value), us.length = ps.length → bindArgs (PySem.W.fnOf x qual (defArgs st) (defBody st) (defScope st) .none kV doc pm an cdv ct) ⟨us, []⟩ = pure (ps.zip us)) : FunAt K mg x qual st ps :=
  have F := fun_mk (st := st) l c k
  ⟨⟨f, _, F, PySem.W.mg_of X G a, F.binds hb⟩⟩
theorem okd {x qual : Str} {st : Stmt} {N ps : List Str} {k : Nat} {sp : QSp} {q : QS} (F : FunAt K mg x qual st ps) (S : FnScope N ps (defScope st)) (len : ∀ ts G Q E, sp ts G Q E → ts.length = ps.length)
    (der : ∀ (f : Addr) (cdv : Value) (A : Around) (outer : List PySem.Env) (s : Shared) (H : Hp) (E : XK), Room k (A.deeper (envOfC qual (defScope st) s.heap.objs.size f cdv)) → PSs (cxOf CX0 P w K mg base N qual (defScope st) f cdv A outer s H E).nox (defBody st) (cS K q))
    (run : ∀ ts G Q E, sp ts G Q E → normK (startT N ts) fun ρ => q (endOf Q) ρ G) : DefOk P w K mg base (k + 1) x ps sp := by
  obtain ⟨f, fd, F, m, b⟩ := F.ex
  exact ⟨f, fd, okq F S len (der f) run, m, F.kp, b⟩
end
section
variable {X : Cx} {k : Nat} {x : Str} {ps : List Str} {sp : QSp} {qa : QA} {p pos : Pos} {e : Expr} {es : List Expr}
theorem e_callD (D : DefOk X.prog X.w X.K X.mg X.base k x ps sp) (hr : Room k X.A) (hg : Gl X x) (ha : PA X (e :: es) (cA X.K qa)) (hdb : (x == ("__debug__" : Str)) = false := by decide)
    (he : starEach (e :: es) X.env = (false, eval e X.env) :: starEach es X.env := by rfl) (hpl : (backTo pos (starEach es X.env)).any (·.1) = false := by rfl) : PE X (.Call (.Name x p) (e :: es) [] pos) (cE X.K (qCall sp qa)) := by
  obtain ⟨f, fd, F, m, kp, b⟩ := D.ex
  exact e_call F hr hg m kp b pass0 ha hdb he hpl
end
/-! ### universal rules -/
section
variable {X : Cx} {tg : Expr} {l : Expr} {qe : QE} {qa : QA}
def qiSeq (qe : QE) : QI := fun ρ G R => qe ρ G fun x G1 => match x with
  | .tup ts => R ts (fun _ => True) G1
  | .ref a => ∃ ts, G1 a = some (.lst ts) ∧ R ts (fun G => G a = some (.lst ts)) G1
  | _ => False
theorem pi_seq {l : Expr} {tl : TE} (hl : PE X l tl) : PI X tg l (fun σ H R => tl σ H fun x H1 => ∃ a, x = .ref a ∧ ((∃ xs, SqL X.K H1 a xs) ∧ R (Itl X.K a) H1 ∨ (∃ xs, SqT X.K H1 a xs) ∧ R (Itt X.K a) H1)) := by
  refine ⟨fun pins s σ H R I h => ?_⟩
  refine thn (hl.run pins s σ H _ I h) fun v s1 ⟨x, H1, I1, r1, q1⟩ => ?_
  obtain ⟨a, e, q⟩ := q1
  subst e
  cases r1
  rcases q with ⟨⟨xs, hq⟩, q⟩ | ⟨⟨xs, hq⟩, q⟩
  · obtain ⟨its, rv, p, hz⟩ := I1.list hq
    refine wpAny_pyIter_list p.isList ?_
    refine ⟨s1.heap.objs.size, [s1.heap.objs.size], _, _, H1, rfl, I1.kept (t' := s1.toks) fun b o e => Heap.get?_push_of_some _ e, turn_list a _, ⟨_, Heap.get?_push_size _ rfl, rfl, rfl⟩, fun b hb => ?_, q⟩
    have e : b = s1.heap.objs.size := by simpa using hb
    subst e
    exact I1.fpOk (Nat.le_refl _) (I1.hok.fresh (Nat.le_refl _))
  · obtain ⟨its, rv, p, hz⟩ := I1.tuple hq
    refine wpAny_pyIter_tuple (show s1.heap.IsTuple a its.toArray from p) ?_
    refine ⟨s1.heap.objs.size, [s1.heap.objs.size], _, _, H1, rfl, I1.kept (t' := s1.toks) fun b o e => Heap.get?_push_of_some _ e, turn_tuple a _, ⟨_, Heap.get?_push_size _ rfl, rfl, rfl⟩, fun b hb => ?_, q⟩
    have e : b = s1.heap.objs.size := by simpa using hb
    subst e
    exact I1.fpOk (Nat.le_refl _) (I1.hok.fresh (Nat.le_refl _))
theorem i_seq (hl : PE X l (cE X.K qe)) : PI X tg l (cI X.K (qiSeq qe)) := PI.wk (pi_seq hl) fun σ H R h => by
  obtain ⟨ρ, G, Q, e, a, q, f⟩ := h
  refine ⟨ρ, G, _, e, a, q, fun v H1 t G1 k1 a1 r1 q1 => ?_⟩
  split at q1
  · obtain ⟨p, vs, rfl, hp, r⟩ := r1
    exact ⟨p, rfl, .inr ⟨⟨vs, SqT.of hp⟩, f _ H1 _ _ G1 k1 a1 (wt_tup hp r) q1⟩⟩
  · cases r1
    obtain ⟨ts, hg, q1⟩ := q1
    obtain ⟨vs, hp, r⟩ := a1 _ _ hg
    exact ⟨_, rfl, .inl ⟨⟨vs, SqL.of hp⟩, f _ H1 _ _ G1 k1 a1 wt_list q1⟩⟩
  · exact q1.elim
/-- t * n, a tuple -/
def fMulT : Q2 := fun x y G Q => match x, y with
  | .int i, .int j => MulOk i j ∧ Q (.int (i * j)) G
  | .tup ts, .int k => ts ≠ [] ∧ 2 ≤ k ∧ k ≤ 1000 ∧ ts.length ≤ 1000 ∧ Q (.tup (List.replicate k.toNat ts).flatten) G
  | _, _ => False
theorem o_mul : OpR X (binaryOp .Mult) (c2 X.K fMulT) := by
  intro pins s σ H v w u u' KQ I rv rw' h2
  obtain ⟨x, y, G, Q, hx, hy, ha, hf, hk⟩ := h2
  unfold fMulT at hf
  split at hf
  · exact op_mulW pins s σ H v w u u' KQ I rv rw' ⟨_, _, hx, hy, hf.1.w, hk _ H (.int _) G (Tups.refl H) ha rfl hf.2⟩
  · rename_i ts k
    obtain ⟨h1, h2, h3, h4, hf⟩ := hf
    obtain ⟨p, vs, rfl, hp, r⟩ := hx
    refine op_repT pins s σ H _ _ u u' KQ I rv rw' ⟨p, k, vs, rfl, hy, SqT.of hp, fun e => h1 (by subst e; exact List.eq_nil_of_length_eq_zero r.length.symm), h2, h3, by rw [r.length]; exact h4, fun l hl => ?_⟩
    have kk : Tups H (upd H l (.tup (List.replicate k.toNat vs).flatten)) := Tups.new hl
    exact hk _ _ (.tup (List.replicate k.toNat ts).flatten) G kk (ha.grow hl) ⟨l, _, rfl, upd_same, (r.flat k.toNat).mono kk⟩ hf
  · exact hf.elim
/-! ### == of data -/
/-- a value without objects of its own, as data -/
def pd : T → Option PyData
  | .non => some .none
  | .bl b => some (.bool b)
  | .int i => some (.int i)
  | .str x => some (.str x)
  | .tup ts => (pds ts).map PyData.tuple
  | _ => none
where pds : List T → Option (List PyData)
  | [] => some []
  | t :: ts => match pd t, pds ts with | some d, some ds => some (d :: ds) | _, _ => none
end
end Lw

set_option Elab.async false
set_option linter.all false
set_option maxRecDepth 100000
set_option maxHeartbeats 4000000
namespace Lw
open PySem PySem.Spec PyProof.Rows L2

/-! ### == of values without objects -/
mutual
def pdT : T → PyData
  | .non => .none
  | .bl b => .bool b
  | .int i => .int i
  | .str x => .str x
  | .tup ts => .tuple (pdTs ts)
  | _ => .none
def pdTs : List T → List PyData
  | [] => []
  | t :: ts => pdT t :: pdTs ts
end
mutual
def okT : T → Bool
  | .non => true
  | .bl _ => true
  | .int _ => true
  | .str x => PyData.strOk x
  | .tup ts => okTs ts
  | _ => false
def okTs : List T → Bool
  | [] => true
  | t :: ts => okT t && okTs ts
end
mutual
def dpT : T → Nat
  | .tup ts => dpTs ts + 1
  | _ => 0
def dpTs : List T → Nat
  | [] => 0
  | t :: ts => max (dpT t) (dpTs ts)
end
mutual
def teq : T → T → Bool
  | .non, .non => true
  | .bl a, .bl b => a == b
  | .bl a, .int j => (if a then 1 else 0) == j
  | .int i, .bl b => i == (if b then 1 else 0)
  | .int i, .int j => decide (i = j)
  | .str x, .str y => decide (x = y)
  | .tup xs, .tup ys => teqs xs ys
  | _, _ => false
def teqs : List T → List T → Bool
  | [], [] => true
  | x :: xs, y :: ys => teq x y && teqs xs ys
  | _, _ => false
end
mutual
theorem pd_can : ∀ t : T, okT t = true → PyData.canLay0 (pdT t) = true
  | .non, _ => rfl
  | .bl _, _ => rfl
  | .int _, _ => rfl
  | .str x, h => h
  | .tup ts, h => pds_can ts h
  | .ref _, h => by cases h
  | .ty _, h => by cases h
  | .scr _, h => by cases h
theorem pds_can : ∀ ts : List T, okTs ts = true → PyData.canLayAll0 (pdTs ts) = true
  | [], _ => rfl
  | t :: ts, h => by
    have h' : (okT t && okTs ts) = true := h
    rw [Bool.and_eq_true] at h'
    show (PyData.canLay0 (pdT t) && PyData.canLayAll0 (pdTs ts)) = true
    rw [pd_can t h'.1, pds_can ts h'.2]; rfl
end
mutual
theorem pd_eqv : ∀ t u : T, okT t = true → okT u = true → PyData.eqv (pdT t) (pdT u) = teq t u := by
  intro t u ht hu
  cases t <;> cases u <;> first
    | rfl
    | (simp only [pdT, PyData.eqv, teq]; done)
    | exact absurd ht Bool.false_ne_true
    | exact absurd hu Bool.false_ne_true
    | (simp only [pdT, PyData.eqv, teq, Bool.beq_eq_decide_eq]; done)
    | (simp only [pdT, PyData.eqv, teq]; exact pds_eqv _ _ ht hu)
theorem pds_eqv : ∀ ts us : List T, okTs ts = true → okTs us = true → PyData.eqvAll (pdTs ts) (pdTs us) = teqs ts us
  | [], [], _, _ => rfl
  | [], _ :: _, _, _ => rfl
  | _ :: _, [], _, _ => rfl
  | t :: ts, u :: us, h, h2 => by
    have h' : (okT t && okTs ts) = true := h
    have h2' : (okT u && okTs us) = true := h2
    rw [Bool.and_eq_true] at h' h2'
    show (PyData.eqv (pdT t) (pdT u) && PyData.eqvAll (pdTs ts) (pdTs us)) = (teq t u && teqs ts us)
    rw [pd_eqv t u h'.1 h2'.1, pds_eqv ts us h'.2 h2'.2]
end
mutual
theorem pd_depth : ∀ t : T, okT t = true → (pdT t).depth ≤ dpT t + 1
  | .non, _ => by decide
  | .bl _, _ => by simp [pdT, PyData.depth]
  | .int _, _ => by simp [pdT, PyData.depth]
  | .str x, h => by simp [pdT, PyData.depth]
  | .tup ts, h => by
    have := pds_depth ts h
    show PyData.depth (.tuple (pdTs ts)) ≤ dpTs ts + 1 + 1
    simp only [PyData.depth]
    omega
  | .ref _, h => by cases h
  | .ty _, h => by cases h
  | .scr _, h => by cases h
theorem pds_depth : ∀ ts : List T, okTs ts = true → PyData.depthAll (pdTs ts) ≤ dpTs ts + 1
  | [], _ => by simp [pdTs, PyData.depthAll]
  | t :: ts, h => by
    have h' : (okT t && okTs ts) = true := h
    rw [Bool.and_eq_true] at h'
    have h1 := pd_depth t h'.1
    have h2 := pds_depth ts h'.2
    show PyData.depthAll (pdT t :: pdTs ts) ≤ max (dpT t) (dpTs ts) + 1
    simp only [PyData.depthAll]
    omega
end
mutual
theorem pd_dp {K : PySem.W.Frag} {H : Hp} : ∀ (t : T) (v : V), okT t = true → Rp K H t v → Dp K H v (pdT t)
  | .non, _, _, h => by cases h; exact .non
  | .bl b, _, _, h => by cases h; exact .bl b
  | .int i, _, _, h => by cases h; exact .int i
  | .str x, _, _, h => by cases h; exact .str x
  | .tup ts, _, o, ⟨a, vs, e, h, r⟩ => by subst e; exact .tup (SqT.of h) (pds_dp ts vs o r)
  | .ref _, _, o, _ => by cases o
  | .ty _, _, o, _ => by cases o
  | .scr _, _, o, _ => by cases o
theorem pds_dp {K : PySem.W.Frag} {H : Hp} : ∀ (ts : List T) (vs : List V), okTs ts = true → RpL K H ts vs → DpAll K H vs (pdTs ts)
  | [], _, _, h => by rw [show _ = [] from h]; exact .nil
  | t :: ts, _, o, ⟨v, r, e, h, hr⟩ => by
    have h' : (okT t && okTs ts) = true := o
    rw [Bool.and_eq_true] at h'
    subst e
    exact .cons (pd_dp t v h'.1 h) (pds_dp ts r h'.2 hr)
end
/-- what == asks of a value: no objects in it, not too deep -/
def eqOk (t : T) : Bool := okT t && decide (dpT t ≤ 50)
def eqOks (ts : List T) : Bool := okTs ts && decide (dpTs ts ≤ 50)
theorem eqOk_ok {t : T} (h : eqOk t = true) : okT t = true := ((Bool.and_eq_true _ _).mp h).1
theorem eqOk_dp {t : T} (h : eqOk t = true) : dpT t ≤ 50 := of_decide_eq_true ((Bool.and_eq_true _ _).mp h).2
theorem eqOks_ok {t : List T} (h : eqOks t = true) : okTs t = true := ((Bool.and_eq_true _ _).mp h).1
theorem eqOks_dp {t : List T} (h : eqOks t = true) : dpTs t ≤ 50 := of_decide_eq_true ((Bool.and_eq_true _ _).mp h).2
def fEq (neg : Bool) : Q2 := fun x y G Q => match x, y with
  | .int i, .int j => Q (.bl (neg != decide (i = j))) G
  | .str i, .str j => Q (.bl (neg != decide (i = j))) G
  | .bl i, .bl j => Q (.bl (neg != decide (i = j))) G
  | .ref a, .ref b => ∃ xs ys, G a = some (.lst xs) ∧ G b = some (.lst ys) ∧ eqOks xs = true ∧ eqOks ys = true ∧ Q (.bl (neg != teqs xs ys)) G
  | .ref a, y => ∃ xs, G a = some (.lst xs) ∧ eqOks xs = true ∧ eqOk y = true ∧ Q (.bl neg) G
  | x, .ref a => ∃ xs, G a = some (.lst xs) ∧ eqOks xs = true ∧ eqOk x = true ∧ Q (.bl neg) G
  | x, y => eqOk x = true ∧ eqOk y = true ∧ Q (.bl (neg != teq x y)) G
section
variable {X : Cx}
theorem shp {t : T} (h : okT t = true) (d : dpT t ≤ 50) : SeqAt.shaped (pdT t) = true := by
  unfold SeqAt.shaped
  rw [pd_can t h]
  have := pd_depth t h
  exact decide_eq_true (by omega)
theorem shpL {ts : List T} (h : okTs ts = true) (d : dpTs ts ≤ 50) : SeqAt.shaped (.list (pdTs ts)) = true := by
  unfold SeqAt.shaped
  have e : PyData.canLay0 (.list (pdTs ts)) = true := pds_can ts h
  rw [e]
  have := pds_depth ts h
  exact decide_eq_true (by simp only [PyData.depth]; omega)
theorem eqv_list_no {xs : List PyData} {t : T} (h : okT t = true) : PyData.eqv (.list xs) (pdT t) = false := by
  cases t <;> first | rfl | (simp only [pdT, PyData.eqv]; done) | cases h
theorem eqv_no_list {xs : List PyData} {t : T} (h : okT t = true) : PyData.eqv (pdT t) (.list xs) = false := by
  cases t <;> first | rfl | (simp only [pdT, PyData.eqv]; done) | cases h
theorem Abs.dlist {K : PySem.W.Frag} {H : Hp} {G : Gp} {a : Addr} {xs : List T} (ha : Abs K H G) (g : G a = some (.lst xs)) (o : okTs xs = true) : Dp K H (.ref a) (.list (pdTs xs)) := by
  obtain ⟨vs, hp, r⟩ := ha _ _ g
  exact .lst (SqL.of hp) (pds_dp xs vs o r)
theorem feq_dp {K : PySem.W.Frag} {neg : Bool} {x y : T} {v w : V} {H : Hp} {G : Gp} {Q : TK} (hx : Rp K H x v) (hy : Rp K H y w) (ha : Abs K H G) (hf : fEq neg x y G Q) :
    (∃ d e, Dp K H v d ∧ Dp K H w e ∧ SeqAt.shaped d = true ∧ SeqAt.shaped e = true ∧ Q (.bl (neg != PyData.eqv d e)) G) ∨ ∃ i j, v = .str i ∧ w = .str j ∧ Q (.bl (neg != decide (i = j))) G := by
  unfold fEq at hf
  split at hf
  · cases hx; cases hy
    exact .inl ⟨_, _, .int _, .int _, rfl, rfl, by simp only [PyData.eqv, Bool.beq_eq_decide_eq]; exact hf⟩
  · cases hx; cases hy
    exact .inr ⟨_, _, rfl, rfl, hf⟩
  · cases hx; cases hy
    exact .inl ⟨_, _, .bl _, .bl _, rfl, rfl, by simp only [PyData.eqv, Bool.beq_eq_decide_eq]; exact hf⟩
  · obtain ⟨xs, ys, g1, g2, o1, o2, q⟩ := hf
    have d1 := eqOks_dp o1
    have d2 := eqOks_dp o2
    have o1 := eqOks_ok o1
    have o2 := eqOks_ok o2
    cases hx; cases hy
    exact .inl ⟨_, _, ha.dlist g1 o1, ha.dlist g2 o2, shpL o1 d1, shpL o2 d2, by rw [show PyData.eqv (.list (pdTs xs)) (.list (pdTs ys)) = teqs xs ys from by simp only [PyData.eqv]; exact pds_eqv xs ys o1 o2]; exact q⟩
  · obtain ⟨xs, g1, o1, o2, q⟩ := hf
    have d1 := eqOks_dp o1
    have d2 := eqOk_dp o2
    have o1 := eqOks_ok o1
    have o2 := eqOk_ok o2
    cases hx
    exact .inl ⟨_, _, ha.dlist g1 o1, pd_dp _ _ o2 hy, shpL o1 d1, shp o2 d2, by rw [eqv_list_no o2, Bool.bne_false]; exact q⟩
  · obtain ⟨xs, g1, o1, o2, q⟩ := hf
    have d1 := eqOks_dp o1
    have d2 := eqOk_dp o2
    have o1 := eqOks_ok o1
    have o2 := eqOk_ok o2
    cases hy
    exact .inl ⟨_, _, pd_dp _ _ o2 hx, ha.dlist g1 o1, shp o2 d2, shpL o1 d1, by rw [eqv_no_list o2, Bool.bne_false]; exact q⟩
  · obtain ⟨o1, o2, q⟩ := hf
    have d1 := eqOk_dp o1
    have d2 := eqOk_dp o2
    have o1 := eqOk_ok o1
    have o2 := eqOk_ok o2
    exact .inl ⟨_, _, pd_dp _ _ o1 hx, pd_dp _ _ o2 hy, shp o1 d1, shp o2 d2, by rw [pd_eqv _ _ o1 o2]; exact q⟩
theorem o_eq (hu : X.A.units + 64 < cLine) : OpR X (compareOp .Eq) (c2 X.K (fEq false)) := by
  intro pins s σ H v w u u' KQ I rv rw' h2
  obtain ⟨x, y, G, Q, hx, hy, ha, hf, hk⟩ := h2
  rcases feq_dp hx hy ha hf with ⟨d, e, d1, d2, s1, s2, q⟩ | ⟨i, j, rfl, rfl, q⟩
  case inr => exact op_eq pins s σ H _ _ u u' KQ I rv rw' ⟨rfl, hk _ H (.bl (decide (i = j))) G (Tups.refl H) ha (show V.bl _ = V.bl _ from congrArg V.bl (by by_cases e : i = j <;> simp [e])) (by rw [Bool.false_bne] at q; exact q)⟩
  exact op_eqD hu pins s σ H v w u u' KQ I rv rw' ⟨d, e, d1, d2, s1, s2, hk _ H (.bl _) G (Tups.refl H) ha rfl (by rw [Bool.false_bne] at q; exact q)⟩
theorem o_ne (hu : X.A.units + 64 < cLine) : OpR X (compareOp .NotEq) (c2 X.K (fEq true)) := by
  intro pins s σ H v w u u' KQ I rv rw' h2
  obtain ⟨x, y, G, Q, hx, hy, ha, hf, hk⟩ := h2
  rcases feq_dp hx hy ha hf with ⟨d, e, d1, d2, s1, s2, q⟩ | ⟨i, j, rfl, rfl, q⟩
  case inr => exact op_ne pins s σ H _ _ u u' KQ I rv rw' ⟨rfl, hk _ H (.bl (!decide (i = j))) G (Tups.refl H) ha (show V.bl _ = V.bl _ from congrArg V.bl (by by_cases e : i = j <;> simp [e])) (by rw [Bool.true_bne] at q; exact q)⟩
  exact op_neD hu pins s σ H v w u u' KQ I rv rw' ⟨d, e, d1, d2, s1, s2, hk _ H (.bl _) G (Tups.refl H) ha rfl (by rw [Bool.true_bne] at q; exact q)⟩
end
end Lw

set_option Elab.async false
set_option linter.all false
set_option maxRecDepth 100000
set_option maxHeartbeats 4000000
namespace Lw
open PySem PySem.Spec PyProof.Rows L2
section
variable {X : Cx}
/-! ### enumerate of a list or a tuple -/
def iEnumA (K : PySem.W.Frag) (ta : TA) : TI := fun σ H R => ta σ H fun vs H1 => ∃ a, vs = [.ref a] ∧ ((∃ xs, SqL K H1 a xs) ∧ R (Ite K a) H1 ∨ (∃ xs, SqT K H1 a xs) ∧ R (IteT K a) H1)
theorem pi_enumA {e : Expr} {ta : TA} {p pos tpos : Pos} {elts : List Expr} {kk : Nat} (hg : Gl X "enumerate") (hm : X.mg "enumerate" = none) (ha : PA X [e] ta) (hs : starEach [e] X.env = [(false, eval e X.env)] := by rfl) :
    PI X (.Tuple elts kk tpos) (.Call (.Name "enumerate" p) [e] [] pos) (iEnumA X.K ta) := by
  refine ⟨fun pins s σ H R I h => ?_⟩
  refine Call_ (ld_blt I hg hm boot_enumerate (PyProof.Rows.callWith_type1 (thn (ha.run pos pins s σ H _ I h) fun us s1 ⟨vs, H1, I1, r1, q1⟩ => ?_) hs rfl))
  obtain ⟨a, ex, q⟩ := q1
  subst ex
  cases r1 with
  | cons r rr =>
    cases rr
    cases r
    have pins2 : ∀ b : Addr, b ∈ [s1.heap.objs.size + 1, s1.heap.objs.size] → FpOk X pins H1 b := fun b hb => by
      have e' : b = s1.heap.objs.size + 1 ∨ b = s1.heap.objs.size := by simpa using hb
      have hle : s1.heap.objs.size ≤ b := by
        rcases e' with z | z
        · rw [z]; exact Nat.le_add_right _ _
        · rw [z]; exact Nat.le_refl _
      exact I1.fpOk hle (I1.hok.fresh hle)
    rcases q with ⟨⟨xs, hq⟩, q⟩ | ⟨⟨xs, hq⟩, q⟩
    · obtain ⟨its, rv, p', hz⟩ := I1.list hq
      refine call_enumerate_list p'.isList fun h' he hit hsz hk => wpAny_pyIter_enum he ?_
      have I2 : Inv X pins σ H1 { s1 with heap := h' } := I1.kept (t' := s1.toks) hk
      exact ⟨s1.heap.objs.size + 1, [s1.heap.objs.size + 1, s1.heap.objs.size], _, _, H1, rfl, I2, turn_enum a (s1.heap.objs.size + 1) s1.heap.objs.size, ⟨⟨.none, he⟩, hit, Nat.succ_ne_self _⟩, pins2, q⟩
    · obtain ⟨its, rv, p', hz⟩ := I1.tuple hq
      refine enum1_begins (begins_tuple a its.toArray) (show s1.heap.IsTuple a its.toArray from p') fun h' he hit hsz hk => wpAny_pyIter_enum he ?_
      have I2 : Inv X pins σ H1 { s1 with heap := h' } := I1.kept (t' := s1.toks) hk
      exact ⟨s1.heap.objs.size + 1, [s1.heap.objs.size + 1, s1.heap.objs.size], _, _, H1, rfl, I2, turn_enumT a (s1.heap.objs.size + 1) s1.heap.objs.size, ⟨⟨.none, he⟩, ⟨_, hit, rfl, rfl⟩, Nat.succ_ne_self _⟩, pins2, q⟩
variable {qa : QA}
def qiEnum (qa : QA) : QI := fun ρ G R => qa ρ G fun ts G1 => match ts with
  | [.tup us] => R (enumT us) (fun _ => True) G1
  | [.ref a] => ∃ us, G1 a = some (.lst us) ∧ R (enumT us) (fun G => G a = some (.lst us)) G1
  | _ => False
theorem i_enum {e : Expr} {p pos tpos : Pos} {elts : List Expr} {kk : Nat} (hg : Gl X "enumerate") (hm : X.mg "enumerate" = none) (ha : PA X [e] (cA X.K qa)) (hs : starEach [e] X.env = [(false, eval e X.env)] := by rfl) :
    PI X (.Tuple elts kk tpos) (.Call (.Name "enumerate" p) [e] [] pos) (cI X.K (qiEnum qa)) := PI.wk (pi_enumA hg hm ha hs) fun σ H R h => by
  obtain ⟨ρ, G, Q, e, a, q, f⟩ := h
  refine ⟨ρ, G, _, e, a, q, fun vs H1 ts G1 k1 a1 r1 q1 => ?_⟩
  split at q1
  · obtain ⟨v, rfl, h1⟩ := rpl1 r1
    obtain ⟨p, ws, rfl, hp, r⟩ := h1
    exact ⟨p, rfl, .inr ⟨⟨ws, SqT.of hp⟩, f _ H1 _ _ G1 k1 a1 (wt_enumT hp r) q1⟩⟩
  · obtain ⟨v, rfl, h1⟩ := rpl1 r1
    cases h1
    obtain ⟨us, hg, q1⟩ := q1
    obtain ⟨ws, hp, r⟩ := a1 _ _ hg
    exact ⟨_, rfl, .inl ⟨⟨ws, SqL.of hp⟩, f _ H1 _ _ G1 k1 a1 wt_enum q1⟩⟩
  · exact q1.elim
/-! ### module constants, the negative -/
theorem e_glI {x : Str} {n : Int} {pos : Pos} (hg : Gl X x) (hm : ∃ t, X.mg x = some (.int n t)) (hd : (x == ("__debug__" : Str)) = false := by decide) : PE X (.Name x pos) (cE X.K (qC (.int n))) := by
  obtain ⟨t, hm⟩ := hm
  exact e_glob (v := .int n) hg hm ⟨t, rfl⟩ (fun _ => rfl) hd
theorem e_glS {x z : Str} {pos : Pos} (hg : Gl X x) (hm : ∃ t, X.mg x = some (.str z t)) (hd : (x == ("__debug__" : Str)) = false := by decide) : PE X (.Name x pos) (cE X.K (qC (.str z))) := by
  obtain ⟨t, hm⟩ := hm
  exact e_glob (v := .str z) hg hm ⟨t, rfl⟩ (fun _ => rfl) hd
def qUn (f : Q1) (qa : QE) : QE := fun ρ G Q => qa ρ G fun x G1 => f x G1 Q
def fNeg : Q1 := fun x G Q => match x with | .int i => Q (.int (-i)) G | _ => False
theorem e_neg {a : Expr} {qe : QE} {pos : Pos} (ha : PE X a (cE X.K qe)) : PE X (.UnaryOp .USub a pos) (cE X.K (qUn fNeg qe)) := PE.wk (pe_un un_neg ha) fun σ H KQ h => by
  obtain ⟨ρ, G, Q, e, a, q, f⟩ := h
  refine ⟨ρ, G, _, e, a, q, fun v H1 t G1 k1 a1 r1 q1 => ?_⟩
  unfold fNeg at q1
  split at q1
  · cases r1
    exact ⟨_, rfl, f _ H1 (.int _) G1 k1 a1 rfl q1⟩
  · exact q1.elim
/-! ### two comparisons in a row -/
variable {a b c : Expr} {qa qb qc : QE} {f g : Q2} {pos : Pos} {op op' : CmpOp}
theorem chain_wk : ∀ σ H KQ, cE X.K (qChain f g qa qb qc) σ H KQ → tChain (c2 X.K f) (c2 X.K g) (cE X.K qa) (cE X.K qb) (cE X.K qc) σ H KQ := fun σ H KQ h => by
  obtain ⟨ρ, G, Q, e, a, q, k⟩ := h
  refine ⟨ρ, G, _, e, a, q, fun v H1 t G1 k1 a1 r1 q1 => ?_⟩
  refine ⟨ρ, G1, _, e.mono k1, a1, q1, fun w H2 u G2 k2 a2 r2 q2 => ?_⟩
  refine ⟨t, u, G2, _, r1.mono k2, r2, a2, q2, fun z H3 z' G3 k3 a3 r3 q3 => ?_⟩
  have kk := (k1.trans k2).trans k3
  split at q3
  · rename_i kb
    cases r3
    refine ⟨kb, rfl, ?_⟩
    cases kb with
    | true =>
      rw [if_pos rfl]
      exact ⟨ρ, G3, _, e.mono kk, a3, q3.1 rfl, fun w4 H4 t4 G4 k4 a4 r4 q4 => ⟨u, t4, G4, Q, (r2.mono k3).mono k4, r4, a4, q4, k.from (kk.trans k4)⟩⟩
    | false =>
      rw [if_neg Bool.false_ne_true]
      exact k (.bl false) H3 (.bl false) G3 kk a3 rfl (q3.2 rfl)
  · exact q3.elim
theorem e_chain (ho : OpR X (compareOp op) (c2 X.K f)) (ho' : OpR X (compareOp op') (c2 X.K g)) (ha : PE X a (cE X.K qa)) (hb : PE X b (cE X.K qb)) (hc : PE X c (cE X.K qc)) (hm : lastMarks [op, op'] [b, c] = false := by with_unfolding_all rfl) :
    PE X (.Compare a [op, op'] [b, c] pos) (cE X.K (qChain f g qa qb qc)) := PE.wk (pe_chain ho ho' ha hb hc hm) chain_wk
theorem t_chain (ho : OpR X (compareOp op) (c2 X.K f)) (ho' : OpR X (compareOp op') (c2 X.K g)) (ha : PE X a (cE X.K qa)) (hb : PE X b (cE X.K qb)) (hc : PE X c (cE X.K qc)) (hm : lastMarks [op, op'] [b, c] = false := by with_unfolding_all rfl) :
    PT X (.Compare a [op, op'] [b, c] pos) (cT X.K (qTB (qChain f g qa qb qc))) := PT.wk (pt_chain ho ho' ha hb hc hm) fun σ H KQ h => by
  obtain ⟨ρ, G, Q, e, a, q, k⟩ := h
  refine chain_wk σ H _ ⟨ρ, G, _, e, a, q, fun v H1 t G1 k1 a1 r1 q1 => ?_⟩
  cases t with
  | bl b => exact ⟨b, r1, k b H1 G1 k1 a1 q1⟩
  | _ => exact q1.elim
end
end Lw

set_option Elab.async false
set_option linter.all false
set_option maxRecDepth 100000
set_option maxHeartbeats 4000000
namespace Lw
open PySem PySem.Spec PyProof.Rows L2
/-! ### isinstance -/
def isT : T → TyN → Bool
  | .int _, .int => true
  | .bl _, .int => true
  | .bl _, .bool => true
  | .str _, .str => true
  | .tup _, .tuple => true
  | _, _ => false
def isL : TyN → Bool
  | .list => true
  | _ => false
def isAny (f : TyN → Bool) : List T → Option Bool
  | [] => some false
  | .ty n :: r => (isAny f r).map fun b => f n || b
  | _ => none
def clsT (f : TyN → Bool) : T → Option Bool
  | .ty n => some (f n)
  | .tup cs => isAny f cs
  | _ => none
def isPure : T → Bool
  | .non => true
  | .bl _ => true
  | .int _ => true
  | .str _ => true
  | .tup _ => true
  | _ => false
def fIsi : QC := fun ts G Q => match ts with
  | [.ref a, c] => ∃ xs, G a = some (.lst xs) ∧ (match clsT isL c with | some b => Q (.bl b) G | none => False)
  | [x, c] => (match isPure x with | true => (match clsT (isT x) c with | some b => Q (.bl b) G | none => False) | false => False)
  | _ => False
theorem kit_none (n : TyN) : kitB "NoneType" n.name = some (isT .non n) := by cases n <;> decide +kernel
theorem kit_bool (n : TyN) : kitB "bool" n.name = some (isT (.bl true) n) := by cases n <;> decide +kernel
theorem kit_int (n : TyN) : kitB "int" n.name = some (isT (.int 0) n) := by cases n <;> decide +kernel
theorem kit_str (n : TyN) : kitB "str" n.name = some (isT (.str "") n) := by cases n <;> decide +kernel
theorem kit_tuple (n : TyN) : kitB "tuple" n.name = some (isT (.tup []) n) := by cases n <;> decide +kernel
theorem kit_list (n : TyN) : kitB "list" n.name = some (isL n) := by cases n <;> decide +kernel
theorem isT_bl (b c : Bool) (n : TyN) : isT (.bl b) n = isT (.bl c) n := by cases n <;> rfl
theorem isT_int (b c : Int) (n : TyN) : isT (.int b) n = isT (.int c) n := by cases n <;> rfl
theorem isT_str (b c : Str) (n : TyN) : isT (.str b) n = isT (.str c) n := by cases n <;> rfl
theorem isT_tup (b c : List T) (n : TyN) : isT (.tup b) n = isT (.tup c) n := by cases n <;> rfl
section
variable {X : Cx}
theorem isAny_ok {K : PySem.W.Frag} {H : Hp} {tn : String} {f : TyN → Bool} (hk : ∀ n : TyN, kitB tn n.name = some (f n)) : ∀ {cs : List T} {vs : List V} {b : Bool}, isAny f cs = some b → RpL K H cs vs →
    ∃ us : List Value, Paired ClsV vs us ∧ PySem.W.kitAny K (.type tn) us = some b
  | [], _, b, h, r => by
    rw [show _ = [] from r]
    cases h
    exact ⟨[], .nil, rfl⟩
  | c :: cs, _, b, h, ⟨v, vr, e, hv, hr⟩ => by
    subst e
    cases c with
    | ty n =>
      cases e2 : isAny f cs with
      | none => simp [isAny, e2] at h
      | some b' =>
        obtain ⟨us, p, k⟩ := isAny_ok hk e2 hr
        have hb : (f n || b') = b := by simpa [isAny, e2] using h
        rw [show v = V.ty n.name from hv]
        refine ⟨.type n.name :: us, .cons (.ty _) p, kitAny_cons (b := f n) (kit_ty (hk n)) (fun z => ?_) (fun z => ?_)⟩
        · rw [z, Bool.false_or] at hb; rw [k, hb]
        · rw [z, Bool.true_or] at hb; exact hb.symm
    | _ => simp [isAny] at h
theorem isi_go {pins : List (Addr × Obj)} {s : Shared} {σ : L2.St} {H : Hp} {v w : V} {u u' : Value} {KQ : VK} {c : T} {tn : String} {f : TyN → Bool} {b : Bool} {us : List Value} (I : Inv X pins σ H s) (r : Vals [v, w] us) (hc : Rp X.K H c w) (ty : TyX X.K H v (.type tn))
    (hk : ∀ n : TyN, kitB tn n.name = some (f n)) (h : clsT f c = some b) (q : KQ (.bl b) H) : wpAny (model X.prog X.w) X.A (call (.builtin "isinstance") us) (EP X pins σ KQ) X.xe s := by
  cases c with
  | ty n =>
    cases h
    rw [show w = V.ty n.name from hc] at r
    exact call_isi pins s σ H _ us KQ I r ⟨v, .ty n.name, .type tn, .type n.name, f n, rfl, .ty _, ty, kit_ty (hk n), q⟩
  | tup cs =>
    obtain ⟨p, vs, rfl, hp, rr⟩ := hc
    obtain ⟨us', pr, k⟩ := isAny_ok hk h rr
    exact call_isiT pins s σ H _ us KQ I r ⟨v, p, vs, .type tn, us', b, rfl, hp, pr, ty, k, q⟩
  | _ => cases h
theorem b_isi : CallR X (.builtin "isinstance") (cC X.K fIsi) := by
  intro pins s σ H vs us KQ I r h
  obtain ⟨ts, G, Q, hr, ha, hf, hk⟩ := h
  have fin : ∀ b : Bool, Q (.bl b) G → KQ (.bl b) H := fun b q => hk _ H (.bl b) G (Tups.refl H) ha rfl q
  unfold fIsi at hf
  split at hf
  · rename_i a c
    obtain ⟨v, w, rfl, h1, h2⟩ := rpl2 hr
    cases h1
    obtain ⟨xs, hg, hf⟩ := hf
    obtain ⟨ws, hp, rr⟩ := ha _ _ hg
    split at hf
    · rename_i b hb
      exact isi_go (u := .none) (u' := .none) I r h2 (.base (.lst hp)) kit_list hb (fin b hf)
    · exact hf.elim
  · rename_i x c _
    obtain ⟨v, w, rfl, h1, h2⟩ := rpl2 hr
    split at hf
    · split at hf
      · rename_i b hb
        cases x with
        | non => cases h1; exact isi_go (u := .none) (u' := .none) I r h2 (.base .non) kit_none hb (fin b hf)
        | bl k => cases h1; exact isi_go (u := .none) (u' := .none) I r h2 (.base (.bl k)) (fun n => by rw [isT_bl k true]; exact kit_bool n) hb (fin b hf)
        | int k => cases h1; exact isi_go (u := .none) (u' := .none) I r h2 (.base (.int k)) (fun n => by rw [isT_int k 0]; exact kit_int n) hb (fin b hf)
        | str k => cases h1; exact isi_go (u := .none) (u' := .none) I r h2 (.base (.str k)) (fun n => by rw [isT_str k ""]; exact kit_str n) hb (fin b hf)
        | tup k =>
          obtain ⟨p, vs, rfl, hp, rr⟩ := h1
          exact isi_go (u := .none) (u' := .none) I r h2 (.base (.tup hp)) (fun n => by rw [isT_tup k []]; exact kit_tuple n) hb (fin b hf)
        | ref k => rename_i e; cases e
        | ty k => rename_i e; cases e
        | scr k => rename_i e; cases e
      · exact hf.elim
    · exact hf.elim
  · exact hf.elim
/-! ### is, is not: None and bools -/
def isN : T → Bool
  | .non => true
  | _ => false
def fIs (neg : Bool) : Q2 := fun x y G Q => match x, y with
  | x, .non => Q (.bl (neg != isN x)) G
  | .bl a, .bl b => Q (.bl (neg != decide (a = b))) G
  | _, _ => False
theorem rp_non {K : PySem.W.Frag} {H : Hp} {x : T} {v : V} (h : Rp K H x v) : decide (v = .non) = isN x := by
  cases x with
  | non => cases h; rfl
  | bl b => cases h; rfl
  | int b => cases h; rfl
  | str b => cases h; rfl
  | tup b => obtain ⟨a, vs, rfl, _⟩ := h; rfl
  | ref b => cases h; rfl
  | ty b => cases h; rfl
  | scr b => obtain ⟨a, rfl, _⟩ := h; rfl
theorem o_is : OpR X (compareOp .Is) (c2 X.K (fIs false)) := by
  intro pins s σ H v w u u' KQ I rv rw' h2
  obtain ⟨x, y, G, Q, hx, hy, ha, hf, hk⟩ := h2
  unfold fIs at hf
  split at hf
  · cases hy
    exact op_isN pins s σ H _ _ u u' KQ I rv rw' ⟨rfl, hk _ H (.bl _) G (Tups.refl H) ha (show V.bl _ = V.bl _ by rw [rp_non hx]) (by rw [Bool.false_bne] at hf; exact hf)⟩
  · cases hx; cases hy
    exact op_isBl pins s σ H _ _ u u' KQ I rv rw' ⟨_, _, rfl, rfl, hk _ H (.bl _) G (Tups.refl H) ha rfl (by rw [Bool.false_bne] at hf; exact hf)⟩
  · exact hf.elim
theorem o_isnot : OpR X (compareOp .IsNot) (c2 X.K (fIs true)) := by
  intro pins s σ H v w u u' KQ I rv rw' h2
  obtain ⟨x, y, G, Q, hx, hy, ha, hf, hk⟩ := h2
  unfold fIs at hf
  split at hf
  · cases hy
    exact op_notN pins s σ H _ _ u u' KQ I rv rw' ⟨rfl, hk _ H (.bl _) G (Tups.refl H) ha (show V.bl _ = V.bl _ by rw [rp_non hx]) (by rw [Bool.true_bne] at hf; exact hf)⟩
  · cases hx; cases hy
    exact op_notBl pins s σ H _ _ u u' KQ I rv rw' ⟨_, _, rfl, rfl, hk _ H (.bl _) G (Tups.refl H) ha rfl (by rw [Bool.true_bne] at hf; exact hf)⟩
  · exact hf.elim
/-! ### all, any of bools -/
def fAll : QC := fun ts G Q => match ts with
  | [.ref a] => ∃ bs : List Bool, G a = some (.lst (bs.map T.bl)) ∧ Q (.bl (bs.all id)) G
  | _ => False
def fAny : QC := fun ts G Q => match ts with
  | [.ref a] => ∃ bs : List Bool, G a = some (.lst (bs.map T.bl)) ∧ Q (.bl (bs.any id)) G
  | _ => False
theorem RpL.bls {K : PySem.W.Frag} {H : Hp} : ∀ {ns : List Bool} {vs : List V}, RpL K H (ns.map T.bl) vs → vs = ns.map V.bl
  | [], _, h => h
  | n :: ns, _, ⟨v, r, e, h, hr⟩ => by rw [e, show v = V.bl n from h, RpL.bls hr]; rfl
theorem b_all (hc : X.calm = true) : CallR X (.builtin "all") (cC X.K fAll) := by
  intro pins s σ H vs us KQ I r h
  obtain ⟨ts, G, Q, hr, ha, hf, hk⟩ := h
  unfold fAll at hf
  split at hf
  · obtain ⟨v, rfl, h1⟩ := rpl1 hr
    cases h1
    obtain ⟨bs, hg, hf⟩ := hf
    obtain ⟨ws, hp, rr⟩ := ha _ _ hg
    rw [rr.bls] at hp
    exact cr_all hc pins s σ H _ us KQ I r ⟨_, bs, rfl, SqL.of hp, hk _ H (.bl _) G (Tups.refl H) ha rfl hf⟩
  · exact hf.elim
theorem b_any (hc : X.calm = true) : CallR X (.builtin "any") (cC X.K fAny) := by
  intro pins s σ H vs us KQ I r h
  obtain ⟨ts, G, Q, hr, ha, hf, hk⟩ := h
  unfold fAny at hf
  split at hf
  · obtain ⟨v, rfl, h1⟩ := rpl1 hr
    cases h1
    obtain ⟨bs, hg, hf⟩ := hf
    obtain ⟨ws, hp, rr⟩ := ha _ _ hg
    rw [rr.bls] at hp
    exact cr_any hc pins s σ H _ us KQ I r ⟨_, bs, rfl, SqL.of hp, hk _ H (.bl _) G (Tups.refl H) ha rfl hf⟩
  · exact hf.elim
/-! ### slices -/
abbrev QO := REnv → Gp → (Option Int → Gp → Prop) → Prop
def cO (K : PySem.W.Frag) (q : QO) : TO := fun σ H KQ => ∃ ρ G Q, EnvR K H ρ σ ∧ Abs K H G ∧ q ρ G Q ∧ ∀ o H' G', Tups H H' → Abs K H' G' → Q o G' → KQ o H'
def qoN : QO := fun _ G Q => Q none G
def qoS (qe : QE) : QO := fun ρ G Q => qe ρ G fun x G1 => match x with | .int i => Q (some i) G1 | _ => False
theorem PO.wk {e : Option Expr} {t t' : TO} (h : PO X e t) (w : ∀ σ H Q, t' σ H Q → t σ H Q) : PO X e t' := ⟨fun p s σ H Q I q => h.run p s σ H Q I (w σ H Q q)⟩
theorem o_none : PO X none (cO X.K qoN) := PO.wk po_none fun σ H KQ h => by
  obtain ⟨ρ, G, Q, e, a, q, f⟩ := h
  exact f none H G (Tups.refl H) a q
theorem o_some {e : Expr} {qe : QE} (h : PE X e (cE X.K qe)) : PO X (some e) (cO X.K (qoS qe)) := PO.wk (po_some h) fun σ H KQ h => by
  obtain ⟨ρ, G, Q, e, a, q, f⟩ := h
  refine ⟨ρ, G, _, e, a, q, fun v H1 t G1 k1 a1 r1 q1 => ?_⟩
  cases t with
  | int i => cases r1; exact ⟨i, rfl, f (some i) H1 G1 k1 a1 q1⟩
  | _ => exact q1.elim
def cutT {α : Type} (xs : List α) (lo hi : Option Int) : List α := (xs.drop (HT.sIx xs.length 0 lo)).take (HT.sIx xs.length xs.length hi - HT.sIx xs.length 0 lo)
abbrev QSl := T → Option Int → Option Int → Gp → TK → Prop
def fSl : QSl := fun x lo hi G Q => match x with
  | .tup ts => Q (.tup (cutT ts lo hi)) G
  | .ref a => ∃ ts, G a = some (.lst ts) ∧ ∀ p, G p = none → Q (.ref p) (gput G p (.lst (cutT ts lo hi)))
  | .str z => z.length ≤ 100000 ∧ Q (.str ⟨(cutT z.cps.toList lo hi).toArray⟩) G
  | _ => False
def cSl (K : PySem.W.Frag) (f : QSl) : V → Option Int → Option Int → Hp → VK → Prop := fun v lo hi H KQ => ∃ x G Q, Rp K H x v ∧ Abs K H G ∧ f x lo hi G Q ∧ Fol K H Q KQ
theorem RpL.cut {K : PySem.W.Frag} {H : Hp} {ts : List T} {vs : List V} (r : RpL K H ts vs) (lo hi : Option Int) : RpL K H (cutT ts lo hi) (cutV vs lo hi) := by
  unfold cutT cutV
  rw [r.length]
  exact (r.drop _).take _
theorem sl_seq : SlR X (cSl X.K fSl) := by
  intro pins s σ H v u vl vu lo hi sl KQ I rx hs pl pu h
  obtain ⟨x, G, Q, hx, ha, hf, hk⟩ := h
  unfold fSl at hf
  split at hf
  · rename_i ts
    obtain ⟨p, vs, rfl, hp, r⟩ := hx
    refine sl_tupA pins s σ H _ u vl vu lo hi sl KQ I rx hs pl pu ⟨p, vs, rfl, SqT.of hp, fun e => ?_, fun e q hq => ?_⟩
    · have ec : cutT ts lo hi = ts := by
        unfold cutT
        rw [← r.length, e.1, e.2, List.drop_zero, Nat.sub_zero, r.length, List.take_length]
      rw [ec] at hf
      exact hk _ H (.tup ts) G (Tups.refl H) ha ⟨p, vs, rfl, hp, r⟩ hf
    · have k : Tups H (upd H q (.tup (cutV vs lo hi))) := Tups.new hq
      exact hk _ _ (.tup _) G k (ha.grow hq) ⟨q, _, rfl, upd_same, (r.cut lo hi).mono k⟩ hf
  · obtain ⟨ts, hg, hf⟩ := hf
    cases hx
    obtain ⟨vs, hp, r⟩ := ha _ _ hg
    refine sl_list pins s σ H _ u vl vu lo hi sl KQ I rx hs pl pu ⟨_, vs, rfl, SqL.of hp, fun q hq => ?_⟩
    have k : Tups H (upd H q (.lst (cutV vs lo hi))) := Tups.new hq
    exact hk _ _ _ _ k (ha.put (o := .lst (cutT ts lo hi)) ⟨fun xs z => (by rw [hq] at z; cases z), fun o xs z => (by rw [hq] at z; cases z)⟩ ⟨_, upd_same, (r.cut lo hi).mono k⟩) (show Rp X.K _ (.ref q) _ from rfl) (hf q (ha.free hq))
  · cases hx
    exact sl_str pins s σ H _ u vl vu lo hi sl KQ I rx hs pl pu ⟨_, rfl, sz100 hf.1, hk _ H (.str _) G (Tups.refl H) ha rfl hf.2⟩
  · exact hf.elim
def qSl (f : QSl) (qe : QE) (ql qh : QO) : QE := fun ρ G Q => qe ρ G fun x G1 => ql ρ G1 fun l G2 => qh ρ G2 fun u G3 => f x l u G3 Q
theorem e_slice {f : QSl} {e : Expr} {lo hi : Option Expr} {qe : QE} {ql qh : QO} {p2 pos : Pos} (hr : SlR X (cSl X.K f)) (he : PE X e (cE X.K qe)) (hl : PO X lo (cO X.K ql)) (hu : PO X hi (cO X.K qh)) :
    PE X (.Subscript e (.Slice lo hi none p2) pos) (cE X.K (qSl f qe ql qh)) := PE.wk (pe_slice hr he hl hu) fun σ H KQ h => by
  obtain ⟨ρ, G, Q, e, a, q, g⟩ := h
  refine ⟨ρ, G, _, e, a, q, fun v H1 t G1 k1 a1 r1 q1 => ?_⟩
  refine ⟨ρ, G1, _, e.mono k1, a1, q1, fun l H2 G2 k2 a2 q2 => ?_⟩
  refine ⟨ρ, G2, _, e.mono (k1.trans k2), a2, q2, fun u H3 G3 k3 a3 q3 => ?_⟩
  exact ⟨t, G3, Q, r1.mono (k2.trans k3), a3, q3, g.from ((k1.trans k2).trans k3)⟩
end
end Lw

set_option Elab.async false
set_option linter.all false
set_option maxRecDepth 100000
set_option maxHeartbeats 4000000
namespace Lw
open PySem PySem.Spec PyProof.Rows L2
section
variable {X : Cx} {a b : Expr} {rest : List Expr} {pos : Pos} {qa qb : QE} {tA tB' : QT}
/-! ### and, or whose second part changes nothing: one way -/
def qOrVP (t u : QE) : QE := fun ρ G Q => t ρ G fun x G1 => match x with | .bl c => ∃ d, u ρ G1 (fun y G2 => y = .bl d ∧ G2 = G1) ∧ Q (.bl (c || d)) G1 | _ => False
def qAndVP (t u : QE) : QE := fun ρ G Q => t ρ G fun x G1 => match x with | .bl c => ∃ d, u ρ G1 (fun y G2 => y = .bl d ∧ G2 = G1) ∧ Q (.bl (c && d)) G1 | _ => False
def qOrP (t u : QT) : QT := fun ρ G Q => t ρ G fun c G1 => ∃ d, u ρ G1 (fun y G2 => y = d ∧ G2 = G1) ∧ Q (c || d) G1
def qAndP (t u : QT) : QT := fun ρ G Q => t ρ G fun c G1 => ∃ d, u ρ G1 (fun y G2 => y = d ∧ G2 = G1) ∧ Q (c && d) G1
theorem e_orP (ha : PE X a (cE X.K qa)) (hb : PE X (.BoolOp .Or (b :: rest) pos) (cE X.K qb)) : PE X (.BoolOp .Or (a :: b :: rest) pos) (cE X.K (qOrVP qa qb)) := PE.wk (pe_or ha hb) fun σ H KQ h => by
  obtain ⟨ρ, G, Q, e, a, q, f⟩ := h
  refine ⟨ρ, G, _, e, a, q, fun v H1 t G1 k1 a1 r1 q1 => ?_⟩
  cases t with
  | bl b =>
    refine ⟨b, r1, ?_⟩
    obtain ⟨d, hd, q1⟩ := q1
    cases b with
    | true => exact f (.bl true) H1 (.bl true) G1 k1 a1 rfl q1
    | false => exact ⟨ρ, G1, _, e.mono k1, a1, hd, fun v H2 t G2 k2 a2 r2 ⟨e1, e2⟩ => by subst e1 e2; exact f v H2 (.bl d) _ (k1.trans k2) a2 r2 q1⟩
  | _ => exact q1.elim
theorem e_andP (ha : PE X a (cE X.K qa)) (hb : PE X (.BoolOp .And (b :: rest) pos) (cE X.K qb)) : PE X (.BoolOp .And (a :: b :: rest) pos) (cE X.K (qAndVP qa qb)) := PE.wk (pe_and ha hb) fun σ H KQ h => by
  obtain ⟨ρ, G, Q, e, a, q, f⟩ := h
  refine ⟨ρ, G, _, e, a, q, fun v H1 t G1 k1 a1 r1 q1 => ?_⟩
  cases t with
  | bl b =>
    refine ⟨b, r1, ?_⟩
    obtain ⟨d, hd, q1⟩ := q1
    cases b with
    | false => exact f (.bl false) H1 (.bl false) G1 k1 a1 rfl q1
    | true => exact ⟨ρ, G1, _, e.mono k1, a1, hd, fun v H2 t G2 k2 a2 r2 ⟨e1, e2⟩ => by subst e1 e2; exact f v H2 (.bl d) _ (k1.trans k2) a2 r2 q1⟩
  | _ => exact q1.elim
theorem w_orP (ha : PT X a (cT X.K tA)) (hb : PW X (.BoolOp .Or (b :: rest) pos) (cT X.K tB')) : PW X (.BoolOp .Or (a :: b :: rest) pos) (cT X.K (qOrP tA tB')) := PW.wk (pw_or ha hb) fun σ H KQ h => by
  obtain ⟨ρ, G, Q, e, a, q, f⟩ := h
  refine ⟨ρ, G, _, e, a, q, fun b H1 G1 k1 a1 q1 => ?_⟩
  obtain ⟨d, hd, q1⟩ := q1
  cases b with
  | true => exact f true H1 G1 k1 a1 q1
  | false => exact ⟨ρ, G1, _, e.mono k1, a1, hd, fun b H2 G2 k2 a2 ⟨e1, e2⟩ => by subst e1 e2; exact f b H2 _ (k1.trans k2) a2 q1⟩
theorem w_andP (ha : PT X a (cT X.K tA)) (hb : PW X (.BoolOp .And (b :: rest) pos) (cT X.K tB')) : PW X (.BoolOp .And (a :: b :: rest) pos) (cT X.K (qAndP tA tB')) := PW.wk (pw_and ha hb) fun σ H KQ h => by
  obtain ⟨ρ, G, Q, e, a, q, f⟩ := h
  refine ⟨ρ, G, _, e, a, q, fun b H1 G1 k1 a1 q1 => ?_⟩
  obtain ⟨d, hd, q1⟩ := q1
  cases b with
  | false => exact f false H1 G1 k1 a1 q1
  | true => exact ⟨ρ, G1, _, e.mono k1, a1, hd, fun b H2 G2 k2 a2 ⟨e1, e2⟩ => by subst e1 e2; exact f b H2 _ (k1.trans k2) a2 q1⟩
end
end Lw

set_option Elab.async false
set_option linter.all false
set_option maxRecDepth 100000
set_option maxHeartbeats 4000000
namespace Lw
open PySem PySem.Spec PyProof.Rows L2
/-! ### tuple * n, n from nought on -/
theorem tuple_mulS (l : Addr) (items : Array Value) (n : Nat) (dd : Option Addr) (sl : Array (Option Value)) (x : Int) (u : Tok) (c0 : (decide (x < -(2 ^ 63)) || decide (x ≥ 2 ^ 63)) = false) (c1 : (items.isEmpty || x == 1) = true) :
    Meets (Builtin.«tuple.__mul__» ⟨[.ref l, .int x u], []⟩) (fun _ R s => s.heap.get? l = some { cls := .type "tuple", dict := dd, data := .seq items n, slots := sl } ∧
      R (.ok (.ret (Value.ref l))) s) :=
  .of_wp fun prog w A R s h => by
    obtain ⟨hp, g, d, tk, os⟩ := s
    obtain ⟨hl, h⟩ := h
    have f1 := AutoSeq1.idx_int
    wp_walk using wpAny_loadPart' hl
    repeat (first
      | (refine wpAny_ite_false (decide_eq_false (by rw [c0]; exact Bool.false_ne_true)) ?_; wp_walk using wpAny_loadPart' hl)
      | (refine wpAny_ite_true (decide_eq_true (by rw [c1])) ?_; wp_walk using wpAny_loadPart' hl))
    exact ⟨_, rfl, h⟩

theorem tuple_mul0 (l : Addr) (items : Array Value) (n : Nat) (dd : Option Addr) (sl : Array (Option Value)) (x : Int) (u : Tok) (c0 : (decide (x < -(2 ^ 63)) || decide (x ≥ 2 ^ 63)) = false) (c1 : (items.isEmpty || x == 1) = false) (c2 : (decide (x ≤ 0) || items.isEmpty) = true) :
    Meets (Builtin.«tuple.__mul__» ⟨[.ref l, .int x u], []⟩) (fun _ R s => s.heap.get? l = some { cls := .type "tuple", dict := dd, data := .seq items n, slots := sl } ∧
      R (.ok (.ret (Value.ref s.heap.objs.size))) { s with heap := s.heap.push { cls := Value.type "tuple", data := Data.seq #[] }, toks := s.toks }) :=
  .of_wp fun prog w A R s h => by
    obtain ⟨hp, g, d, tk, os⟩ := s
    obtain ⟨hl, h⟩ := h
    have f1 := AutoSeq1.idx_int
    wp_walk using wpAny_loadPart' hl
    repeat (first
      | (refine wpAny_ite_false (decide_eq_false (by rw [c0]; exact Bool.false_ne_true)) ?_; wp_walk using wpAny_loadPart' hl)
      | (refine wpAny_ite_false (decide_eq_false (by rw [c1]; exact Bool.false_ne_true)) ?_; wp_walk using wpAny_loadPart' hl)
      | (refine wpAny_ite_true (decide_eq_true (by rw [c2])) ?_; wp_walk using wpAny_loadPart' hl))
    exact ⟨_, rfl, h⟩
section
variable {X : Cx}
/-- t * 1, () * n: the tuple itself -/
def rRepS (K : PySem.W.Frag) : R2 := fun x y H Q => ∃ l k xs, x = .ref l ∧ y = .int k ∧ SqT K H l xs ∧ (xs = [] ∨ k = 1) ∧ 0 ≤ k ∧ k ≤ 1000 ∧ Q (.ref l) H
theorem op_repS : OpR X (binaryOp .Mult) (rRepS X.K) := by
  intro pins s σ H x y v u Q I rx ry h
  obtain ⟨l, k, xs, rfl, rfl, hT, hne, h1, h2, q⟩ := h
  cases rx
  obtain ⟨t, rfl⟩ := ry
  obtain ⟨its, r, ⟨⟨cls, dd, data, sl⟩, ho, hc, n, hd⟩, hs⟩ := I.tuple hT
  simp only at hc hd
  subst hc hd
  have hle : its.length = xs.length := r.length.symm
  have c0 : (decide (k < -(2 ^ 63)) || decide (k ≥ 2 ^ 63)) = false := by
    rw [decide_eq_false (by omega), decide_eq_false (by omega)] <;> rfl
  have c1 : (its.toArray.isEmpty || k == 1) = true := by
    rcases hne with z | z
    · subst z
      cases its with
      | nil => rfl
      | cons a b => cases hle
    · subst z; simp
  refine wpAny_binaryOp_repeat_ref (T := "tuple") (U := "int") (by decide) ⟨_, ho, rfl⟩ (fun s' => typeIs_int s' k t) noFill_tuple_mul F.fills_int_mul F.slot_int_rmul repeat_tuple F.slot_int_index.lookup
    (call_meets F.slot_int_rmul (typeIs_int s k t) F.entry_int_rmul (F.args_int_rmul_2 _ _) (int_rmul_tuple k t l its.toArray n dd sl)
      ⟨ho, rfl, ⟨_, ho, rfl⟩, call_meets F.slot_tuple_mul ⟨_, ho, rfl⟩ F.entry_tuple_mul (F.args_tuple_mul_2 _ _) (tuple_mulS l its.toArray n dd sl k t c0 c1) ⟨ho, ?_⟩⟩)
  exact ⟨.ref l, _, I, rfl, q⟩
/-- t * 0 -/
def rRep0 (K : PySem.W.Frag) : R2 := fun x y H Q => ∃ l xs, x = .ref l ∧ y = .int 0 ∧ SqT K H l xs ∧ xs ≠ [] ∧ ∀ p, H p = none → Q (.ref p) (upd H p (.tup []))
theorem op_rep0 : OpR X (binaryOp .Mult) (rRep0 X.K) := by
  intro pins s σ H x y v u Q I rx ry h
  obtain ⟨l, xs, rfl, rfl, hT, hne, q⟩ := h
  cases rx
  obtain ⟨t, rfl⟩ := ry
  obtain ⟨its, r, ⟨⟨cls, dd, data, sl⟩, ho, hc, n, hd⟩, hs⟩ := I.tuple hT
  simp only at hc hd
  subst hc hd
  have hle : its.length = xs.length := r.length.symm
  have hn : its ≠ [] := fun e => hne (by
    rw [e] at hle
    exact List.eq_nil_of_length_eq_zero hle.symm)
  have hi : its.toArray.isEmpty = false := by
    cases its with
    | nil => exact absurd rfl hn
    | cons a b => rfl
  have c1 : (its.toArray.isEmpty || (0 : Int) == 1) = false := by rw [hi]; rfl
  have c2 : (decide ((0 : Int) ≤ 0) || its.toArray.isEmpty) = true := by rw [hi]; rfl
  refine wpAny_binaryOp_repeat_ref (T := "tuple") (U := "int") (by decide) ⟨_, ho, rfl⟩ (fun s' => typeIs_int s' 0 t) noFill_tuple_mul F.fills_int_mul F.slot_int_rmul repeat_tuple F.slot_int_index.lookup
    (call_meets F.slot_int_rmul (typeIs_int s 0 t) F.entry_int_rmul (F.args_int_rmul_2 _ _) (int_rmul_tuple 0 t l its.toArray n dd sl)
      ⟨ho, rfl, ⟨_, ho, rfl⟩, call_meets F.slot_tuple_mul ⟨_, ho, rfl⟩ F.entry_tuple_mul (F.args_tuple_mul_2 _ _) (tuple_mul0 l its.toArray n dd sl 0 t (by decide) c1 c2) ⟨ho, ?_⟩⟩)
  refine ⟨.ref s.heap.objs.size, _, I.laid (t' := s.toks) (o := .tup []) (fun b ob q => Heap.get?_push_of_some _ q) (Nat.le_refl _) ?_, rfl, q _ (I.hok.fresh (Nat.le_refl _))⟩
  exact ⟨by rw [sizeLine_eq]; exact Nat.zero_le _, [], .nil, IsTup.new _ _⟩
/-- * of ints; tuple * n, n from 0 to 1000 -/
def fMul2 : Q2 := fun x y G Q => match x, y with
  | .int i, .int j => MulOk i j ∧ Q (.int (i * j)) G
  | .tup ts, .int k => 0 ≤ k ∧ k ≤ 1000 ∧ ts.length ≤ 1000 ∧ Q (.tup (List.replicate k.toNat ts).flatten) G
  | _, _ => False
theorem o_mul2 : OpR X (binaryOp .Mult) (c2 X.K fMul2) := by
  intro pins s σ H v w u u' KQ I rv rw' h2
  obtain ⟨x, y, G, Q, hx, hy, ha, hf, hk⟩ := h2
  unfold fMul2 at hf
  split at hf
  · exact op_mulW pins s σ H v w u u' KQ I rv rw' ⟨_, _, hx, hy, hf.1.w, hk _ H (.int _) G (Tups.refl H) ha rfl hf.2⟩
  · rename_i ts k
    obtain ⟨h2, h3, h4, hf⟩ := hf
    by_cases hs : ts = [] ∨ k = 1
    · have hf' : Q (.tup ts) G := by
        have e : (List.replicate k.toNat ts).flatten = ts := by
          rcases hs with z | z
          · subst z; simp
          · subst z; simp
        rw [e] at hf; exact hf
      obtain ⟨p, vs, rfl, hp, r⟩ := hx
      refine op_repS pins s σ H _ _ u u' KQ I rv rw' ⟨p, k, vs, rfl, hy, SqT.of hp, ?_, h2, h3, hk _ H (.tup ts) G (Tups.refl H) ha ⟨p, vs, rfl, hp, r⟩ hf'⟩
      rcases hs with z | z
      · subst z; exact .inl (List.eq_nil_of_length_eq_zero r.length)
      · exact .inr z
    · by_cases hz : k = 0
      · subst hz
        obtain ⟨p, vs, rfl, hp, r⟩ := hx
        refine op_rep0 pins s σ H _ _ u u' KQ I rv rw' ⟨p, vs, rfl, hy, SqT.of hp, fun e => hs (.inl (by subst e; exact List.eq_nil_of_length_eq_zero r.length.symm)), fun l hl => ?_⟩
        have kk : Tups H (upd H l (.tup [])) := Tups.new hl
        exact hk _ _ (.tup []) G kk (ha.grow hl) ⟨l, [], rfl, upd_same, rfl⟩ hf
      · refine o_mul pins s σ H v w u u' KQ I rv rw' ⟨.tup ts, .int k, G, Q, hx, hy, ha, ⟨fun e => hs (.inl e), by omega, h3, h4, hf⟩, hk⟩
  · exact hf.elim
/-! ### a test that is one or the other -/
def tIfT (t ta tb : TT) : TT := fun σ H Q => t σ H fun c H1 => if c = true then ta σ H1 Q else tb σ H1 Q
theorem pt_ifExp {c a b : Expr} {tA ta tb : TT} {pos : Pos} (hc : PT X c tA) (ha : PT X a ta) (hb : PT X b tb) : PT X (.IfExp c a b pos) (tIfT tA ta tb) := by
  refine ⟨fun pins s σ H Q I h => ?_⟩
  refine isTrue_IfExp (thn (hc.run pins s σ H _ I h) fun d s1 ⟨H1, I1, q1⟩ => ?_)
  cases d with
  | true => exact ha.run pins s1 σ H1 Q I1 q1
  | false => exact hb.run pins s1 σ H1 Q I1 q1
def qIfT (t ta tb : QT) : QT := fun ρ G Q => t ρ G fun c G1 => (c = true → ta ρ G1 Q) ∧ (c = false → tb ρ G1 Q)
theorem t_if {c a b : Expr} {tA ta tb : QT} {pos : Pos} (hc : PT X c (cT X.K tA)) (ha : PT X a (cT X.K ta)) (hb : PT X b (cT X.K tb)) : PT X (.IfExp c a b pos) (cT X.K (qIfT tA ta tb)) := PT.wk (pt_ifExp hc ha hb) fun σ H KQ h => by
  obtain ⟨ρ, G, Q, e, a, q, f⟩ := h
  refine ⟨ρ, G, _, e, a, q, fun b H1 G1 k1 a1 q1 => ?_⟩
  cases b with
  | true => exact ⟨ρ, G1, Q, e.mono k1, a1, q1.1 rfl, fun b H' G' k2 => f b H' G' (k1.trans k2)⟩
  | false => exact ⟨ρ, G1, Q, e.mono k1, a1, q1.2 rfl, fun b H' G' k2 => f b H' G' (k1.trans k2)⟩
/-! ### name += int -/
def qAugI (i : Nat) (qe : QE) : QS := fun D ρ G => match nth ρ i with
  | some (some (.int a)) => qe ρ G fun y G1 => match y with
    | .int b => putK ρ i (some (.int (a + b))) fun ρ1 => D.nx ρ1 G1
    | _ => False
  | _ => False
theorem s_augI {i : Nat} {x : Str} {e : Expr} {qe : QE} {pos' pos : Pos} (hN : X.N.Nodup) (hi : X.N[i]? = some x) (hx : Loc X.env.scope x) (he : PE X e (cE X.K qe)) (hf : X.fn x = true ∨ X.env.scope.names.lookup x = some .local := by first | exact .inl rfl | exact .inr rfl | assumption) :
    PS X (.AugAssign (.Name x pos') .Add e pos) (cS X.K (qAugI i qe)) := PS.wk (ps_aug hN hi hx he ip_add hf) fun D σ H h => by
  obtain ⟨ρ, G, D', e, a, q, f⟩ := h
  unfold qAugI at q
  split at q
  · rename_i n hn
    obtain ⟨v, hv, rv⟩ := e.get hn
    cases rv
    refine ⟨.int n, hv, ρ, G, _, e, a, q, fun v H1 t G1 k1 a1 r1 q1 => ?_⟩
    split at q1
    · rename_i m
      cases r1
      exact ⟨n, m, rfl, rfl, f.nx _ H1 _ G1 k1 ((e.mono k1).put (show Rp X.K H1 (.int (n + m)) (.int (n + m)) from rfl) i) a1 (putK_put q1)⟩
    · exact q1.elim
  · exact q.elim
end
end Lw

set_option Elab.async false
set_option linter.all false
set_option maxRecDepth 100000
set_option maxHeartbeats 4000000
namespace Lw
open PySem PySem.Spec PyProof.Rows L2
theorem un65 {k : Nat} {A : Around} (r : Room k A) : A.units + 65 < cLine := by have := r.un; omega
section
variable {X : Cx}
/-! ### x in a list of data -/
theorem any_eqv (x : T) (hx : okT x = true) : ∀ ts : List T, okTs ts = true → ((pdTs ts).any fun z => PyData.eqv z (pdT x)) = ts.any fun t => teq t x
  | [], _ => rfl
  | t :: ts, h => by
    have h' : okT t = true ∧ okTs ts = true := by
      have : (okT t && okTs ts) = true := h
      exact (Bool.and_eq_true _ _).mp this
    show (PyData.eqv (pdT t) (pdT x) || (pdTs ts).any fun z => PyData.eqv z (pdT x)) = (teq t x || ts.any fun t => teq t x)
    rw [any_eqv x hx ts h'.2, pd_eqv t x h'.1 hx]
def fIn (neg : Bool) : Q2 := fun x y G Q => match y with
  | .ref a => ∃ ts, G a = some (.lst ts) ∧ eqOks ts = true ∧ eqOk x = true ∧ Q (.bl (neg != ts.any fun t => teq t x)) G
  | _ => False
theorem o_in (hu : X.A.units + 65 < cLine) : OpR X (compareOp .In) (c2 X.K (fIn false)) := by
  intro pins s σ H v w u u' KQ I rv rw' h2
  obtain ⟨x, y, G, Q, hx, hy, ha, hf, hk⟩ := h2
  unfold fIn at hf
  split at hf
  · obtain ⟨ts, hg, o1, o2, q⟩ := hf
    cases hy
    refine op_inD hu pins s σ H _ _ u u' KQ I rv rw' ⟨_, _, pd_dp _ _ (eqOk_ok o2) hx, ha.dlist hg (eqOks_ok o1), shp (eqOk_ok o2) (eqOk_dp o2), shpL (eqOks_ok o1) (eqOks_dp o1), ?_⟩
    rw [any_eqv x (eqOk_ok o2) ts (eqOks_ok o1)]
    exact hk _ H (.bl _) G (Tups.refl H) ha rfl (by rw [Bool.false_bne] at q; exact q)
  · exact hf.elim
theorem o_notin (hu : X.A.units + 65 < cLine) : OpR X (compareOp .NotIn) (c2 X.K (fIn true)) := by
  intro pins s σ H v w u u' KQ I rv rw' h2
  obtain ⟨x, y, G, Q, hx, hy, ha, hf, hk⟩ := h2
  unfold fIn at hf
  split at hf
  · obtain ⟨ts, hg, o1, o2, q⟩ := hf
    cases hy
    refine op_notInD hu pins s σ H _ _ u u' KQ I rv rw' ⟨_, _, pd_dp _ _ (eqOk_ok o2) hx, ha.dlist hg (eqOks_ok o1), shp (eqOk_ok o2) (eqOk_dp o2), shpL (eqOks_ok o1) (eqOks_dp o1), ?_⟩
    rw [any_eqv x (eqOk_ok o2) ts (eqOks_ok o1)]
    exact hk _ H (.bl _) G (Tups.refl H) ha rfl (by rw [Bool.true_bne] at q; exact q)
  · exact hf.elim
/-! ### max of a list of ints -/
def intsOf : List T → Option (List Int)
  | [] => some []
  | .int i :: ts => (intsOf ts).map (i :: ·)
  | _ => none
def fMaxL : QC := fun ts G Q => match ts with
  | [.ref a] => ∃ ns : List Int, G a = some (.lst (ns.map T.int)) ∧ ns ≠ [] ∧ ∀ m, m ∈ ns → (∀ y, y ∈ ns → y ≤ m) → Q (.int m) G
  | _ => False
theorem b_max1 (hc : X.calm = true) : CallR X (.builtin "max") (cC X.K fMaxL) := by
  intro pins s σ H vs us KQ I r h
  obtain ⟨ts, G, Q, hr, ha, hf, hk⟩ := h
  unfold fMaxL at hf
  split at hf
  · obtain ⟨ns, hg, hne, q⟩ := hf
    obtain ⟨v, rfl, h1⟩ := rpl1 hr
    cases h1
    obtain ⟨vs, hp, r'⟩ := ha _ _ hg
    have e := r'.ints
    subst e
    exact cr_max hc pins s σ H _ us KQ I r ⟨_, ns, rfl, SqL.of hp, List.length_pos_iff.mpr hne, fun m h1 h2 => hk _ H (.int m) G (Tups.refl H) ha rfl (q m h1 h2)⟩
  · exact hf.elim
/-! ### a list's methods -/
abbrev QM := T → List T → Gp → TK → Prop
def cM (K : PySem.W.Frag) (f : QM) : V → List V → Hp → VK → Prop := fun v vs H KQ => ∃ x ts G Q, Rp K H x v ∧ RpL K H ts vs ∧ Abs K H G ∧ f x ts G Q ∧ Fol K H Q KQ
def qBM (f : QM) (qo : QE) (qa : QA) : QE := fun ρ G Q => qo ρ G fun x G1 => match x with
  | .ref a => (∃ xs, G1 a = some (.lst xs)) ∧ qa ρ G1 fun ts G2 => f (.ref a) ts G2 Q
  | _ => False
theorem e_bm {o e : Expr} {es : List Expr} {qo : QE} {qa : QA} {name : Str} {apos cpos : Pos} {id : String} {f : QM} (pa : PlainAttrs "list") (slot : Slot "list" name id) (hty : typeOf (.builtin id) = pure (.type "method_descriptor")) (hm : MtR X id (cM X.K f)) (ho : PE X o (cE X.K qo)) (ha : PA X (e :: es) (cA X.K qa))
    (hbase : attributeBase o name X.env (eval o X.env) = eval o X.env := by rfl)
    (hfew : ((backTo cpos (starEach (e :: es) X.env)).all (fun x => !x.1) && (backToKw cpos (keywordEach [] X.env)).all (fun x => x.1.isSome)
      && decide ((e :: es).length + ([] : List Keyword).length + (if ([] : List Keyword).isEmpty then 0 else 1) < 30)) = true := by rfl)
    (hline : (apos.endLine == cpos.line) = true := by rfl) (hs : starEach (e :: es) X.env = (false, eval e X.env) :: starEach es X.env := by rfl) (hplain : (backTo cpos (starEach es X.env)).any (·.1) = false := by rfl) :
    PE X (.Call (.Attribute o name apos) (e :: es) [] cpos) (cE X.K (qBM f qo qa)) := PE.wk (pe_bm pa slot hty hm ho ha hbase hfew hline hs hplain) fun σ H KQ h => by
  obtain ⟨ρ, G, Q, e, a, q, g⟩ := h
  refine ⟨ρ, G, _, e, a, q, fun v H1 t G1 k1 a1 r1 q1 => ?_⟩
  split at q1
  · rename_i p
    obtain ⟨⟨xs, hg⟩, q1⟩ := q1
    cases r1
    obtain ⟨vs, hp, r⟩ := a1 _ _ hg
    refine ⟨.inl ⟨rfl, _, SqL.of hp⟩, ρ, G1, _, e.mono k1, a1, q1, fun vs H2 ts G2 k2 a2 r2 q2 => ?_⟩
    exact ⟨.ref p, ts, G2, Q, rfl, r2, a2, q2, g.from (k1.trans k2)⟩
  · exact q1.elim
def fAppend : QM := fun x ts G Q => match x, ts with
  | .ref a, [y] => ∃ xs, G a = some (.lst xs) ∧ xs.length < 100000 ∧ Q .non (gput G a (.lst (xs ++ [y])))
  | _, _ => False
theorem m_append : MtR X "list.append" (cM X.K fAppend) := by
  intro pins s σ H x xs v us KQ I rv rs h
  obtain ⟨t, ts, G, Q, hx, hr, ha, hf, hk⟩ := h
  unfold fAppend at hf
  split at hf
  · obtain ⟨ys, hg, hz, q⟩ := hf
    cases hx
    obtain ⟨w, rfl, hw⟩ := rpl1 hr
    obtain ⟨vs, hp, r⟩ := ha _ _ hg
    have wr : Wr H _ := Wr.of hp (fun _ z => by cases z) (fun _ _ z => by cases z)
    have k := Tups.set (o := .lst (vs ++ [w])) wr
    refine mt_append pins s σ H _ _ v us KQ I rv rs ⟨_, vs, w, rfl, rfl, hp, by rw [r.length]; exact Nat.lt_of_lt_of_le hz (sz100 (Nat.le_refl _)), ?_⟩
    exact hk _ _ .non _ k (ha.put (o := .lst (ys ++ [_])) wr ⟨_, upd_same, (r.append (RpL.one hw)).mono k⟩) rfl q
  · exact hf.elim
end
end Lw

set_option Elab.async false
set_option linter.all false
set_option maxRecDepth 100000
set_option maxHeartbeats 4000000
namespace Lw
open PySem PySem.Spec PyProof.Rows L2
/-! ### the order of data: ints, texts, tuples of such, by a code -/
def cdS : List Nat → List Int
  | [] => [0]
  | c :: cs => 1 :: (c : Int) :: cdS cs
mutual
def cdP : PyData → List Int
  | .int i => [i]
  | .str x => cdS x.cps.toList
  | .tuple ds => cdPs ds
  | _ => []
def cdPs : List PyData → List Int
  | [] => [0]
  | d :: ds => 1 :: (cdP d ++ cdPs ds)
end
mutual
def cmpb : PyData → PyData → Bool
  | .int _, .int _ => true
  | .str _, .str _ => true
  | .tuple xs, .tuple ys => cmpbs xs ys
  | _, _ => false
def cmpbs : List PyData → List PyData → Bool
  | x :: xs, y :: ys => cmpb x y && cmpbs xs ys
  | _, _ => true
end
abbrev plt (x y : PyData) : Bool := HT.lexLt (cdP x) (cdP y)
theorem lex_same : ∀ (l r s : List Int), HT.lexLt (l ++ r) (l ++ s) = HT.lexLt r s
  | [], _, _ => rfl
  | a :: l, r, s => by rw [List.cons_append, List.cons_append, HT.lexLt_cons, if_pos rfl, lex_same l r s]
theorem cdS_ne : ∀ (x y : List Nat) (r s : List Int), x ≠ y → HT.lexLt (cdS x ++ r) (cdS y ++ s) = decide (x < y)
  | [], [], _, _, h => absurd rfl h
  | [], b :: y, r, s, _ => by
    show HT.lexLt (0 :: r) (1 :: ((b : Int) :: cdS y ++ s)) = _
    rw [HT.lexLt_cons, if_neg (by decide), decide_eq_true (List.nil_lt_cons b y)]; rfl
  | a :: x, [], r, s, _ => by
    show HT.lexLt (1 :: ((a : Int) :: cdS x ++ r)) (0 :: s) = _
    rw [HT.lexLt_cons, if_neg (by decide), decide_eq_false (List.not_lt_nil _)]; rfl
  | a :: x, b :: y, r, s, h => by
    show HT.lexLt (1 :: ((a : Int) :: (cdS x ++ r))) (1 :: ((b : Int) :: (cdS y ++ s))) = _
    rw [HT.lexLt_cons, if_pos rfl, HT.lexLt_cons]
    by_cases e : a = b
    · subst e
      rw [if_pos rfl, cdS_ne x y r s (fun z => h (by rw [z]))]
      have q : (a :: x < a :: y) ↔ x < y := by rw [List.cons_lt_cons_iff]; simp
      exact decide_eq_decide.mpr q.symm
    · rw [if_neg (by omega)]
      have q : (a :: x < b :: y) ↔ a < b := by rw [List.cons_lt_cons_iff]; simp [e]
      exact decide_eq_decide.mpr (by rw [q]; omega)
mutual
theorem cd_eq : ∀ x y : PyData, cmpb x y = true → PyData.eqv x y = true → x = y
  | .int i, .int j, _, h => by simp only [PyData.eqv, beq_iff_eq] at h; rw [h]
  | .str i, .str j, _, h => congrArg PyData.str (eq_of_beq (show (i == j) = true from by simpa only [PyData.eqv] using h))
  | .tuple xs, .tuple ys, h, h2 => by
    have h2' : PyData.eqvAll xs ys = true := by simpa only [PyData.eqv] using h2
    rw [cds_eq xs ys h h2']
theorem cds_eq : ∀ xs ys : List PyData, cmpbs xs ys = true → PyData.eqvAll xs ys = true → xs = ys
  | [], [], _, _ => rfl
  | [], _ :: _, _, h => by simp [PyData.eqvAll] at h
  | _ :: _, [], _, h => by simp [PyData.eqvAll] at h
  | x :: xs, y :: ys, h, h2 => by
    have h' : cmpb x y = true ∧ cmpbs xs ys = true := by
      have : (cmpb x y && cmpbs xs ys) = true := h
      exact (Bool.and_eq_true _ _).mp this
    have h2' : PyData.eqv x y = true ∧ PyData.eqvAll xs ys = true := by simpa [PyData.eqvAll] using h2
    rw [cd_eq x y h'.1 h2'.1, cds_eq xs ys h'.2 h2'.2]
end
mutual
theorem eqv_self : ∀ x y : PyData, cmpb x y = true → x = y → PyData.eqv x y = true
  | .int i, .int j, _, h => by cases h; simp [PyData.eqv]
  | .str i, .str j, _, h => by cases h; simp [PyData.eqv]
  | .tuple xs, .tuple ys, h, h2 => by
    cases h2
    simp only [PyData.eqv]
    exact eqvs_self xs xs h rfl
theorem eqvs_self : ∀ xs ys : List PyData, cmpbs xs ys = true → xs = ys → PyData.eqvAll xs ys = true
  | [], [], _, _ => by simp [PyData.eqvAll]
  | [], _ :: _, _, h => by cases h
  | _ :: _, [], _, h => by cases h
  | x :: xs, y :: ys, h, h2 => by
    have h' : cmpb x y = true ∧ cmpbs xs ys = true := by
      have : (cmpb x y && cmpbs xs ys) = true := h
      exact (Bool.and_eq_true _ _).mp this
    cases h2
    simp [PyData.eqvAll, eqv_self x x h'.1 rfl, eqvs_self xs xs h'.2 rfl]
end
mutual
theorem cd_ne : ∀ (x y : PyData) (r s : List Int), cmpb x y = true → PyData.eqv x y = false → HT.lexLt (cdP x ++ r) (cdP y ++ s) = plt x y
  | .int i, .int j, r, s, _, h => by
    have hn : i ≠ j := fun z => by subst z; simp [PyData.eqv] at h
    show HT.lexLt (i :: r) (j :: s) = HT.lexLt [i] [j]
    rw [HT.lexLt_cons, HT.lexLt_cons, if_neg hn, if_neg hn]
  | .str i, .str j, r, s, _, h => by
    have hn : i.cps.toList ≠ j.cps.toList := fun z => by
      have hc : i.cps = j.cps := Array.toList_inj.mp z
      have : i = j := by cases i; cases j; simpa using hc
      subst this; simp [PyData.eqv] at h
    show HT.lexLt (cdS _ ++ r) (cdS _ ++ s) = HT.lexLt (cdS _) (cdS _)
    rw [cdS_ne _ _ _ _ hn, ← List.append_nil (cdS i.cps.toList), ← List.append_nil (cdS j.cps.toList), cdS_ne _ _ _ _ hn]
  | .tuple xs, .tuple ys, r, s, h, h2 => cds_ne xs ys r s h (by simpa only [PyData.eqv] using h2)
theorem cds_ne : ∀ (xs ys : List PyData) (r s : List Int), cmpbs xs ys = true → PyData.eqvAll xs ys = false → HT.lexLt (cdPs xs ++ r) (cdPs ys ++ s) = HT.lexLt (cdPs xs) (cdPs ys)
  | [], [], _, _, _, h => by simp [PyData.eqvAll] at h
  | [], y :: ys, r, s, _, _ => by
    show HT.lexLt (0 :: r) (1 :: (cdP y ++ cdPs ys ++ s)) = HT.lexLt [0] (1 :: (cdP y ++ cdPs ys))
    rw [HT.lexLt_cons, HT.lexLt_cons]; rfl
  | x :: xs, [], r, s, _, _ => by
    show HT.lexLt (1 :: (cdP x ++ cdPs xs ++ r)) (0 :: s) = HT.lexLt (1 :: (cdP x ++ cdPs xs)) [0]
    rw [HT.lexLt_cons, HT.lexLt_cons]; rfl
  | x :: xs, y :: ys, r, s, h, h2 => by
    have h' : cmpb x y = true ∧ cmpbs xs ys = true := by
      have : (cmpb x y && cmpbs xs ys) = true := h
      exact (Bool.and_eq_true _ _).mp this
    show HT.lexLt (1 :: (cdP x ++ cdPs xs ++ r)) (1 :: (cdP y ++ cdPs ys ++ s)) = HT.lexLt (1 :: (cdP x ++ cdPs xs)) (1 :: (cdP y ++ cdPs ys))
    rw [HT.lexLt_cons, HT.lexLt_cons, if_pos rfl, if_pos rfl]
    cases e : PyData.eqv x y with
    | true =>
      have ex := cd_eq x y h'.1 e
      subst ex
      have e2 : PyData.eqvAll xs ys = false := by simpa [PyData.eqvAll, e] using h2
      rw [List.append_assoc, List.append_assoc, lex_same, lex_same, cds_ne xs ys r s h'.2 e2]
    | false =>
      rw [List.append_assoc, List.append_assoc, cd_ne x y _ _ h'.1 e, cd_ne x y _ _ h'.1 e]
end
theorem plt_tup_nil {y : PyData} {ys : List PyData} : HT.lexLt (cdPs []) (cdPs (y :: ys)) = true := by
  show HT.lexLt [0] (1 :: (cdP y ++ cdPs ys)) = true
  rw [HT.lexLt_cons, if_neg (by decide)]; rfl
theorem plt_tup_nil2 {x : PyData} {xs : List PyData} : HT.lexLt (cdPs (x :: xs)) (cdPs []) = false := by
  show HT.lexLt (1 :: (cdP x ++ cdPs xs)) [0] = false
  rw [HT.lexLt_cons, if_neg (by decide)]; rfl
theorem plt_tup_cons {x y : PyData} {xs ys : List PyData} (h : cmpb x y = true) : HT.lexLt (cdPs (x :: xs)) (cdPs (y :: ys)) = if PyData.eqv x y = true then HT.lexLt (cdPs xs) (cdPs ys) else plt x y := by
  show HT.lexLt (1 :: (cdP x ++ cdPs xs)) (1 :: (cdP y ++ cdPs ys)) = _
  rw [HT.lexLt_cons, if_pos rfl]
  cases e : PyData.eqv x y with
  | true =>
    have ex := cd_eq x y h e
    subst ex
    rw [lex_same, if_pos rfl]
  | false => rw [cd_ne x y _ _ h e, if_neg Bool.false_ne_true]
theorem lexAt_shift {e r : Nat → Bool} {z : Bool} : ∀ (k i : Nat), Ob.lexAt e r z (i + 1) k = Ob.lexAt (fun j => e (j + 1)) (fun j => r (j + 1)) z i k
  | 0, _ => rfl
  | k + 1, i => by rw [Ob.lexAt_succ, Ob.lexAt_succ, lexAt_shift k (i + 1)]
abbrev pairLt (xs ys : List PyData) (j : Nat) : Bool := plt (xs.getD j .none) (ys.getD j .none)
theorem lexAt_cd : ∀ (xs ys : List PyData), cmpbs xs ys = true → Ob.lexAt (SeqAt.pairEq xs ys) (pairLt xs ys) (decide (xs.length < ys.length)) 0 (min xs.length ys.length) = HT.lexLt (cdPs xs) (cdPs ys)
  | [], [], _ => by
    show false = HT.lexLt [0] [0]
    rw [HT.lexLt_cons, if_pos rfl]; rfl
  | [], y :: ys, _ => by rw [plt_tup_nil]; simp [Ob.lexAt]
  | x :: xs, [], _ => by rw [plt_tup_nil2]; simp [Ob.lexAt]
  | x :: xs, y :: ys, h => by
    have h' : cmpb x y = true ∧ cmpbs xs ys = true := by
      have : (cmpb x y && cmpbs xs ys) = true := h
      exact (Bool.and_eq_true _ _).mp this
    have em : min (x :: xs).length (y :: ys).length = min xs.length ys.length + 1 := by simp only [List.length_cons]; omega
    rw [em, Ob.lexAt_succ, lexAt_shift, plt_tup_cons h'.1]
    have ez : decide ((x :: xs).length < (y :: ys).length) = decide (xs.length < ys.length) := decide_eq_decide.mpr (by simp only [List.length_cons]; omega)
    rw [ez]
    show (if PyData.eqv x y = true then Ob.lexAt (SeqAt.pairEq xs ys) (pairLt xs ys) _ 0 _ else plt x y) = _
    rw [lexAt_cd xs ys h'.2]
/-! ### < of data in the model -/
section
open PySem.SeqAt
theorem rc_ltI : ∀ (i j : Int) (A : Around) (s : Shared) (a b : Value) (as bs : List Addr), Reads s.heap a (.int i) as → Reads s.heap b (.int j) bs → Ob.RcOp .Lt A s a b (plt (.int i) (.int j))
  | i, j, A, s, _, _, _, _, ra, rb => by
    cases ra; cases rb
    have e : plt (.int i) (.int j) = decide (i < j) := by
      show HT.lexLt [i] [j] = _
      rw [HT.lexLt_cons]
      by_cases h : i = j
      · subst h; simp [HT.lexLt]
      · rw [if_neg h]
    rw [e]
    exact Ob.RcOp.lt_int _ _ _ _
theorem plt_str (i j : Str) : plt (.str i) (.str j) = decide (i.cps.toList < j.cps.toList) := by
  show HT.lexLt (cdS _) (cdS _) = _
  by_cases h : i.cps.toList = j.cps.toList
  · rw [h]
    have := lex_same (cdS j.cps.toList) [] []
    rw [List.append_nil] at this
    rw [this, decide_eq_false (List.lt_irrefl _)]; rfl
  · rw [← List.append_nil (cdS i.cps.toList), ← List.append_nil (cdS j.cps.toList), cdS_ne _ _ _ _ h]
theorem rc_ltS : ∀ (i j : Str) (A : Around) (s : Shared) (a b : Value) (as bs : List Addr), Reads s.heap a (.str i) as → Reads s.heap b (.str j) bs → Ob.RcOp .Lt A s a b (plt (.str i) (.str j))
  | i, j, A, s, _, _, _, _, ra, rb => by
    cases ra; cases rb
    rw [plt_str]
    exact fun _ _ _ _ h => P.lt_str h
/-- the items of two lists, compared -/
def LtAll (xs ys : List PyData) : Prop := ∀ (A : Around) (s : Shared) (vs ws : List Value) (as bs : List Addr), ReadsAll s.heap vs xs as → ReadsAll s.heap ws ys bs → cmpbs xs ys = true → PyData.canLayAll0 xs = true → PyData.canLayAll0 ys = true →
  A.units + min (PyData.depthAll xs) (PyData.depthAll ys) < cLine → ∀ j (h1 : j < vs.length) (h2 : j < ws.length), Ob.RcOp .Lt A s vs[j] ws[j] (pairLt xs ys j)
def LtOne (x y : PyData) : Prop := ∀ (A : Around) (s : Shared) (a b : Value) (as bs : List Addr), Reads s.heap a x as → Reads s.heap b y bs → cmpb x y = true → x.canLay0 = true → y.canLay0 = true →
  A.units + min x.depth y.depth < cLine → Ob.RcOp .Lt A s a b (plt x y)
theorem rc_ltT (xs ys : List PyData) (rec : LtAll xs ys) : LtOne (.tuple xs) (.tuple ys) := fun A s _ _ _ _ ra rb hc ha hb hu => by
  cases ra with
  | tuple h1 h2 h3 h4 =>
    cases rb with
    | tuple k1 k2 k3 k4 =>
      have hu' := room_in hu
      have l1 := ReadsAll.length _ _ _ h4
      have l2 := ReadsAll.length _ _ _ k4
      have q := Ob.RcOp.tuples_lt (A := A) (s := s) (e := pairEq xs ys) (r := pairLt xs ys) ⟨_, h1, h2, _, h3⟩ ⟨_, k1, k2, _, k3⟩ (room_here hu) (fun j j1 j2 => by
        have := eqAt_readsAll xs ys A.in1 s _ _ _ _ h4 k4 ha hb hu' j (by simpa using j1) (by simpa using j2)
        simpa using this) (fun j j1 j2 _ => by
        have := rec A.in1 s _ _ _ _ h4 k4 hc ha hb hu' j (by simpa using j1) (by simpa using j2)
        simpa using this)
      rw [Array.length_toList] at l1 l2
      rw [l1, l2, lexAt_cd xs ys hc] at q
      exact q
theorem ltOne_no {x y : PyData} (h : cmpb x y = false) : LtOne x y := fun _ _ _ _ _ _ _ _ hc => by rw [h] at hc; cases hc
theorem ltAll_cons {x y : PyData} {xs ys : List PyData} (h1 : LtOne x y) (h2 : LtAll xs ys) : LtAll (x :: xs) (y :: ys) := fun A s _ _ _ _ ra rb hc ha hb hu j j1 j2 => by
  have ha' : x.canLay0 = true ∧ PyData.canLayAll0 xs = true := by simpa [PyData.canLayAll0] using ha
  have hb' : y.canLay0 = true ∧ PyData.canLayAll0 ys = true := by simpa [PyData.canLayAll0] using hb
  have hc' : cmpb x y = true ∧ cmpbs xs ys = true := by
    have : (cmpb x y && cmpbs xs ys) = true := hc
    exact (Bool.and_eq_true _ _).mp this
  have hu : A.units + min (max x.depth (PyData.depthAll xs)) (max y.depth (PyData.depthAll ys)) < cLine := hu
  cases ra with
  | cons r rs =>
    cases rb with
    | cons r' rs' =>
      cases j with
      | zero => exact h1 A s _ _ _ _ r r' hc'.1 ha'.1 hb'.1 (room_head hu)
      | succ j => exact h2 A s _ _ _ _ rs rs' hc'.2 ha'.2 hb'.2 (room_tail hu) j (Nat.lt_of_succ_lt_succ j1) (Nat.lt_of_succ_lt_succ j2)
theorem ltAll_nil {ys : List PyData} : LtAll [] ys := fun _ _ _ _ _ _ ra _ _ _ _ _ j j1 _ => by cases ra; exact absurd j1 (Nat.not_lt_zero _)
theorem ltAll_nil2 {xs : List PyData} : LtAll xs [] := fun _ _ _ _ _ _ _ rb _ _ _ _ j _ j2 => by cases rb; exact absurd j2 (Nat.not_lt_zero _)
mutual
theorem rc_lt0 : ∀ (x y : PyData), LtOne x y
  | .int i, y => by
    cases y with
    | int j => exact fun A s a b as bs ra rb _ _ _ _ => rc_ltI i j A s a b as bs ra rb
    | _ => exact ltOne_no rfl
  | .str i, y => by
    cases y with
    | str j => exact fun A s a b as bs ra rb _ _ _ _ => rc_ltS i j A s a b as bs ra rb
    | _ => exact ltOne_no rfl
  | .tuple xs, y => by
    cases y with
    | tuple ys => exact rc_ltT xs ys (rc_lts0 xs ys)
    | _ => exact ltOne_no rfl
  | .none, y => by cases y <;> exact ltOne_no rfl
  | .bool _, y => by cases y <;> exact ltOne_no rfl
  | .list _, y => by cases y <;> exact ltOne_no rfl
  | .dict _, y => by cases y <;> exact ltOne_no rfl
theorem rc_lts0 : ∀ (xs ys : List PyData), LtAll xs ys
  | [], _ => ltAll_nil
  | x :: xs, ys => by
    cases ys with
    | nil => exact ltAll_nil2
    | cons y ys => exact ltAll_cons (rc_lt0 x y) (rc_lts0 xs ys)
end
theorem rc_lt (x y : PyData) (A : Around) (s : Shared) (a b : Value) (as bs : List Addr) (ra : Reads s.heap a x as) (rb : Reads s.heap b y bs) (hc : cmpb x y = true) (ha : x.canLay0 = true) (hb : y.canLay0 = true)
    (hu : A.units + min x.depth y.depth < cLine) : Ob.RcOp .Lt A s a b (plt x y) := rc_lt0 x y A s a b as bs ra rb hc ha hb hu
theorem rc_lts (xs ys : List PyData) (A : Around) (s : Shared) (vs ws : List Value) (as bs : List Addr) (ra : ReadsAll s.heap vs xs as) (rb : ReadsAll s.heap ws ys bs) (hc : cmpbs xs ys = true) (ha : PyData.canLayAll0 xs = true) (hb : PyData.canLayAll0 ys = true)
    (hu : A.units + min (PyData.depthAll xs) (PyData.depthAll ys) < cLine) (j : Nat) (h1 : j < vs.length) (h2 : j < ws.length) : Ob.RcOp .Lt A s vs[j] ws[j] (pairLt xs ys j) := rc_lts0 xs ys A s vs ws as bs ra rb hc ha hb hu j h1 h2
end
end Lw

set_option Elab.async false
set_option linter.all false
set_option maxRecDepth 100000
set_option maxHeartbeats 4000000
namespace Lw
open PySem PySem.Spec PyProof.Rows L2 PySem.Calls
open PySem.W (Looks)
section
variable {prog : Program} {w : World} {A : Around} {E : Value → Shared → Prop} {s : Shared}
/-- m ends in one way, changing nothing, with a value that is P -/
def Dtm (prog : Program) (w : World) (A : Around) (s : Shared) {α : Type} (m : Sem α) (P : α → Prop) : Prop := ∃ r, P r ∧ ∀ (Q : α → Shared → Prop) (E : Value → Shared → Prop), Q r s → wpAny (model prog w) A m Q E s
theorem Dtm.bind {α β : Type} {m : Sem α} {f : α → Sem β} {P : α → Prop} {P' : β → Prop} (h : Dtm prog w A s m P) (g : ∀ r, P r → Dtm prog w A s (f r) P') : Dtm prog w A s (m >>= f) P' := by
  obtain ⟨r, hr, k⟩ := h
  obtain ⟨r', hr', k'⟩ := g r hr
  exact ⟨r', hr', fun Q E q => wpAny_bind (k _ _ (k' Q E q))⟩
theorem Dtm.pure {α : Type} {r : α} {P : α → Prop} (h : P r) : Dtm prog w A s (Pure.pure r) P := ⟨r, h, fun Q E q => wpAny_pure q⟩
inductive All2 {α β : Type} (R : α → β → Prop) : List α → List β → Prop
  | nil : All2 R [] []
  | cons {a b l m} : R a b → All2 R l m → All2 R (a :: l) (b :: m)
theorem All2.memL {α β : Type} {R : α → β → Prop} {l : List α} {xs : List β} (h : All2 R l xs) : ∀ v ∈ l, ∃ x ∈ xs, R v x := by
  induction h with
  | nil => intro x m; cases m
  | cons r _ ih =>
    intro x m
    rcases List.mem_cons.mp m with e | m
    · subst e; exact ⟨_, List.mem_cons_self, r⟩
    · obtain ⟨v, hv, q⟩ := ih x m
      exact ⟨v, List.mem_cons_of_mem _ hv, q⟩
theorem All2.mem {α β : Type} {R : α → β → Prop} {l : List α} {xs : List β} (h : All2 R l xs) : ∀ x ∈ xs, ∃ v ∈ l, R v x := by
  induction h with
  | nil => intro x m; cases m
  | cons r _ ih =>
    intro x m
    rcases List.mem_cons.mp m with e | m
    · subst e; exact ⟨_, List.mem_cons_self, r⟩
    · obtain ⟨v, hv, q⟩ := ih x m
      exact ⟨v, List.mem_cons_of_mem _ hv, q⟩
theorem All2.map {α β : Type} {R S : α → β → Prop} (f : ∀ a b, R a b → S a b) {l : List α} {xs : List β} (h : All2 R l xs) : All2 S l xs := by
  induction h with
  | nil => exact .nil
  | cons r _ ih => exact .cons (f _ _ r) ih
theorem Dtm.mapM {α β : Type} {f : α → Sem β} {R : α → β → Prop} : ∀ {l : List α}, (∀ v ∈ l, Dtm prog w A s (f v) (R v)) → Dtm prog w A s (l.mapM f) (All2 R l)
  | [], _ => by rw [List.mapM_nil]; exact Dtm.pure .nil
  | x :: l, h => by
    rw [List.mapM_cons]
    exact Dtm.bind (h x List.mem_cons_self) fun r hr => Dtm.bind (Dtm.mapM fun v hv => h v (List.mem_cons_of_mem _ hv)) fun rs hrs => Dtm.pure (.cons hr hrs)
/-- plain data by the heap: numbers, texts, tuples of such -/
structure PlD (h : Heap) (v : Value) (d : PyData) : Prop where
  rd : ∃ as, Reads h v d as
  cl : d.canLay0 = true
  cm : cmpb d d = true
  dp : d.depth ≤ 64
theorem canLayAll_mem : ∀ {ds : List PyData} {d : PyData}, PyData.canLayAll0 ds = true → d ∈ ds → d.canLay0 = true
  | d0 :: ds, d, h, m => by
    have h' : d0.canLay0 = true ∧ PyData.canLayAll0 ds = true := by simpa [PyData.canLayAll0] using h
    rcases List.mem_cons.mp m with e | m
    · rw [e]; exact h'.1
    · exact canLayAll_mem h'.2 m
theorem ReadsAll.head {h : Heap} {v : Value} {vs : List Value} {ds : List PyData} {as : List Addr} (r : ReadsAll h (v :: vs) ds as) : ∃ d as', Reads h v d as' ∧ d ∈ ds := by
  cases r with
  | cons r1 r2 => exact ⟨_, _, r1, List.mem_cons_self⟩
/-- the kind of a value's type -/
theorem looks_type {h : Heap} {v : Value} {d : PyData} {as : List Addr} (r : Reads h v d as) (hc : cmpb d d = true) : ∃ T, ∀ M : Model, Looks M h (typeOf v) (Value.type T) := by
  cases r with
  | none => cases hc
  | bool b => cases hc
  | int i t => exact ⟨"int", fun _ => .now⟩
  | str x t => exact ⟨"str", fun _ => .now⟩
  | list h1 h2 h3 h4 => cases hc
  | tuple h1 h2 h3 h4 => exact ⟨"tuple", fun M => by have q : Looks M h (typeOf (.ref _)) _ := (Looks.ld h1).andThen .now; rw [← h2]; exact q⟩
  | dict => cases hc
theorem cmpbs_head {d : PyData} {ds : List PyData} (h : cmpbs (d :: ds) (d :: ds) = true) : cmpb d d = true := by
  have : (cmpb d d && cmpbs ds ds) = true := h
  exact ((Bool.and_eq_true _ _).mp this).1
theorem first_dtm {v : Value} {d : PyData} (p : PlD s.heap v d) : Dtm prog w A s (firstOfTuple' v) fun r => r.isSome = true → (∃ ds, d = .tuple ds) ∧ ∀ u, r = some u → ∃ T, ∀ M : Model, Looks M s.heap (typeOf u) (Value.type T) := by
  obtain ⟨⟨as, rd⟩, cl, cm, _⟩ := p
  rw [PySem.W.kas_first_eq]
  cases rd with
  | none => cases cm
  | bool b => cases cm
  | int i t => exact ⟨none, (fun z => by cases z), fun Q E q => wpAny_bind ((show Looks _ s.heap (typeOf (.int i t)) (.type "int") from .now).here (by rw [if_pos (by decide)]; exact wpAny_pure q))⟩
  | str x t => exact ⟨none, (fun z => by cases z), fun Q E q => wpAny_bind ((show Looks _ s.heap (typeOf (.str x t)) (.type "str") from .now).here (by rw [if_pos (by decide)]; exact wpAny_pure q))⟩
  | list => cases cm
  | dict => cases cm
  | tuple h1 h2 h3 h4 =>
    rename_i a o vs n xs _
    refine ⟨vs[0]?, fun hs => ⟨⟨xs, rfl⟩, fun u hu => ?_⟩, fun Q E q => ?_⟩
    · cases e : vs.toList with
      | nil =>
        have : vs[0]? = none := by rw [← Array.getElem?_toList, e]; rfl
        rw [this] at hu; cases hu
      | cons v0 vr =>
        have e0 : vs[0]? = some v0 := by rw [← Array.getElem?_toList, e]; rfl
        rw [e0] at hu; cases hu
        rw [e] at h4
        cases h4 with
        | cons r1 r2 => exact looks_type r1 (cmpbs_head cm)
    · refine wpAny_bind (Looks.here (show Looks (model prog w) s.heap (typeOf (.ref a)) o.cls from (Looks.ld h1).andThen .now) ?_)
      rw [h2, if_neg (by decide)]
      exact wpAny_bind (listItems_at h1 h3 (wpAny_pure q))
theorem one_dtm {vs : List Value} (h : ∀ v ∈ vs, ∃ T, ∀ M : Model, Looks M s.heap (typeOf v) (Value.type T)) : Dtm prog w A s (oneTypeOnly' vs.toArray) fun _ => True := by
  rw [oneTypeOnly'_eq, List.mapM_toArray, map_eq_pure_bind]
  refine Dtm.bind (P := fun _ => True) (Dtm.bind (P := fun _ => True) ?_ fun _ _ => Dtm.pure trivial) fun ts _ => ?_
  · obtain ⟨r, _, k⟩ := Dtm.mapM (R := fun _ _ => True) (prog := prog) (w := w) (A := A) (s := s) (f := typeOf) (l := vs) fun v hv => by
      obtain ⟨T, hT⟩ := h v hv
      exact ⟨_, trivial, fun Q E q => (hT _).here q⟩
    exact ⟨r, trivial, k⟩
  · split <;> exact Dtm.pure trivial
def KindOk (κ : SortKind) (ds : List PyData) : Prop := κ = general' ∨ κ = oneType' ∨ ((∃ b, κ = tuples' b) ∧ ∀ d ∈ ds, ∃ xs, d = .tuple xs)
theorem kind_dtm {vs : List Value} {ds : List PyData} (h : All2 (PlD s.heap) vs ds) : Dtm prog w A s (keyKind' vs.toArray) fun κ => KindOk κ ds := by
  rw [keyKind'_eq, List.mapM_toArray, map_eq_pure_bind]
  have ht : Dtm prog w A s (vs.mapM firstOfTuple') fun rs => (rs.all (·.isSome) = true → ∀ d ∈ ds, ∃ xs, d = .tuple xs) ∧ ∀ r ∈ rs, ∀ u, r = some u → ∃ T, ∀ M : Model, Looks M s.heap (typeOf u) (Value.type T) := by
    induction h with
    | nil => rw [List.mapM_nil]; exact Dtm.pure ⟨fun _ d m => (by cases m), fun r m => (by cases m)⟩
    | cons p h ih =>
      rw [List.mapM_cons]
      refine Dtm.bind (first_dtm p) fun r hr => Dtm.bind ih fun rs hrs => Dtm.pure ⟨fun z d m => ?_, fun r' m u hu => ?_⟩
      · have z' : r.isSome = true ∧ rs.all (·.isSome) = true := by simpa using z
        rcases List.mem_cons.mp m with e | m
        · subst e; exact (hr z'.1).1
        · exact hrs.1 z'.2 d m
      · rcases List.mem_cons.mp m with e | m
        · subst e; exact (hr (by rw [hu]; rfl)).2 u hu
        · exact hrs.2 r' m u hu
  refine Dtm.bind (P := fun (rs : Array (Option Value)) => (rs.all (·.isSome) = true → ∀ d ∈ ds, ∃ xs, d = .tuple xs) ∧ ∀ r ∈ rs.toList, ∀ u, r = some u → ∃ T, ∀ M : Model, Looks M s.heap (typeOf u) (Value.type T)) (Dtm.bind ht fun rs hrs => Dtm.pure ⟨fun z => hrs.1 (by simpa using z), by simpa using hrs.2⟩) fun rs hrs => ?_
  have one : ∀ vs : Array Value, (∀ v ∈ vs.toList, ∃ T, ∀ M : Model, Looks M s.heap (typeOf v) (Value.type T)) → Dtm prog w A s (oneTypeOnly' vs) fun _ => True := fun vs h => by
    have := one_dtm (prog := prog) (w := w) (A := A) (s := s) (vs := vs.toList) h
    simpa using this
  by_cases c : rs.all (·.isSome) = true
  · rw [if_pos c]
    refine Dtm.bind (P := fun _ => True) ⟨(), trivial, fun Q E q => wpAny_rule q⟩ fun _ _ => ?_
    refine Dtm.bind (one _ fun v hv => ?_) fun r _ => Dtm.pure (.inr (.inr ⟨⟨_, rfl⟩, hrs.1 c⟩))
    have hv' : some v ∈ rs.toList := by simpa using hv
    exact hrs.2 _ hv' v rfl
  · rw [if_neg c]
    by_cases c2 : (rs[0]?.bind id).isSome = true
    · rw [if_pos c2]
      exact Dtm.pure (.inl rfl)
    · rw [if_neg c2]
      refine Dtm.bind (one _ fun v hv => ?_) fun r _ => ?_
      · obtain ⟨d, _, p⟩ := h.memL v (by simpa using hv)
        obtain ⟨as, rd⟩ := p.rd
        exact looks_type rd p.cm
      · by_cases c3 : r.isSome = true
        · rw [if_pos c3]; exact Dtm.pure (.inr (.inl rfl))
        · rw [if_neg c3]; exact Dtm.pure (.inl rfl)
/-! ### any two are compared -/
theorem one_lt {f : Bool} {x y : PyData} {a b : Value} {as bs : List Addr} {Q : Bool → Shared → Prop} (ra : Reads s.heap a x as) (rb : Reads s.heap b y bs) (hc : cmpb x y = true) (ha : x.canLay0 = true) (hb : y.canLay0 = true)
    (hu : A.units + min x.depth y.depth < cLine) (h : Q (plt x y) s) : wpAny (model prog w) A (oneLt' f a b) Q E s := by
  have R := rc_lt x y A s a b as bs ra rb hc ha hb hu
  cases f with
  | false =>
    rw [oneLt'_eq]
    simp only [Bool.false_eq_true, if_false]
    exact wpAny_bind (R prog w E _ (wpAny_truthy_bool h))
  | true =>
    cases ra with
    | none => cases y <;> cases hc
    | bool => cases y <;> cases hc
    | int i t =>
      cases rb with
      | int j u =>
        have e : plt (.int i) (.int j) = decide (i < j) := by
          show HT.lexLt [i] [j] = _
          rw [HT.lexLt_cons]
          by_cases h : i = j
          · subst h; simp [HT.lexLt]
          · rw [if_neg h]
        rw [e] at h
        exact oneLt_int h
      | _ => cases hc
    | str i t =>
      cases rb with
      | str j u =>
        have e : plt (.str i) (.str j) = decide (i.cps.toList < j.cps.toList) := by
          show HT.lexLt (cdS _) (cdS _) = _
          by_cases h : i.cps.toList = j.cps.toList
          · rw [h]
            have := lex_same (cdS j.cps.toList) [] []
            rw [List.append_nil] at this
            rw [this, decide_eq_false (List.lt_irrefl _)]; rfl
          · rw [← List.append_nil (cdS i.cps.toList), ← List.append_nil (cdS j.cps.toList), cdS_ne _ _ _ _ h]
        rw [e] at h
        exact oneLt_str h
      | _ => cases hc
    | list => cases y <;> cases hc
    | dict => cases y <;> cases hc
    | tuple h1 h2 h3 h4 =>
      cases rb with
      | tuple k1 k2 k3 k4 =>
        rename_i a o vs n xs b o2 ws m ys
        obtain ⟨cls, dd, data, sl⟩ := o
        obtain ⟨cls2, dd2, data2, sl2⟩ := o2
        simp only at h2 h3 k2 k3
        subst h2 h3 k2 k3
        have hu' := SeqAt.room_in hu
        have l1 := SeqAt.ReadsAll.length _ _ _ h4
        have l2 := SeqAt.ReadsAll.length _ _ _ k4
        rw [Array.length_toList] at l1 l2
        rw [oneLt'_eq]
        simp only [if_true]
        refine wpAny_bind (wpAny_cRoomFor (SeqAt.room_here hu) ?_)
        refine wpAny_bind (wpAny_callSpecialIfBound?_slot ⟨_, h1, rfl⟩ F.slot_tuple_lt ?_)
        refine call_meets F.slot_tuple_lt ⟨_, h1, rfl⟩ F.entry_tuple_lt (F.args_tuple_lt_2 _ _) (Ob.tuple_ltAt a b vs ws n m dd dd2 sl sl2 (SeqAt.pairEq xs ys) (pairLt xs ys)) ⟨h1, k1, fun j j1 j2 => ?_, fun j j1 j2 _ => ?_, ?_⟩
        · have := SeqAt.eqAt_readsAll xs ys A.in1 s _ _ _ _ h4 k4 ha hb hu' j (by simpa using j1) (by simpa using j2)
          simpa using this
        · have := rc_lts xs ys A.in1 s _ _ _ _ h4 k4 hc ha hb hu' j (by simpa using j1) (by simpa using j2)
          simpa using this
        · rw [l1, l2, lexAt_cd xs ys hc]
          exact wpAny_truthy_bool h
      | _ => cases hc
theorem kat_data {f : Bool} {Q : Bool → Shared → Prop} : ∀ (xs ys : List PyData) (i : Nat) (vs ws : List Value) (as bs : List Addr), ReadsAll s.heap vs xs as → ReadsAll s.heap ws ys bs → cmpbs xs ys = true → PyData.canLayAll0 xs = true → PyData.canLayAll0 ys = true →
    A.units + min (PyData.depthAll xs) (PyData.depthAll ys) < cLine → ∀ fin : Bool, fin = decide (xs.length < ys.length) → Q (HT.lexLt (cdPs xs) (cdPs ys)) s → PySem.W.KatLex prog w A f fin Q (vs.zip ws) i s
  | [], [], i, _, _, _, _, ra, rb, _, _, _, _, fin, hf, h => by
    cases ra; cases rb
    subst hf
    refine PySem.W.kat_nil (b := f) ?_
    have e : HT.lexLt (cdPs []) (cdPs []) = false := by show HT.lexLt [0] [0] = _; rw [HT.lexLt_cons, if_pos rfl]; rfl
    rw [e] at h
    simpa using h
  | [], y :: ys, i, _, _, _, _, ra, rb, _, _, _, _, fin, hf, h => by
    cases ra; cases rb
    subst hf
    rw [List.zip_nil_left]
    refine PySem.W.kat_nil (b := f) ?_
    rw [plt_tup_nil] at h
    simpa using h
  | x :: xs, [], i, _, _, _, _, ra, rb, _, _, _, _, fin, hf, h => by
    cases ra; cases rb
    subst hf
    rw [List.zip_nil_right]
    refine PySem.W.kat_nil (b := f) ?_
    rw [plt_tup_nil2] at h
    simpa using h
  | x :: xs, y :: ys, i, _, _, _, _, ra, rb, hc, ha, hb, hu, fin, hf, h => by
    have ha' : x.canLay0 = true ∧ PyData.canLayAll0 xs = true := by simpa [PyData.canLayAll0] using ha
    have hb' : y.canLay0 = true ∧ PyData.canLayAll0 ys = true := by simpa [PyData.canLayAll0] using hb
    have hc' : cmpb x y = true ∧ cmpbs xs ys = true := by
      have : (cmpb x y && cmpbs xs ys) = true := hc
      exact (Bool.and_eq_true _ _).mp this
    have hu : A.units + min (max x.depth (PyData.depthAll xs)) (max y.depth (PyData.depthAll ys)) < cLine := hu
    cases ra with
    | cons r rs =>
      cases rb with
      | cons r' rs' =>
        rw [List.zip_cons_cons]
        rw [plt_tup_cons hc'.1] at h
        refine PySem.W.kat_cons (SeqAt.eqAt_reads x y A s _ _ _ _ r r' ha'.1 hb'.1 (SeqAt.room_head hu) prog w _ _ ?_)
        refine PySem.W.kat_go (fun e => PySem.W.kat_yes ?_) (fun e => PySem.W.kat_no ?_)
        · rw [if_pos e] at h
          exact kat_data xs ys (i + 1) _ _ _ _ rs rs' hc'.2 ha'.2 hb'.2 (SeqAt.room_tail hu) fin (by rw [hf]; exact decide_eq_decide.mpr (by simp only [List.length_cons]; omega)) h
        · rw [if_neg (by rw [e]; exact Bool.false_ne_true)] at h
          exact one_lt r r' hc'.1 ha'.1 hb'.1 (SeqAt.room_head hu) h
theorem key_lt {κ : SortKind} {x y : PyData} {a b : Value} {Q : Bool → Shared → Prop} (pa : PlD s.heap a x) (pb : PlD s.heap b y) (hc : cmpb x y = true) (hk : κ = general' ∨ κ = oneType' ∨ ((∃ f, κ = tuples' f) ∧ (∃ xs, x = .tuple xs) ∧ ∃ ys, y = .tuple ys))
    (hu : A.units + 64 < cLine) (h : Q (plt x y) s) : wpAny (model prog w) A (keyLt' κ a b) Q E s := by
  obtain ⟨as, ra⟩ := pa.rd
  obtain ⟨bs, rb⟩ := pb.rd
  have hu' : A.units + min x.depth y.depth < cLine := by have := pa.dp; have : min x.depth y.depth ≤ x.depth := Nat.min_le_left _ _; omega
  rcases hk with e | e | ⟨⟨f, e⟩, ⟨xs, ex⟩, ys, ey⟩
  · subst e
    exact (show wpAny (model prog w) A (oneLt' false a b) Q E s from one_lt ra rb hc pa.cl pb.cl hu' h)
  · subst e
    exact (show wpAny (model prog w) A (oneLt' true a b) Q E s from one_lt ra rb hc pa.cl pb.cl hu' h)
  · subst e ex ey
    cases ra with
    | tuple h1 h2 h3 h4 =>
      cases rb with
      | tuple k1 k2 k3 k4 =>
        have l1 := SeqAt.ReadsAll.length _ _ _ h4
        have l2 := SeqAt.ReadsAll.length _ _ _ k4
        rw [Array.length_toList] at l1 l2
        refine PySem.W.kat_lt h1 h3 k1 k3 (kat_data xs ys 0 _ _ _ _ h4 k4 hc pa.cl pb.cl ?_ _ (by rw [l1, l2]) h)
        have hu'' := SeqAt.room_in hu'
        omega
/-- a value's code, by the heap -/
noncomputable def rdK (h : Heap) (v : Value) : List Int := open Classical in if z : ∃ d, ∃ as, Reads h v d as then cdP z.choose else []
theorem rdK_eq {h : Heap} {v : Value} {d : PyData} {as : List Addr} (r : Reads h v d as) : rdK h v = cdP d := by
  have z : ∃ d, ∃ as, Reads h v d as := ⟨d, as, r⟩
  unfold rdK
  rw [dif_pos z]
  obtain ⟨as', r'⟩ := z.choose_spec
  rw [(reads_det (fun _ _ e _ => e) r r').1]
theorem sorted_data {l : Addr} {vs : List Value} {ds : List PyData} {Q : Value → Shared → Prop} (hl : s.heap.IsList l vs.toArray) (hz : vs.length ≤ sizeLine) (hp : All2 (PlD s.heap) vs ds) (hc : ∀ x ∈ ds, ∀ y ∈ ds, cmpb x y = true) (hu : A.units + 66 < cLine)
    (h : ∀ out : List Value, SrtO.Srtd (fun v u => HT.lexLt (rdK s.heap v) (rdK s.heap u)) out → SrtO.Stb (fun v u => HT.lexLt (rdK s.heap v) (rdK s.heap u)) out vs → Q (.ref (s.heap.objs.size + 1)) { s with heap := sortedAll s.heap vs out.toArray }) :
    wpAny (model prog w) A (call (.builtin "sorted") [.ref l]) Q E s := by
  refine SrtO.sorted_ord (NtL.swo_lexL (rdK s.heap)) hl hz (fun h2 h₁ a ha kk => ?_) h
  intro h' keep
  have kp : ∀ b o, s.heap.get? b = some o → h'.get? b = some o := fun b o e => keep b o (kk b o e).1 (kk b o e).2
  have up : ∀ {v d}, PlD s.heap v d → PlD h' v d := fun p => ⟨let ⟨as, r⟩ := p.rd; ⟨as, PyProof.Rows.Reads.keeps kp r⟩, p.cl, p.cm, p.dp⟩
  have hp' : All2 (PlD h') vs ds := hp.map fun _ _ p => up p
  have mem : ∀ v ∈ vs, ∃ d ∈ ds, PlD s.heap v d := hp.memL
  obtain ⟨κ, hκ, k⟩ := kind_dtm (prog := prog) (w := w) (A := A.in1.in1) (s := { s with heap := h' }) hp'
  refine ⟨κ, fun Q E q => k Q E q, fun p q hp1 hq1 => ?_⟩
  obtain ⟨d, hd, pd⟩ := mem _ hp1
  obtain ⟨e, he, pe⟩ := mem _ hq1
  obtain ⟨as, r1⟩ := pd.rd
  obtain ⟨bs, r2⟩ := pe.rd
  refine key_lt (s := { s with heap := h' }) (up pd) (up pe) (hc d hd e he) ?_ (by show A.units + 1 + 1 + 64 < cLine; omega) ⟨rfl, ?_⟩
  · rcases hκ with z | z | ⟨z, z2⟩
    · exact .inl z
    · exact .inr (.inl z)
    · exact .inr (.inr ⟨z, z2 d hd, z2 e he⟩)
  · show _ = HT.lexLt (rdK s.heap p.1) (rdK s.heap q.1)
    rw [rdK_eq r1, rdK_eq r2]
end
end Lw

set_option Elab.async false
set_option linter.all false
set_option maxRecDepth 100000
set_option maxHeartbeats 4000000
namespace Lw
open PySem PySem.Spec PyProof.Rows L2
/-! ### the order on T -/
abbrev cdT (t : T) : List Int := cdP (pdT t)
abbrev tlt (x y : T) : Bool := HT.lexLt (cdT x) (cdT y)
structure SrtOk (xs : List T) : Prop where
  ok : ∀ x ∈ xs, okT x = true ∧ dpT x ≤ 50
  cm : ∀ x ∈ xs, ∀ y ∈ xs, cmpb (pdT x) (pdT y) = true
theorem lex_tot : ∀ a b : List Int, HT.lexLt a b = false → HT.lexLt b a = false → a = b
  | [], [], _, _ => rfl
  | [], b :: y, h, _ => by rw [HT.lexLt_nil_cons] at h; cases h
  | a :: x, [], _, h => by rw [HT.lexLt_nil_cons] at h; cases h
  | a :: x, b :: y, h, h2 => by
    rw [HT.lexLt_cons] at h h2
    by_cases e : a = b
    · subst e
      rw [if_pos rfl] at h h2
      rw [lex_tot x y h h2]
    · rw [if_neg e] at h
      rw [if_neg (Ne.symm e)] at h2
      have h1 := of_decide_eq_false h
      have h2 := of_decide_eq_false h2
      omega
theorem cd_inj {x y : PyData} (h : cmpb x y = true) (e : cdP x = cdP y) : x = y := by
  cases q : PyData.eqv x y with
  | true => exact cd_eq x y h q
  | false =>
    have a := cd_ne x y [0] [1] h q
    unfold plt at a
    rw [e, lex_same] at a
    have b := lex_same (cdP y) [] []
    rw [List.append_nil] at b
    rw [b] at a
    exact absurd a (by decide)
mutual
theorem pdT_inj : ∀ x y : T, okT x = true → okT y = true → pdT x = pdT y → x = y
  | .non, y, _, h2, h => by cases y <;> first | rfl | (simp [pdT] at h; done) | cases h2
  | .bl b, y, _, h2, h => by cases y <;> first | (simp [pdT] at h; rw [h]; done) | (simp [pdT] at h; done) | cases h2
  | .int b, y, _, h2, h => by cases y <;> first | (simp [pdT] at h; rw [h]; done) | (simp [pdT] at h; done) | cases h2
  | .str b, y, _, h2, h => by cases y <;> first | (simp [pdT] at h; rw [h]; done) | (simp [pdT] at h; done) | cases h2
  | .tup xs, .tup ys, h1, h2, h => by
    simp only [pdT, PyData.tuple.injEq] at h
    rw [pdTs_inj xs ys h1 h2 h]
  | .tup xs, .non, _, _, h => by simp [pdT] at h
  | .tup xs, .bl _, _, _, h => by simp [pdT] at h
  | .tup xs, .int _, _, _, h => by simp [pdT] at h
  | .tup xs, .str _, _, _, h => by simp [pdT] at h
  | .ref _, _, h, _, _ => by cases h
  | .ty _, _, h, _, _ => by cases h
  | .scr _, _, h, _, _ => by cases h
theorem pdTs_inj : ∀ xs ys : List T, okTs xs = true → okTs ys = true → pdTs xs = pdTs ys → xs = ys
  | [], [], _, _, _ => rfl
  | [], _ :: _, _, _, h => by cases h
  | _ :: _, [], _, _, h => by cases h
  | x :: xs, y :: ys, h1, h2, h => by
    have h1' : (okT x && okTs xs) = true := h1
    have h2' : (okT y && okTs ys) = true := h2
    rw [Bool.and_eq_true] at h1' h2'
    have h' : pdT x :: pdTs xs = pdT y :: pdTs ys := h
    have e := List.cons.inj h'
    rw [pdT_inj x y h1'.1 h2'.1 e.1, pdTs_inj xs ys h1'.2 h2'.2 e.2]
end
theorem SrtOk.uniq {xs ys zs : List T} (h : SrtOk zs) (p1 : xs.Perm zs) (p2 : ys.Perm zs) (s1 : xs.Pairwise fun x y => tlt y x = false) (s2 : ys.Pairwise fun x y => tlt y x = false) : xs = ys := by
  refine List.Perm.eq_of_pairwise (fun a b ha hb q1 q2 => ?_) s1 s2 (p1.trans p2.symm)
  have ha' := p1.mem_iff.mp ha
  have hb' := p2.mem_iff.mp hb
  exact pdT_inj a b (h.ok a ha').1 (h.ok b hb').1 (cd_inj (h.cm a ha' b hb') (lex_tot _ _ q2 q1))
/-! ### sorted -/
theorem All2.perm {α β : Type} {R : α → β → Prop} {l m : List α} (p : l.Perm m) : ∀ {xs : List β}, All2 R l xs → ∃ ys, All2 R m ys ∧ ys.Perm xs := by
  induction p with
  | nil => intro xs h; exact ⟨xs, h, List.Perm.refl _⟩
  | cons a p ih =>
    intro xs h
    cases h with
    | cons r h =>
      obtain ⟨ys, h1, h2⟩ := ih h
      exact ⟨_, .cons r h1, h2.cons _⟩
  | swap a b l =>
    intro xs h
    cases h with
    | cons r h =>
      cases h with
      | cons r2 h => exact ⟨_, .cons r2 (.cons r h), List.Perm.swap ..⟩
  | trans p q ih1 ih2 =>
    intro xs h
    obtain ⟨ys, h1, h2⟩ := ih1 h
    obtain ⟨zs, h3, h4⟩ := ih2 h1
    exact ⟨zs, h3, h4.trans h2⟩
theorem All2.pw {α β : Type} {R : α → β → Prop} {S : α → α → Prop} {S' : β → β → Prop} (g : ∀ u x u' x', R u x → R u' x' → S u u' → S' x x') {l : List α} {xs : List β} (h : All2 R l xs) : l.Pairwise S → xs.Pairwise S' := by
  induction h with
  | nil => intro _; exact .nil
  | cons r h ih =>
    intro p
    obtain ⟨p1, p2⟩ := List.pairwise_cons.mp p
    refine List.pairwise_cons.mpr ⟨fun y hy => ?_, ih p2⟩
    obtain ⟨v, hv, q⟩ := h.mem y hy
    exact g _ _ _ _ r q (p1 v hv)
def RdT (K : PySem.W.Frag) (H : Hp) (h : Heap) (u : Value) (x : T) : Prop := ∃ v, RelV v u ∧ Rp K H x v ∧ ∃ as, Reads h u (pdT x) as
theorem rdT_of {X : Cx} {pins : List (Addr × Obj)} {σ : L2.St} {H : Hp} {s : Shared} (I : Inv X pins σ H s) : ∀ {xs : List T} {ws : List V} {its : List Value}, (∀ x ∈ xs, okT x = true ∧ dpT x ≤ 50) → RpL X.K H xs ws → Vals ws its → All2 (RdT X.K H s.heap) its xs
  | [], _, _, _, rr, rv => by
    rw [show _ = [] from rr] at rv
    cases rv
    exact .nil
  | x :: xs, _, _, ok, ⟨v, r, e, h, hr⟩, rv => by
    subst e
    cases rv with
    | cons r1 r2 =>
      refine .cons ⟨v, r1, h, ?_⟩ (rdT_of I (fun y m => ok y (List.mem_cons_of_mem _ m)) hr r2)
      exact Dp.reads I _ _ _ (pd_dp x v (ok x List.mem_cons_self).1 h) r1
theorem rdT_back {K : PySem.W.Frag} {H : Hp} {h : Heap} {its : List Value} {xs : List T} (a : All2 (RdT K H h) its xs) : ∃ ws, RpL K H xs ws ∧ Vals ws its := by
  induction a with
  | nil => exact ⟨[], rfl, .nil⟩
  | cons r _ ih =>
    obtain ⟨v, r1, r2, _⟩ := r
    obtain ⟨ws, q1, q2⟩ := ih
    exact ⟨v :: ws, ⟨v, ws, rfl, r2, q1⟩, .cons r1 q2⟩
theorem rdT_pl {K : PySem.W.Frag} {H : Hp} {h : Heap} {its : List Value} {xs : List T} (ok : SrtOk xs) (a : All2 (RdT K H h) its xs) : All2 (PlD h) its (xs.map pdT) := by
  have ok1 := ok.ok
  have ok2 : ∀ x ∈ xs, cmpb (pdT x) (pdT x) = true := fun x m => ok.cm x m x m
  clear ok
  induction a with
  | nil => exact .nil
  | cons r _ ih =>
    obtain ⟨v, r1, r2, r3⟩ := r
    have o := ok1 _ List.mem_cons_self
    refine .cons ⟨r3, pd_can _ o.1, ok2 _ List.mem_cons_self, ?_⟩ (ih (fun y m => ok1 y (List.mem_cons_of_mem _ m)) (fun y m => ok2 y (List.mem_cons_of_mem _ m)))
    have := pd_depth _ o.1
    omega
def fSorted : QC := fun ts G Q => match ts with
  | [.ref a] => ∃ xs, G a = some (.lst xs) ∧ SrtOk xs ∧ ∀ ys, ys.Perm xs → ys.Pairwise (fun x y => tlt y x = false) → ∀ p, G p = none → Q (.ref p) (gput G p (.lst ys))
  | _ => False
section
variable {X : Cx}
theorem b_sorted (hu : X.A.units + 66 < cLine) : CallR X (.builtin "sorted") (cC X.K fSorted) := by
  intro pins s σ H vs us KQ I r h
  obtain ⟨ts, G, Q, hr, ha, hf, hk⟩ := h
  unfold fSorted at hf
  split at hf
  · obtain ⟨xs, hg, ok, q⟩ := hf
    obtain ⟨v, rfl, h1⟩ := rpl1 hr
    cases h1
    obtain ⟨ws, hp, rr⟩ := ha _ _ hg
    obtain ⟨its, rv, hl, hz⟩ := I.list (SqL.of hp)
    rw [Vals.ref1 r]
    have a0 := rdT_of I ok.ok rr rv
    have zl : its.length ≤ sizeLine := by rw [← rv.length]; exact hz
    refine sorted_data hl.isList zl (rdT_pl ok a0) (fun x hx y hy => ?_) hu fun out h1 h2 => ?_
    · obtain ⟨x', hx', rfl⟩ := List.mem_map.mp hx
      obtain ⟨y', hy', rfl⟩ := List.mem_map.mp hy
      exact ok.cm x' hx' y' hy'
    · obtain ⟨ys, a1, py⟩ := a0.perm h2.perm.symm
      obtain ⟨ws', q1, q2⟩ := rdT_back a1
      have sy : ys.Pairwise fun x y => tlt y x = false := a1.pw (S' := fun x y => tlt y x = false) (fun u x u' x' ⟨_, _, _, as, r1⟩ ⟨_, _, _, bs, r2⟩ e => by
        have e : HT.lexLt (rdK s.heap u') (rdK s.heap u) = false := e
        rw [rdK_eq r1, rdK_eq r2] at e
        exact e) h1
      obtain ⟨ep, he'⟩ := PyProof.Rows.sortedAll_at s.heap its out.toArray
      have hlen : ws'.length ≤ sizeLine := by
        rw [q2.length, h2.perm.length_eq]; exact zl
      have fr : H (s.heap.objs.size + 1) = none := I.hok.fresh (Nat.le_succ _)
      have k : Tups H (upd H (s.heap.objs.size + 1) (.lst ws')) := Tups.new fr
      refine ⟨.ref _, upd H (s.heap.objs.size + 1) (.lst ws'), I.laid (t' := s.toks) (fun _ _ => PyProof.Rows.sortedAll_old) (Nat.le_succ _) ⟨hlen, out, ep, q2, he'⟩, rfl, ?_⟩
      exact hk _ _ (.ref _) _ k (ha.put (o := .lst ys) ⟨fun xs z => (by rw [fr] at z; cases z), fun o xs z => (by rw [fr] at z; cases z)⟩ ⟨ws', upd_same, q1.mono k⟩) rfl (q ys py sy _ (ha.free fr))
  · exact hf.elim
/-! ### < of tuples -/
def fLt2 : Q2 := fun x y G Q => match x, y with
  | .int i, .int j => Q (.bl (decide (i < j))) G
  | .str i, .str j => Q (.bl (decide (i.cps.toList < j.cps.toList))) G
  | .tup xs, .tup ys => eqOk (.tup xs) = true ∧ eqOk (.tup ys) = true ∧ cmpb (pdT (.tup xs)) (pdT (.tup ys)) = true ∧ Q (.bl (tlt (.tup xs) (.tup ys))) G
  | _, _ => False
theorem o_lt2 (hu : X.A.units + 66 < cLine) : OpR X (compareOp .Lt) (c2 X.K fLt2) := by
  intro pins s σ H v w u u' KQ I rv rw' h2
  obtain ⟨x, y, G, Q, hx, hy, ha, hf, hk⟩ := h2
  unfold fLt2 at hf
  split at hf
  · exact op_lt pins s σ H v w u u' KQ I rv rw' ⟨_, _, hx, hy, hk _ H _ G (Tups.refl H) ha (show Rp X.K H (.bl _) (.bl _) from rfl) hf⟩
  · exact op_lt_str pins s σ H v w u u' KQ I rv rw' ⟨_, _, hx, hy, hk _ H _ G (Tups.refl H) ha (show Rp X.K H (.bl _) (.bl _) from rfl) hf⟩
  · obtain ⟨o1, o2, hc, hf⟩ := hf
    obtain ⟨as, r1⟩ := Dp.reads I _ _ _ (pd_dp _ _ (eqOk_ok o1) hx) rv
    obtain ⟨bs, r2⟩ := Dp.reads I _ _ _ (pd_dp _ _ (eqOk_ok o2) hy) rw'
    have hd := pd_depth _ (eqOk_ok o1)
    have hd2 := eqOk_dp o1
    refine rc_lt _ _ X.A s u u' as bs r1 r2 hc (pd_can _ (eqOk_ok o1)) (pd_can _ (eqOk_ok o2)) (Nat.lt_of_le_of_lt (Nat.add_le_add_left (Nat.min_le_left _ _) _) (by omega)) _ _ _ _ ?_
    exact ⟨.bl _, H, I, rfl, hk _ H (.bl _) G (Tups.refl H) ha rfl hf⟩
  · exact hf.elim
end
theorem un66 {k : Nat} {A : Around} (r : Room k A) : A.units + 66 < cLine := by have := r.un; omega
end Lw

set_option Elab.async false
set_option linter.all false
set_option maxRecDepth 100000
set_option maxHeartbeats 4000000
namespace Lw
open PySem PySem.Spec PyProof.Rows L2
/-! ### comprehensions with two fors -/
def qLc2 (qi : QI) (qg : QG) (qt : QT) (qi1 : QI) (qg1 : QG) (qt1 : QT) (qe : QE) (own vs1 : List Nat) : QE := fun ρ G Q => qi ρ G fun ts St G1 => ∀ D, G1 D = none → ∃ I : Nat → List T → Gp → Prop, I 0 [] (gput G1 D (.lst [])) ∧ (∀ i acc G, i ≤ ts.length → I i acc G → St G) ∧
  (∀ i t acc G, ts[i]? = some t → I i acc G → wipeK ρ own fun ρ1 => qg t ρ1 G fun ρ2 G2 => qt ρ2 G2 fun b G3 => (b = true → qi1 ρ2 G3 fun us St1 G4 => ∃ I1 : Nat → List T → Gp → Prop, I1 0 acc G4 ∧ (∀ j acc G, j ≤ us.length → I1 j acc G → St1 G) ∧
      (∀ j u acc G, us[j]? = some u → I1 j acc G → wipeK ρ2 vs1 fun ρ3 => qg1 u ρ3 G fun ρ4 G5 => qt1 ρ4 G5 fun b G6 => (b = true → qe ρ4 G6 fun y G7 => G7 D = some (.lst acc) ∧ acc.length < 100000 ∧ ∃ G8, Sub G8 (gput G7 D (.lst (acc ++ [y]))) ∧ I1 (j + 1) (acc ++ [y]) G8) ∧ (b = false → ∃ G8, Sub G8 G6 ∧ I1 (j + 1) acc G8)) ∧
      ∀ acc G, I1 us.length acc G → ∃ G8, Sub G8 G ∧ I (i + 1) acc G8) ∧ (b = false → ∃ G8, Sub G8 G3 ∧ I (i + 1) acc G8)) ∧
  ∀ acc G, I ts.length acc G → Q (.ref D) G
section
variable {X : Cx} {tg elt iter tg1 iter1 : Expr} {ifs ifs1 : List Expr} {scope : Scope} {own : List (Str × Nat)} {vs1 : List Nat} {pos : Pos} {qi qi1 : QI} {qg qg1 : QG} {qt qt1 : QT} {qel : QE}
theorem lc2_wk : ∀ σ H KQ, cE X.K (qLc2 qi qg qt qi1 qg1 qt1 qel (own.map (·.2)) vs1) σ H KQ → tLc2 (cI X.K qi) (cG X.K (own.map (·.2)) qg) (cT X.K qt) (cI X.K qi1) (cG X.K vs1 qg1) (cT X.K qt1) (cE X.K qel) (own.map (·.2)) vs1 σ H KQ := fun σ H KQ h => by
  obtain ⟨ρ, G, Q, e, a, q, f⟩ := h
  refine ⟨ρ, G, _, e, a, q, fun J H1 ts St G1 k1 a1 w q1 => fun D hD => ?_⟩
  obtain ⟨I, i0, hst, turn, done⟩ := q1 D (a1.free hD)
  have kD : Tups H1 (upd H1 D (.lst [])) := Tups.new hD
  refine ⟨fun i m H' => m = ts.length - i ∧ i ≤ ts.length ∧ Tups H1 H' ∧ ∃ acc G', Abs X.K H' G' ∧ I i acc G',
    ⟨ts.length, by simp, Nat.zero_le _, kD, [], _, a1.put (o := .lst []) ⟨fun xs z => (by rw [hD] at z; cases z), fun o xs z => (by rw [hD] at z; cases z)⟩ ⟨[], upd_same, rfl⟩, i0⟩, ?_⟩
  rintro i m H2 ⟨rfl, hi, k2, acc, G2, a2, j2⟩
  have st := hst i acc G2 hi j2
  have e2 : EnvR X.K H2 ρ σ := e.mono (k1.trans k2)
  by_cases hlt : i < ts.length
  · refine .inr ⟨w.goes i H2 G2 hlt k2 a2 st, fun H' => Tups H1 H' ∧ ∃ acc G', Abs X.K H' G' ∧ I (i + 1) acc G', fun H' p => ⟨ts.length - (i + 1), by omega, rfl, hlt, p⟩, fun x H3 y => ?_⟩
    obtain ⟨k3, a3, t, ht, r3⟩ := w.yields i H2 G2 x H3 hlt k2 a2 st y
    have k23 := k2.trans k3
    refine ⟨t, _, G2, _, r3, (e2.mono k3).wipe _, a3, wipeK_wipe (turn i t acc G2 ht j2), fun σ4 H4 ρ4 G4 w4 k4 e4 a4 q4 => ⟨?_, ?_⟩⟩
    · rw [w4]
      exact wipe_wipe
    · refine ⟨ρ4, G4, _, e4, a4, q4, fun b H5 G5 k5 a5 q5 => ?_⟩
      have k15 := (k23.trans k4).trans k5
      cases b with
      | false =>
        show (if false = true then _ else _)
        rw [if_neg Bool.false_ne_true]
        obtain ⟨G6, sb, j6⟩ := q5.2 rfl
        exact ⟨k15, acc, G6, a5.sub sb, j6⟩
      | true =>
        show (if true = true then _ else _)
        rw [if_pos rfl]
        refine ⟨ρ4, G5, _, e4.mono k5, a5, q5.1 rfl, fun J1 H6 us St1 G6 k6 a6 w1 ⟨I1, j0, hst1, turn1, done1⟩ => ?_⟩
        have k16 := k15.trans k6
        refine ⟨fun j m H' => m = us.length - j ∧ j ≤ us.length ∧ Tups H6 H' ∧ ∃ acc G', Abs X.K H' G' ∧ I1 j acc G', ⟨us.length, by simp, Nat.zero_le _, Tups.refl _, acc, G6, a6, j0⟩, ?_⟩
        rintro j m2 H7 ⟨rfl, hj, k7, acc7, G7, a7, j7⟩
        have st7 := hst1 j acc7 G7 hj j7
        by_cases hlt1 : j < us.length
        · refine .inr ⟨w1.goes j H7 G7 hlt1 k7 a7 st7, fun H' => Tups H6 H' ∧ ∃ acc G', Abs X.K H' G' ∧ I1 (j + 1) acc G', fun H' p => ⟨us.length - (j + 1), by omega, rfl, hlt1, p⟩, fun x8 H8 y8 => ?_⟩
          obtain ⟨k8, a8, t8, ht8, r8⟩ := w1.yields j H7 G7 x8 H8 hlt1 k7 a7 st7 y8
          have k78 := k7.trans k8
          have e8 : EnvR X.K H8 ρ4 σ4 := e4.mono ((k5.trans k6).trans k78)
          refine ⟨t8, _, G7, _, r8, e8.wipe _, a8, wipeK_wipe (turn1 j t8 acc7 G7 ht8 j7), fun σ9 H9 ρ9 G9 w9 k9 e9 a9 q9 => ⟨?_, ?_⟩⟩
          · rw [w9]
            exact wipe_wipe
          · refine ⟨ρ9, G9, _, e9, a9, q9, fun b H10 G10 k10 a10 q10 => ?_⟩
            have kk := (k78.trans k9).trans k10
            cases b with
            | false =>
              show (if false = true then _ else _)
              rw [if_neg Bool.false_ne_true]
              obtain ⟨G11, sb, j11⟩ := q10.2 rfl
              exact ⟨kk, acc7, G11, a10.sub sb, j11⟩
            | true =>
              show (if true = true then _ else _)
              rw [if_pos rfl]
              refine ⟨ρ9, G10, _, e9.mono k10, a10, q10.1 rfl, fun v H11 y11 G11 k11 a11 r11 ⟨gd, hz, G12, sb, j12⟩ => ?_⟩
              obtain ⟨vs, hv, rv⟩ := a11 _ _ gd
              have wr : Wr H11 D := Wr.of hv (fun _ z => by cases z) (fun _ _ z => by cases z)
              have k12 := Tups.set (o := .lst (vs ++ [v])) wr
              exact ⟨vs, hv, by rw [rv.length]; exact Nat.lt_of_lt_of_le hz (by decide), (kk.trans k11).trans k12, acc7 ++ [y11], G12, Abs.sub (a11.put (o := .lst (acc7 ++ [y11])) wr ⟨_, upd_same, (rv.append (RpL.one r11)).mono k12⟩) sb, j12⟩
        · have e' : j = us.length := by omega
          subst e'
          obtain ⟨G8, sb, j8⟩ := done1 acc7 G7 j7
          exact .inl ⟨w1.stops H7 G7 k7 a7 st7, k16.trans k7, acc7, G8, a7.sub sb, j8⟩
  · have e' : i = ts.length := by omega
    subst e'
    exact .inl ⟨w.stops H2 G2 k2 a2 st, f _ H2 (.ref D) G2 (k1.trans k2) a2 rfl (done acc G2 j2)⟩
theorem e_lc2 (hc : X.calm = true) (hN : X.N.Nodup) (hi : PI X tg iter (cI X.K qi)) (ok : BlkOk X.N X.env.scope scope own) (hv : ∀ i ∈ vs1, i ∈ own.map (·.2))
    (hg : ∀ (s : Shared) (H : Hp) (C : Addr) (cl : List (Str × Addr)) (fp : List Addr), PG (X.blk s H scope (compEnvC scope cl C X.env) fp) tg (cG X.K (own.map (·.2)) qg)) (ht : ∀ (s : Shared) (H : Hp) (C : Addr) (cl : List (Str × Addr)) (fp : List Addr), PTs (X.blk s H scope (compEnvC scope cl C X.env) fp) ifs (cT X.K qt))
    (hi1 : ∀ (s : Shared) (H : Hp) (C : Addr) (cl : List (Str × Addr)) (fp : List Addr), PI (X.blk s H scope (compEnvC scope cl C X.env) fp) tg1 iter1 (cI X.K qi1))
    (hg1 : ∀ (s : Shared) (H : Hp) (C : Addr) (cl : List (Str × Addr)) (fp : List Addr), PG (X.blk s H scope (compEnvC scope cl C X.env) fp) tg1 (cG X.K vs1 qg1)) (ht1 : ∀ (s : Shared) (H : Hp) (C : Addr) (cl : List (Str × Addr)) (fp : List Addr), PTs (X.blk s H scope (compEnvC scope cl C X.env) fp) ifs1 (cT X.K qt1))
    (he : ∀ (s : Shared) (H : Hp) (C : Addr) (cl : List (Str × Addr)) (fp : List Addr), PE (X.blk s H scope (compEnvC scope cl C X.env) fp) elt (cE X.K qel)) (hs : ∀ x, foldedSetIterable iter X.env x = pure x := by intro _; rfl) (hs1 : ∀ (env : PySem.Env) x, foldedSetIterable iter1 env x = pure x := by intro _ _; rfl) :
    PE X (.ListComp elt [⟨tg, iter, ifs, 0⟩, ⟨tg1, iter1, ifs1, 0⟩] scope pos) (cE X.K (qLc2 qi qg qt qi1 qg1 qt1 qel (own.map (·.2)) vs1)) := PE.wk (pe_lc2 hc hN hi ok hv hg ht hi1 hg1 ht1 he hs hs1) lc2_wk
theorem s_setLc2 {i : Nat} {y : Str} {py spos : Pos} (hc : X.calm = true) (hN : X.N.Nodup) (hy : X.N[i]? = some y) (hyl : X.env.scope.names.lookup y = some .local)
    (hsw : swapsWith (.ListComp elt [⟨tg, iter, ifs, 0⟩, ⟨tg1, iter1, ifs1, 0⟩] scope pos) (some (.Name y py)) spos.line X.env = pure true) (hi : PI X tg iter (cI X.K qi)) (ok : BlkOk X.N X.env.scope scope own) (hv : ∀ i ∈ vs1, i ∈ own.map (·.2))
    (hg : ∀ (s : Shared) (H : Hp) (C : Addr) (cl : List (Str × Addr)) (fp : List Addr), PG (X.blk s H scope (compEnvC scope cl C X.env) fp) tg (cG X.K (own.map (·.2)) qg)) (ht : ∀ (s : Shared) (H : Hp) (C : Addr) (cl : List (Str × Addr)) (fp : List Addr), PTs (X.blk s H scope (compEnvC scope cl C X.env) fp) ifs (cT X.K qt))
    (hi1 : ∀ (s : Shared) (H : Hp) (C : Addr) (cl : List (Str × Addr)) (fp : List Addr), PI (X.blk s H scope (compEnvC scope cl C X.env) fp) tg1 iter1 (cI X.K qi1))
    (hg1 : ∀ (s : Shared) (H : Hp) (C : Addr) (cl : List (Str × Addr)) (fp : List Addr), PG (X.blk s H scope (compEnvC scope cl C X.env) fp) tg1 (cG X.K vs1 qg1)) (ht1 : ∀ (s : Shared) (H : Hp) (C : Addr) (cl : List (Str × Addr)) (fp : List Addr), PTs (X.blk s H scope (compEnvC scope cl C X.env) fp) ifs1 (cT X.K qt1))
    (he : ∀ (s : Shared) (H : Hp) (C : Addr) (cl : List (Str × Addr)) (fp : List Addr), PE (X.blk s H scope (compEnvC scope cl C X.env) fp) elt (cE X.K qel)) (hs : ∀ x, foldedSetIterable iter X.env x = pure x := by intro _; rfl) (hs1 : ∀ (env : PySem.Env) x, foldedSetIterable iter1 env x = pure x := by intro _ _; rfl) :
    PS X (.Assign [.Name y py] (.ListComp elt [⟨tg, iter, ifs, 0⟩, ⟨tg1, iter1, ifs1, 0⟩] scope pos) spos) (cS X.K (qAsg (qLc2 qi qg qt qi1 qg1 qt1 qel (own.map (·.2)) vs1) (gNm i))) := PS.wk (ps_setLc2 hc hN hy hyl hsw hi ok hv hg ht hi1 hg1 ht1 he hs hs1) fun D σ H h => by
  obtain ⟨ρ, G, D', e, a, q, f⟩ := h
  exact lc2_wk σ H _ ⟨ρ, G, _, e, a, q, fun v H1 t G1 k1 a1 r1 q1 => f.nx _ H1 _ G1 k1 ((e.mono k1).put r1 i) a1 (putK_put q1)⟩
end
/-! ### behind an if: the ways joined -/
def qCut (t u : QS) : QS := fun D ρ G => ∃ P : REnv → Gp → Prop, t { D with nx := Wk P } ρ G ∧ ∀ ρ G, P ρ G → u D ρ G
theorem ss_cut {X : Cx} {st : Stmt} {rest : List Stmt} {q1 q2 : QS} (h1 : PS X st (cS X.K q1)) (h2 : PSs X rest (cS X.K q2)) : PSs X (st :: rest) (cS X.K (qCut q1 q2)) := PSs.wk (pss_cons h1 h2) fun D σ H h => by
  obtain ⟨ρ, G, D', e, a, ⟨P, q, r⟩, f⟩ := h
  exact ⟨ρ, G, _, e, a, q, ⟨fun σ' H' ρ' G' k e' a' ⟨ρ1, G1, le, sb, p⟩ => ⟨ρ1, G1, D', e'.le le, a'.sub sb, r ρ1 G1 p, f.from k⟩, f.rt, f.bk, f.ct⟩⟩
end Lw

set_option Elab.async false
set_option linter.all false
set_option maxRecDepth 100000
set_option maxHeartbeats 4000000
namespace Lw
open PySem PySem.Spec PyProof.Rows L2
/-! ### truths among whole numbers -/
section
variable {prog : Program} {w : World} {A : Around} {E : Value → Shared → Prop} {s : Shared}
theorem g_bi_add (b : Bool) (i : Int) (t : Tok) : Gives (Builtin.«int.__add__» ⟨[.bool b, .int i t], []⟩) (.int (b2i b + i)) :=
  .of_wp fun M A E s Q h => by obtain ⟨hp, g, d, tk, os⟩ := s; wp_walk; exact ⟨_, rfl, h⟩
theorem g_bi_sub (b : Bool) (i : Int) (t : Tok) : Gives (Builtin.«int.__sub__» ⟨[.bool b, .int i t], []⟩) (.int (b2i b - i)) :=
  .of_wp fun M A E s Q h => by obtain ⟨hp, g, d, tk, os⟩ := s; wp_walk; exact ⟨_, rfl, h⟩
theorem g_b_neg (b : Bool) : Gives (Builtin.«int.__neg__» ⟨[.bool b], []⟩) (.int (-b2i b)) :=
  .of_wp fun M A E s Q h => by obtain ⟨hp, g, d, tk, os⟩ := s; wp_walk; exact ⟨_, rfl, h⟩
theorem add_bi {b : Bool} {i : Int} {t : Tok} {Q : Value → Shared → Prop} (h : Q (.int (b2i b + i) s.toks) { s with toks := s.toks + 1 }) : wpAny (model prog w) A (binaryOp .Add (.bool b) (.int i t)) Q E s :=
  binaryOp_left_gives (op := .Add) (T := "bool") (U := "int") (by decide) (typeIs_bool' s b) (fun s' => typeIs_int s' i t) F.fills_bool_add F.fills_int_add PySem.isSubtype_int_bool F.slot_bool_add F.slot_int_radd F.entry_int_add (F.args_int_add_2 _ _)
    (g_bi_add b i t) trivial h
theorem sub_bi {b : Bool} {i : Int} {t : Tok} {Q : Value → Shared → Prop} (h : Q (.int (b2i b - i) s.toks) { s with toks := s.toks + 1 }) : wpAny (model prog w) A (binaryOp .Sub (.bool b) (.int i t)) Q E s :=
  binaryOp_left_gives (op := .Sub) (T := "bool") (U := "int") (by decide) (typeIs_bool' s b) (fun s' => typeIs_int s' i t) F.fills_bool_sub F.fills_int_sub PySem.isSubtype_int_bool F.slot_bool_sub F.slot_int_rsub F.entry_int_sub (F.args_int_sub_2 _ _)
    (g_bi_sub b i t) trivial h
theorem neg_b {b : Bool} {Q : Value → Shared → Prop} (h : Q (.int (-b2i b) s.toks) { s with toks := s.toks + 1 }) : wpAny (model prog w) A (unaryOp .USub (.bool b)) Q E s :=
  unaryOp_gives (op := .USub) (typeIs_bool' s b) rfl F.slot_bool_neg F.entry_int_neg (F.args_int_neg_1 _) (g_b_neg b) h
end
/-- a whole number or a truth, as a number -/
def numT : T → Option Int
  | .int i => some i
  | .bl b => some (b2i b)
  | _ => none
def fAddN : Q2 := fun x y G Q => match x, y with
  | .bl b, .int j => Q (.int (b2i b + j)) G
  | x, y => fAdd x y G Q
def fSubN : Q2 := fun x y G Q => match x, y with
  | .bl b, .int j => Q (.int (b2i b - j)) G
  | x, y => fSub x y G Q
def fNegN : Q1 := fun x G Q => match x with | .int i => Q (.int (-i)) G | .bl b => Q (.int (-b2i b)) G | _ => False
section
variable {X : Cx}
theorem o_addN : OpR X (binaryOp .Add) (c2 X.K fAddN) := by
  intro pins s σ H v w u u' KQ I rv rw' h2
  obtain ⟨x, y, G, Q, hx, hy, ha, hf, hk⟩ := h2
  unfold fAddN at hf
  split at hf
  · cases hx; cases hy
    cases rv
    obtain ⟨t, rfl⟩ := rw'
    exact add_bi ⟨.int _, H, I.tok _, ⟨_, rfl⟩, hk _ H (.int _) G (Tups.refl H) ha rfl hf⟩
  · exact o_add pins s σ H v w u u' KQ I rv rw' ⟨_, _, G, Q, hx, hy, ha, hf, hk⟩
theorem o_subN : OpR X (binaryOp .Sub) (c2 X.K fSubN) := by
  intro pins s σ H v w u u' KQ I rv rw' h2
  obtain ⟨x, y, G, Q, hx, hy, ha, hf, hk⟩ := h2
  unfold fSubN at hf
  split at hf
  · cases hx; cases hy
    cases rv
    obtain ⟨t, rfl⟩ := rw'
    exact sub_bi ⟨.int _, H, I.tok _, ⟨_, rfl⟩, hk _ H (.int _) G (Tups.refl H) ha rfl hf⟩
  · exact o_sub pins s σ H v w u u' KQ I rv rw' ⟨_, _, G, Q, hx, hy, ha, hf, hk⟩
theorem un_negN : UnR X (unaryOp .USub) (c1 X.K fNegN) := by
  intro pins s σ H v u KQ I rv h
  obtain ⟨x, G, Q, hx, ha, hf, hk⟩ := h
  unfold fNegN at hf
  split at hf
  · cases hx
    obtain ⟨t, rfl⟩ := rv
    exact neg_int ⟨.int _, H, I.tok _, ⟨_, rfl⟩, hk _ H (.int _) G (Tups.refl H) ha rfl hf⟩
  · cases hx
    cases rv
    exact neg_b ⟨.int _, H, I.tok _, ⟨_, rfl⟩, hk _ H (.int _) G (Tups.refl H) ha rfl hf⟩
  · exact hf.elim
theorem e_negN {a : Expr} {qe : QE} {pos : Pos} (ha : PE X a (cE X.K qe)) : PE X (.UnaryOp .USub a pos) (cE X.K (qUn fNegN qe)) := PE.wk (pe_un un_negN ha) fun σ H KQ h => by
  obtain ⟨ρ, G, Q, e, a, q, f⟩ := h
  refine ⟨ρ, G, _, e, a, q, fun v H1 t G1 k1 a1 r1 q1 => ?_⟩
  exact ⟨t, G1, Q, r1, a1, q1, f.from k1⟩
/-! ### str(x) -/
def fStr : QC := fun ts G Q => match ts with
  | [.int i] => i.natAbs.log2 < 1920 ∧ Q (.str (toString i)) G
  | [.bl b] => Q (.str (if b then "True" else "False")) G
  | [.str x] => Q (.str x) G
  | _ => False
theorem b_str : CallR X (.type "str") (cC X.K fStr) := by
  intro pins s σ H vs us KQ I r h
  obtain ⟨ts, G, Q, hr, ha, hf, hk⟩ := h
  unfold fStr at hf
  split at hf
  · obtain ⟨v, rfl, h1⟩ := rpl1 hr
    cases h1
    exact call_str_int pins s σ H _ us KQ I r ⟨_, rfl, hf.1, hk _ H (.str _) G (Tups.refl H) ha rfl hf.2⟩
  · obtain ⟨v, rfl, h1⟩ := rpl1 hr
    cases h1
    obtain ⟨u, rfl, ru⟩ := vals1 r
    cases ru
    exact PySem.P.str_of_bool ⟨.str _, H, I.tok _, ⟨_, rfl⟩, hk _ H (.str _) G (Tups.refl H) ha rfl hf⟩
  · obtain ⟨v, rfl, h1⟩ := rpl1 hr
    cases h1
    obtain ⟨u, rfl, t, rfl⟩ := vals1 r
    exact PySem.P.str_of_str ⟨.str _, H, I, ⟨_, rfl⟩, hk _ H (.str _) G (Tups.refl H) ha rfl hf⟩
  · exact hf.elim
/-! ### s.upper() -/
def qUpper (qo : QE) : QE := fun ρ G Q => qo ρ G fun x G1 => match x with | .str a => a.length ≤ 5592405 ∧ Q (.str (Txt.upper a)) G1 | _ => False
theorem e_upper {o : Expr} {qo : QE} {apos pos : Pos} (ho : PE X o (cE X.K qo)) (hbase : attributeBase o "upper" X.env (eval o X.env) = eval o X.env := by rfl) (hline : (apos.endLine == pos.line) = true := by rfl) :
    PE X (.Call (.Attribute o "upper" apos) [] [] pos) (cE X.K (qUpper qo)) := PE.wk (pe_upper ho hbase hline) fun σ H KQ h => by
  obtain ⟨ρ, G, Q, e, a, q, f⟩ := h
  refine ⟨ρ, G, _, e, a, q, fun v H1 t G1 k1 a1 r1 q1 => ?_⟩
  split at q1
  · cases r1
    exact ⟨⟨_, rfl⟩, _, rfl, rfl, q1.1, f _ H1 (.str _) G1 k1 a1 rfl q1.2⟩
  · exact q1.elim
/-! ### == of lists of unlike lengths asks nothing of the items -/
def fEqL (neg : Bool) : Q2 := fun x y G Q => match x, y with
  | .ref a, .ref b => ∃ xs ys, G a = some (.lst xs) ∧ G b = some (.lst ys) ∧ (xs.length = ys.length → eqOks xs = true ∧ eqOks ys = true) ∧ Q (.bl (neg != teqs xs ys)) G
  | x, y => fEq neg x y G Q
theorem teqs_len : ∀ {xs ys : List T}, xs.length ≠ ys.length → teqs xs ys = false
  | [], [], h => absurd rfl h
  | [], _ :: _, _ => rfl
  | _ :: _, [], _ => rfl
  | x :: xs, y :: ys, h => by
    show (teq x y && teqs xs ys) = false
    rw [teqs_len (xs := xs) (ys := ys) (fun e => h (by simp [e])), Bool.and_false]
theorem o_eqL (hu : X.A.units + 64 < cLine) : OpR X (compareOp .Eq) (c2 X.K (fEqL false)) := by
  intro pins s σ H v w u u' KQ I rv rw' h2
  obtain ⟨x, y, G, Q, hx, hy, ha, hf, hk⟩ := h2
  unfold fEqL at hf
  split at hf
  · obtain ⟨xs, ys, g1, g2, hl, q⟩ := hf
    by_cases e : xs.length = ys.length
    · exact o_eq hu pins s σ H v w u u' KQ I rv rw' ⟨_, _, G, Q, hx, hy, ha, ⟨xs, ys, g1, g2, (hl e).1, (hl e).2, q⟩, hk⟩
    · rw [teqs_len e] at q
      cases hx; cases hy
      obtain ⟨vs, hp, r⟩ := ha _ _ g1
      obtain ⟨ws, hp', r'⟩ := ha _ _ g2
      cases rv; cases rw'
      obtain ⟨its, r1, p1, _⟩ := I.list (SqL.of hp)
      obtain ⟨its2, r2, p2, _⟩ := I.list (SqL.of hp')
      refine SeqAt.eq_list_lengthsAt p1.isList p2.isList ?_ (by omega) ⟨.bl false, H, I, rfl, hk _ H (.bl _) G (Tups.refl H) ha rfl q⟩
      have e1 : its.toArray.size = xs.length := by rw [List.size_toArray, ← r1.length, r.length]
      have e2 : its2.toArray.size = ys.length := by rw [List.size_toArray, ← r2.length, r'.length]
      rw [e1, e2]
      simpa using e
  · exact o_eq hu pins s σ H v w u u' KQ I rv rw' ⟨_, _, G, Q, hx, hy, ha, hf, hk⟩
theorem o_neL (hu : X.A.units + 64 < cLine) : OpR X (compareOp .NotEq) (c2 X.K (fEqL true)) := by
  intro pins s σ H v w u u' KQ I rv rw' h2
  obtain ⟨x, y, G, Q, hx, hy, ha, hf, hk⟩ := h2
  unfold fEqL at hf
  split at hf
  · obtain ⟨xs, ys, g1, g2, hl, q⟩ := hf
    by_cases e : xs.length = ys.length
    · exact o_ne hu pins s σ H v w u u' KQ I rv rw' ⟨_, _, G, Q, hx, hy, ha, ⟨xs, ys, g1, g2, (hl e).1, (hl e).2, q⟩, hk⟩
    · rw [teqs_len e] at q
      cases hx; cases hy
      obtain ⟨vs, hp, r⟩ := ha _ _ g1
      obtain ⟨ws, hp', r'⟩ := ha _ _ g2
      cases rv; cases rw'
      obtain ⟨its, r1, p1, _⟩ := I.list (SqL.of hp)
      obtain ⟨its2, r2, p2, _⟩ := I.list (SqL.of hp')
      refine SeqAt.RcNeAt.lists_lengths p1.isList p2.isList ?_ (by omega) X.prog X.w _ _ ⟨.bl true, H, I, rfl, hk _ H (.bl _) G (Tups.refl H) ha rfl q⟩
      have e1 : its.toArray.size = xs.length := by rw [List.size_toArray, ← r1.length, r.length]
      have e2 : its2.toArray.size = ys.length := by rw [List.size_toArray, ← r2.length, r'.length]
      rw [e1, e2]
      simpa using e
  · exact o_ne hu pins s σ H v w u u' KQ I rv rw' ⟨_, _, G, Q, hx, hy, ha, hf, hk⟩
/-! ### (a, b, ..) = a list -/
def gUl (n : Nat) (t : QGs) : QG := fun x ρ G Q => match x with | .ref a => ∃ ts, G a = some (.lst ts) ∧ lenIs n ts = true ∧ t ts ρ G Q | _ => False
theorem g_unl {es : List Expr} {own : List Nat} {qgs : QGs} {pos : Pos} {kk : Nat} {n : Nat} (hc : X.calm = true) (h : PGs X es (cGs X.K own qgs)) (hn : (assignEach es X.env).length = n := by rfl) (hst : (assignEach es X.env).findIdx? (·.1) = none := by rfl) :
    PG X (.Tuple es kk pos) (cG X.K own (gUl n qgs)) := PG.wk (pg_unl hc h hn hst) fun v σ H KQ h => by
  obtain ⟨t, ρ, G, Q, r, e, a, q, f⟩ := h
  unfold gUl at q
  split at q
  · obtain ⟨ts, hg, hl, q⟩ := q
    cases r
    obtain ⟨vs, hp, r⟩ := a _ _ hg
    exact ⟨_, vs, rfl, SqL.of hp, by rw [r.length]; exact lenIs_len hl, _, ρ, G, Q, r, e, a, q, f⟩
  · exact q.elim
end
end Lw

set_option Elab.async false
set_option linter.all false
set_option maxRecDepth 100000
set_option maxHeartbeats 4000000
namespace Lw
open PySem PySem.Spec PyProof.Rows L2
/-! ### instances of a class: its name, the names of its fields, their values -/
structure ClsAt (K : PySem.W.Frag) (x : Str) (ns : List Str) : Prop where
  ex : ∃ C, PySem.W.nsIn K mainGlobals x = some (some (.ref C)) ∧ Cls K C ∧ ∀ f ∈ ns, NoAttr K C f
theorem lookup_zip : ∀ {ns : List Str} {vs : List V} {j : Nat} {f : Str} {v : V}, ns.Nodup → ns[j]? = some f → vs[j]? = some v → (ns.zip vs).lookup f = some v
  | [], _, _, _, _, _, h, _ => by simp at h
  | n :: ns, [], _, _, _, _, _, h => by simp at h
  | n :: ns, w :: vs, 0, f, v, _, h1, h2 => by
    simp only [List.getElem?_cons_zero, Option.some.injEq] at h1 h2
    subst h1 h2
    rw [List.zip_cons_cons, List.lookup_cons_self]
  | n :: ns, w :: vs, j + 1, f, v, nd, h1, h2 => by
    simp only [List.getElem?_cons_succ] at h1 h2
    obtain ⟨n1, n2⟩ := List.nodup_cons.mp nd
    have hne : f ≠ n := fun e => n1 (by rw [← e]; exact List.mem_of_getElem? h1)
    rw [List.zip_cons_cons, List.lookup_cons, show (f == n) = false from by simpa using hne]
    exact lookup_zip n2 h1 h2
theorem lookup_zip_none : ∀ {ns : List Str} {vs : List V} {f : Str}, f ∉ ns → (ns.zip vs).lookup f = none
  | [], _, _, _ => rfl
  | n :: ns, [], _, _ => rfl
  | n :: ns, w :: vs, f, h => by
    have hne : f ≠ n := fun e => h (by rw [e]; exact List.mem_cons_self)
    rw [List.zip_cons_cons, List.lookup_cons, show (f == n) = false from by simpa using hne]
    exact lookup_zip_none fun m => h (List.mem_cons_of_mem _ m)
def putX {α : Type} : List α → Nat → α → Option (List α)
  | [], 0, t => some [t]
  | [], _ + 1, _ => none
  | _ :: l, 0, t => some (t :: l)
  | a :: l, n + 1, t => (putX l n t).map (a :: ·)
theorem putF_zip : ∀ {ns : List Str} {vs us : List V} {j : Nat} {f : Str} {v : V}, ns.Nodup → ns[j]? = some f → putX vs j v = some us → putF f v (ns.zip vs) = ns.zip us
  | [], _, _, _, _, _, _, h, _ => by simp at h
  | n :: ns, [], us, 0, f, v, _, h1, h2 => by
    simp only [List.getElem?_cons_zero, Option.some.injEq] at h1
    subst h1
    simp only [putX, Option.some.injEq] at h2
    subst h2
    rw [List.zip_nil_right]
    show [(n, v)] = (n, v) :: ns.zip []
    rw [List.zip_nil_right]
  | n :: ns, [], us, j + 1, f, v, _, _, h2 => by simp [putX] at h2
  | n :: ns, w :: vs, us, 0, f, v, _, h1, h2 => by
    simp only [List.getElem?_cons_zero, Option.some.injEq] at h1
    subst h1
    simp only [putX, Option.some.injEq] at h2
    subst h2
    show (if n = n then _ else _) = _
    rw [if_pos rfl]; rfl
  | n :: ns, w :: vs, us, j + 1, f, v, nd, h1, h2 => by
    simp only [List.getElem?_cons_succ] at h1
    obtain ⟨n1, n2⟩ := List.nodup_cons.mp nd
    simp only [putX, Option.map_eq_some_iff] at h2
    obtain ⟨us', h2, rfl⟩ := h2
    have hne : ¬ n = f := fun e => n1 (by rw [e]; exact List.mem_of_getElem? h1)
    show (if n = f then _ else (n, w) :: putF f v (ns.zip vs)) = _
    rw [if_neg hne, putF_zip n2 h1 h2]; rfl
theorem putX_len {α : Type} : ∀ {vs us : List α} {j : Nat} {v : α}, putX vs j v = some us → us.length ≤ vs.length + 1
  | [], us, 0, v, h => by simp only [putX, Option.some.injEq] at h; subst h; simp
  | [], us, j + 1, v, h => by simp [putX] at h
  | w :: vs, us, 0, v, h => by simp only [putX, Option.some.injEq] at h; subst h; simp
  | w :: vs, us, j + 1, v, h => by
    simp only [putX, Option.map_eq_some_iff] at h
    obtain ⟨us', h, rfl⟩ := h
    have := putX_len h
    simp; omega
theorem RpL.putX {K : PySem.W.Frag} {H : Hp} {t : T} {v : V} (h : Rp K H t v) : ∀ {ts us : List T} {vs : List V} {j : Nat}, RpL K H ts vs → Lw.putX ts j t = some us → ∃ ws, Lw.putX vs j v = some ws ∧ RpL K H us ws
  | [], us, _, 0, r, e => by
    rw [show _ = [] from r]
    simp only [Lw.putX, Option.some.injEq] at e
    subst e
    exact ⟨[v], rfl, RpL.one h⟩
  | [], us, _, j + 1, r, e => by simp [Lw.putX] at e
  | u :: ts, us, _, 0, ⟨w, r, e1, hw, hr⟩, e => by
    subst e1
    simp only [Lw.putX, Option.some.injEq] at e
    subst e
    exact ⟨v :: r, rfl, v, r, rfl, h, hr⟩
  | u :: ts, us, _, j + 1, ⟨w, r, e1, hw, hr⟩, e => by
    subst e1
    simp only [Lw.putX, Option.map_eq_some_iff] at e
    obtain ⟨us', e, rfl⟩ := e
    obtain ⟨ws, q1, q2⟩ := RpL.putX h hr e
    exact ⟨w :: ws, by simp [Lw.putX, q1], w, ws, rfl, hw, q2⟩
section
variable {X : Cx} {o e value : Expr} {es : List Expr} {x f m : Str} {ns : List Str} {j k : Nat} {qo qv : QE} {qa : QA} {sp : QSp} {ps : List Str} {pos pos' apos p : Pos}
def qFld (x : Str) (ns : List Str) (j : Nat) (qo : QE) : QE := fun ρ G Q => qo ρ G fun o G1 => match o with
  | .ref a => ∃ ts, G1 a = some (.ins x ns ts) ∧ (match nth ts j with | some t => Q t G1 | none => False)
  | _ => False
theorem e_fld (c : ClsAt X.K x ns) (hj : ns[j]? = some f) (nd : ns.Nodup) (ho : PE X o (cE X.K qo)) (hb : attributeBase o f X.env (eval o X.env) = eval o X.env := by rfl) : PE X (.Attribute o f pos) (cE X.K (qFld x ns j qo)) :=
  PE.wk (pe_fld ho hb) fun σ H KQ h => by
    obtain ⟨ρ, G, Q, e, a, q, g⟩ := h
    refine ⟨ρ, G, _, e, a, q, fun v H1 t G1 k1 a1 r1 q1 => ?_⟩
    split at q1
    · obtain ⟨ts, hg, q1⟩ := q1
      cases r1
      obtain ⟨C, dx, vs, hC, hp, r⟩ := a1 _ _ hg
      obtain ⟨C', hC', cc, na⟩ := c.ex
      rw [hC] at hC'
      cases hC'
      split at q1
      · rename_i t ht
        rw [nth_get] at ht
        obtain ⟨v, hv, rv⟩ := r.at ht
        exact ⟨_, C, dx, _, v, rfl, hp, cc, na f (List.mem_of_getElem? hj), lookup_zip nd hj hv, g v H1 t G1 k1 a1 rv q1⟩
      · exact q1.elim
    · exact q1.elim
def qSetFld (x : Str) (ns : List Str) (j : Nat) (qo qv : QE) : QS := fun D ρ G => qv ρ G fun t G1 => qo ρ G1 fun o G2 => match o with
  | .ref a => ∃ ts, G2 a = some (.ins x ns ts) ∧ (match putX ts j t with | some us => D.nx ρ (gput G2 a (.ins x ns us)) | none => False)
  | _ => False
theorem s_fld (c : ClsAt X.K x ns) (hj : ns[j]? = some f) (nd : ns.Nodup) (ho : PE X o (cE X.K qo)) (hv : PE X value (cE X.K qv)) (hn : ns.length < 1000 := by decide)
    (hs : swapsWith value (some (.Attribute o f pos')) pos.line X.env = pure false := by rfl) : PS X (.Assign [.Attribute o f pos'] value pos) (cS X.K (qSetFld x ns j qo qv)) := PS.wk (ps_fld ho hv hs) fun D σ H h => by
  obtain ⟨ρ, G, D', e, a, q, g⟩ := h
  refine ⟨ρ, G, _, e, a, q, fun v H1 t G1 k1 a1 r1 q1 => ?_⟩
  refine ⟨ρ, G1, _, e.mono k1, a1, q1, fun w H2 u G2 k2 a2 r2 q2 => ?_⟩
  split at q2
  · obtain ⟨ts, hg, q2⟩ := q2
    cases r2
    obtain ⟨C, dx, vs, hC, hp, r⟩ := a2 _ _ hg
    obtain ⟨C', hC', cc, na⟩ := c.ex
    rw [hC] at hC'
    cases hC'
    split at q2
    · rename_i us hu
      obtain ⟨ws, p1, p2⟩ := RpL.putX (r1.mono k2) r hu
      have wr : Wr H2 _ := Wr.of hp (fun _ z => by cases z) (fun _ _ z => by cases z)
      have k := Tups.set (o := .ins C dx (putF f v (ns.zip vs))) wr
      refine ⟨_, C, dx, _, rfl, hp, cc, na f (List.mem_of_getElem? hj), Nat.lt_of_le_of_lt (by rw [List.length_zip]; exact Nat.min_le_left _ _) hn, ?_⟩
      exact g.nx σ _ ρ _ ((k1.trans k2).trans k) (e.mono ((k1.trans k2).trans k)) (a2.put (o := .ins x ns us) wr ⟨C, dx, ws, hC, by rw [upd_same, putF_zip nd hj p1], RpL.mono k _ _ p2⟩) q2
    · exact q2.elim
  · exact q2.elim
/-! ### methods -/
structure MethOk (P : Program) (w : World) (K : PySem.W.Frag) (mg : Str → Option Value) (base : Heap) (k : Nat) (x m : Str) (ps : List Str) (sp : QSp) : Prop where
  ex : ∃ C f fd, PySem.W.nsIn K mainGlobals x = some (some (.ref C)) ∧ Cls K C ∧ Meth K C m f ∧ FnOk P w K mg base CX0 k f fd ps (cSp K sp) ∧ L2.Binds K fd ps []
structure MethAt (K : PySem.W.Frag) (x m qual : Str) (st : Stmt) (ps : List Str) : Prop where
  ex : ∃ C f fd, PySem.W.nsIn K mainGlobals x = some (some (.ref C)) ∧ Cls K C ∧ Meth K C m f ∧ Fun K m qual st f fd ∧ L2.Binds K fd ps []
structure MkOk (P : Program) (w : World) (K : PySem.W.Frag) (mg : Str → Option Value) (base : Heap) (k : Nat) (x : Str) (ps : List Str) (sp : QSp) : Prop where
  ex : ∃ C f fd, PySem.W.nsIn K mainGlobals x = some (some (.ref C)) ∧ mg x = some (.ref C) ∧ Mk K C f ∧ FnOk P w K mg base CX0 k f fd ps (cSp K sp) ∧ L2.Binds K fd ps []
structure MkAt (K : PySem.W.Frag) (mg : Str → Option Value) (x qual : Str) (st : Stmt) (ps : List Str) : Prop where
  ex : ∃ C f fd, PySem.W.nsIn K mainGlobals x = some (some (.ref C)) ∧ mg x = some (.ref C) ∧ Mk K C f ∧ Fun K "__init__" qual st f fd ∧ L2.Binds K fd ps []
end
section
variable {P : Program} {w : World} {K : PySem.W.Frag} {mg : Str → Option Value} {base : Heap}
theorem okm {x m qual : Str} {st : Stmt} {N ps : List Str} {k : Nat} {sp : QSp} {q : QS} (F : MethAt K x m qual st ps) (S : FnScope N ps (defScope st)) (len : ∀ ts G Q E, sp ts G Q E → ts.length = ps.length)
    (der : ∀ (f : Addr) (cdv : Value) (A : Around) (outer : List PySem.Env) (s : Shared) (H : Hp) (E : XK), Room k (A.deeper (envOfC qual (defScope st) s.heap.objs.size f cdv)) → PSs (cxOf CX0 P w K mg base N qual (defScope st) f cdv A outer s H E).nox (defBody st) (cS K q))
    (run : ∀ ts G Q E, sp ts G Q E → normK (startT N ts) fun ρ => q (endOf Q) ρ G) : MethOk P w K mg base (k + 1) x m ps sp := by
  obtain ⟨C, f, fd, hC, c, hm, F, b⟩ := F.ex
  exact ⟨C, f, fd, hC, c, hm, okq F S len (der f) run, b⟩
theorem oki {x qual : Str} {st : Stmt} {N ps : List Str} {k : Nat} {sp : QSp} {q : QS} (F : MkAt K mg x qual st ps) (S : FnScope N ps (defScope st)) (len : ∀ ts G Q E, sp ts G Q E → ts.length = ps.length)
    (der : ∀ (f : Addr) (cdv : Value) (A : Around) (outer : List PySem.Env) (s : Shared) (H : Hp) (E : XK), Room k (A.deeper (envOfC qual (defScope st) s.heap.objs.size f cdv)) → PSs (cxOf CX0 P w K mg base N qual (defScope st) f cdv A outer s H E).nox (defBody st) (cS K q))
    (run : ∀ ts G Q E, sp ts G Q E → normK (startT N ts) fun ρ => q (endOf Q) ρ G) : MkOk P w K mg base (k + 1) x ps sp := by
  obtain ⟨C, f, fd, hC, hm, mk, F, b⟩ := F.ex
  exact ⟨C, f, fd, hC, hm, mk, okq F S len (der f) run, b⟩
end
section
variable {X : Cx} {o e value : Expr} {es : List Expr} {x f m : Str} {ns : List Str} {j k : Nat} {qo qv : QE} {qa : QA} {sp : QSp} {ps : List Str} {pos pos' apos p : Pos}
def qMeth (x : Str) (ns : List Str) (sp : QSp) (qo : QE) (qa : QA) : QE := fun ρ G Q => qo ρ G fun o G1 => match o with
  | .ref a => (∃ ts, G1 a = some (.ins x ns ts)) ∧ qa ρ G1 fun us G2 => sp (.ref a :: us) G2 Q X0
  | _ => False
theorem e_meth (D : MethOk X.prog X.w X.K X.mg X.base k x m ps sp) (hr : Room k X.A) (hm : m ∉ ns) {pl : Sem Bool} (ho : PE X o (cE X.K qo)) (ha : PA X (e :: es) (cA X.K qa))
    (hst : starEach (e :: es) X.env = (false, eval e X.env) :: starEach es X.env := by rfl) (hpl : (backTo pos (starEach es X.env)).any (·.1) = false := by rfl)
    (ht : eval (.Call (.Attribute o m apos) (e :: es) [] pos) X.env = (do
      let ov ← eval o X.env
      standAt apos.atName
      let (f, first) ← holding [ov] (getMethod ov m pl)
      callWith pos f first (backTo pos (starEach (e :: es) X.env)) (backToKw pos (keywordEach [] X.env))) := by rfl) :
    PE X (.Call (.Attribute o m apos) (e :: es) [] pos) (cE X.K (qMeth x ns sp qo qa)) := by
  obtain ⟨C, f, fd, hC, c, hmm, F, b⟩ := D.ex
  refine PE.wk (pe_meth ho c hmm F hr b .nil pass0 ha hst hpl ht) fun σ H KQ h => ?_
  obtain ⟨ρ, G, Q, e, a, q, g⟩ := h
  refine ⟨ρ, G, _, e, a, q, fun v H1 t G1 k1 a1 r1 q1 => ?_⟩
  split at q1
  · obtain ⟨⟨ts, hg⟩, q1⟩ := q1
    cases r1
    obtain ⟨C', dx, vs, hC', hp, r⟩ := a1 _ _ hg
    rw [hC'] at hC
    cases hC
    refine ⟨_, dx, _, rfl, hp, lookup_zip_none hm, ρ, G1, _, e.mono k1, a1, q1, fun vs2 H2 us G2 k2 a2 r2 q2 => ?_⟩
    exact ⟨_, G2, Q, X0, by rw [List.append_nil]; exact ⟨_, _, rfl, rfl, r2⟩, a2, q2, g.from (k1.trans k2), folx0⟩
  · exact q1.elim
theorem e_meth0 (D : MethOk X.prog X.w X.K X.mg X.base k x m ps sp) (hr : Room k X.A) (hm : m ∉ ns) {pl : Sem Bool} (ho : PE X o (cE X.K qo))
    (ht : eval (.Call (.Attribute o m apos) [] [] pos) X.env = (do
      let ov ← eval o X.env
      standAt apos.atName
      let (f, first) ← holding [ov] (getMethod ov m pl)
      callWith pos f first (backTo pos (starEach [] X.env)) (backToKw pos (keywordEach [] X.env))) := by rfl) :
    PE X (.Call (.Attribute o m apos) [] [] pos) (cE X.K (qMeth x ns sp qo qNil)) := by
  obtain ⟨C, f, fd, hC, c, hmm, F, b⟩ := D.ex
  refine PE.wk (pe_meth0 ho c hmm F hr b .nil pass0 ht) fun σ H KQ h => ?_
  obtain ⟨ρ, G, Q, e, a, q, g⟩ := h
  refine ⟨ρ, G, _, e, a, q, fun v H1 t G1 k1 a1 r1 q1 => ?_⟩
  split at q1
  · obtain ⟨⟨ts, hg⟩, q1⟩ := q1
    cases r1
    obtain ⟨C', dx, vs, hC', hp, r⟩ := a1 _ _ hg
    rw [hC'] at hC
    cases hC
    refine ⟨_, dx, _, rfl, hp, lookup_zip_none hm, ?_⟩
    exact ⟨[.ref _], G1, Q, X0, ⟨_, _, rfl, rfl, rfl⟩, a1, q1, g.from k1, folx0⟩
  · exact q1.elim
def qMake (x : Str) (ns : List Str) (sp : QSp) (qa : QA) : QE := fun ρ G Q => qa ρ G fun ts G1 => ∀ p, G1 p = none → sp (.ref p :: ts) (gput G1 p (.ins x ns [])) (fun t G2 => t = .non ∧ Q (.ref p) G2) X0
theorem e_make (D : MkOk X.prog X.w X.K X.mg X.base k x ps sp) (hr : Room (k + 1) X.A) (hg : Gl X x) (ha : PA X (e :: es) (cA X.K qa)) (hdb : (x == ("__debug__" : Str)) = false := by decide)
    (he : starEach (e :: es) X.env = (false, eval e X.env) :: starEach es X.env := by rfl) (hpl : (backTo pos (starEach es X.env)).any (·.1) = false := by rfl) : PE X (.Call (.Name x p) (e :: es) [] pos) (cE X.K (qMake x ns sp qa)) := by
  obtain ⟨C, f, fd, hC, hm, mk, F, b⟩ := D.ex
  refine PE.wk (pe_make mk F hr hg hm b .nil pass0 ha hdb he hpl) fun σ H KQ h => ?_
  obtain ⟨ρ, G, Q, e, a, q, g⟩ := h
  refine ⟨ρ, G, _, e, a, q, fun vs H1 ts G1 k1 a1 r1 q1 => fun y dx hy hdx hne => ?_⟩
  have n1 : upd H1 dx (.own y) y = none := by rw [upd_ne (Ne.symm hne)]; exact hy
  have k2 : Tups H1 (upd H1 dx (.own y)) := Tups.new hdx
  have k3 : Tups (upd H1 dx (.own y)) (upd (upd H1 dx (.own y)) y (.ins C dx [])) := Tups.new n1
  have a2 := a1.grow (u := .own y) hdx
  have a3 : Abs X.K _ (gput G1 y (.ins x ns [])) := a2.put (u := .ins C dx []) (o := .ins x ns []) ⟨fun xs z => (by rw [n1] at z; cases z), fun o xs z => (by rw [n1] at z; cases z)⟩ ⟨C, dx, [], hC, by rw [upd_same, List.zip_nil_right], rfl⟩
  refine ⟨.ref y :: ts, _, _, X0, by rw [List.append_nil]; exact ⟨_, _, rfl, rfl, RpL.mono (k2.trans k3) _ _ r1⟩, a3, q1 y (a1.free hy), fun v H' t G' k4 a4 r4 q4 => ?_, folx0⟩
  obtain ⟨e1, q4⟩ := q4
  subst e1
  exact ⟨r4, g (.ref y) H' (.ref y) G' (k1.trans ((k2.trans k3).trans k4)) a4 rfl q4⟩
end
section
variable {K : PySem.W.Frag} {mg : Str → Option Value} {x m qual : Str} {st : Stmt} {ps : List Str} {C f : Addr} {oc : Value} {od an : Option Addr} {osl : Array (Option Value)} {kV doc pm cdv ct : Value}
theorem methAt_mk (hC : PySem.W.nsIn K mainGlobals x = some (some (.ref C))) (c : Cls K C) (a : PySem.W.findIn K (.ref C) m = some (some (.ref f))) (i : PySem.W.isFn K (.ref f) = true)
    (l : K.lookup f = some ⟨oc, od, .func (PySem.W.fnOf m qual (defArgs st) (defBody st) (defScope st) .none kV doc pm an cdv ct), osl⟩) (cc : PySem.W.codeIn K cdv qual = true) (k : PySem.W.keepIn K (.ref f) = true)
    (hb : ∀ (kV doc pm : Value) (an : Option Addr) (cdv ct : Value) (us : List Value), us.length = ps.length → bindArgs (PySem.W.fnOf m qual (defArgs st) (defBody st) (defScope st) .none kV doc pm an cdv ct) ⟨us, []⟩ = pure (ps.zip us)) : MethAt K x m qual st ps :=
  have F := fun_mk (st := st) l cc k
  ⟨⟨C, f, _, hC, c, ⟨a, i, k⟩, F, F.binds hb⟩⟩
theorem mkAt_mk (hC : PySem.W.nsIn K mainGlobals x = some (some (.ref C))) (hm : mg x = some (.ref C)) (mk : PySem.W.makesIn K C = true) (kc : PySem.W.keepIn K (.ref C) = true) (a : PySem.W.findIn K (.ref C) "__init__" = some (some (.ref f))) (i : PySem.W.isFn K (.ref f) = true)
    (l : K.lookup f = some ⟨oc, od, .func (PySem.W.fnOf "__init__" qual (defArgs st) (defBody st) (defScope st) .none kV doc pm an cdv ct), osl⟩) (cc : PySem.W.codeIn K cdv qual = true) (k : PySem.W.keepIn K (.ref f) = true)
    (hb : ∀ (kV doc pm : Value) (an : Option Addr) (cdv ct : Value) (us : List Value), us.length = ps.length → bindArgs (PySem.W.fnOf "__init__" qual (defArgs st) (defBody st) (defScope st) .none kV doc pm an cdv ct) ⟨us, []⟩ = pure (ps.zip us)) : MkAt K mg x qual st ps :=
  have F := fun_mk (st := st) l cc k
  ⟨⟨C, f, _, hC, hm, ⟨mk, a, i, kc⟩, F, F.binds hb⟩⟩
end
end Lw

set_option Elab.async false
set_option linter.all false
set_option maxRecDepth 100000
set_option maxHeartbeats 4000000
namespace Lw
open PySem PySem.Spec PyProof.Rows L2
/-! ### dicts with keys that are whole numbers or texts -/
def keyT : T → Option Key
  | .int i => some (.inl i)
  | .str x => some (.inr x)
  | _ => none
def kT : Key → T
  | .inl i => .int i
  | .inr x => .str x
theorem keyT_rp {K : PySem.W.Frag} {H : Hp} {t : T} {v : V} {k : Key} (h : keyT t = some k) (r : Rp K H t v) : v = kV k := by
  cases t <;> simp only [keyT, Option.some.injEq, reduceCtorEq] at h <;> (subst h; exact r)
section
variable {κ : Type} [DecidableEq κ]
def valT (kvs : List (κ × T)) (k : κ) : Option T := (kvs.find? fun kv => decide (kv.1 = k)).map (·.2)
def putT (kvs : List (κ × T)) (k : κ) (t : T) : List (κ × T) := if (kvs.any fun kv => decide (kv.1 = k)) = true then kvs.map (fun kv => if kv.1 = k then (kv.1, t) else kv) else kvs ++ [(k, t)]
theorem RpK.val {K : PySem.W.Frag} {H : Hp} {k : κ} : ∀ {ps : List (κ × T)} {ws : List (κ × V)}, RpK K H ps ws → (valV ws k).isSome = (valT ps k).isSome ∧ ∀ t, valT ps k = some t → ∃ v, valV ws k = some v ∧ Rp K H t v
  | [], _, h => by
    rw [show _ = [] from h]
    exact ⟨rfl, fun t z => by simp [valT] at z⟩
  | p :: ps, _, ⟨v, r, e, h, hr⟩ => by
    subst e
    by_cases c : p.1 = k
    · have e1 : valV ((p.1, v) :: r) k = some v := valV_pos c
      have e2 : valT (p :: ps) k = some p.2 := by simp [valT, c]
      rw [e1, e2]
      exact ⟨rfl, fun t z => by cases z; exact ⟨v, rfl, h⟩⟩
    · have e1 : valV ((p.1, v) :: r) k = valV r k := valV_neg c
      have e2 : valT (p :: ps) k = valT ps k := by simp [valT, c]
      rw [e1, e2]
      exact RpK.val hr
theorem RpK.len {K : PySem.W.Frag} {H : Hp} : ∀ {ps : List (κ × T)} {ws : List (κ × V)}, RpK K H ps ws → ws.length = ps.length
  | [], _, h => by rw [show _ = [] from h]; rfl
  | p :: ps, _, ⟨v, r, e, h, hr⟩ => by rw [e, List.length_cons, RpK.len hr]; rfl
theorem RpK.any {K : PySem.W.Frag} {H : Hp} {k : κ} : ∀ {ps : List (κ × T)} {ws : List (κ × V)}, RpK K H ps ws → (ws.any fun kv => decide (kv.1 = k)) = (ps.any fun kv => decide (kv.1 = k))
  | [], _, h => by rw [show _ = [] from h]; rfl
  | p :: ps, _, ⟨v, r, e, h, hr⟩ => by
    subst e
    show (decide (p.1 = k) || _) = (decide (p.1 = k) || _)
    rw [RpK.any hr]
theorem RpK.snoc {K : PySem.W.Frag} {H : Hp} {k : κ} {t : T} {v : V} (q : Rp K H t v) : ∀ {ps : List (κ × T)} {ws : List (κ × V)}, RpK K H ps ws → RpK K H (ps ++ [(k, t)]) (ws ++ [(k, v)])
  | [], _, h => by rw [show _ = [] from h]; exact ⟨v, [], rfl, q, rfl⟩
  | p :: ps, _, ⟨w, r, e, h, hr⟩ => ⟨w, r ++ [(k, v)], by rw [e]; rfl, h, RpK.snoc q hr⟩
theorem RpK.upd {K : PySem.W.Frag} {H : Hp} {k : κ} {t : T} {v : V} (q : Rp K H t v) : ∀ {ps : List (κ × T)} {ws : List (κ × V)}, RpK K H ps ws → RpK K H (ps.map fun kv => if kv.1 = k then (kv.1, t) else kv) (ws.map fun kv => if kv.1 = k then (kv.1, v) else kv)
  | [], _, h => by rw [show _ = [] from h]; rfl
  | p :: ps, _, ⟨w, r, e, h, hr⟩ => by
    subst e
    rw [List.map_cons, List.map_cons]
    by_cases c : p.1 = k
    · rw [if_pos c, if_pos (show (p.1, w).1 = k from c)]
      exact ⟨v, _, rfl, q, RpK.upd q hr⟩
    · rw [if_neg c, if_neg (show ¬ (p.1, w).1 = k from c)]
      exact ⟨w, _, rfl, h, RpK.upd q hr⟩
theorem RpK.put {K : PySem.W.Frag} {H : Hp} {k : κ} {t : T} {v : V} (q : Rp K H t v) {ps : List (κ × T)} {ws : List (κ × V)} (h : RpK K H ps ws) : RpK K H (putT ps k t) (L2.putK ws k v) := by
  unfold putT L2.putK
  rw [h.any]
  split
  · exact h.upd q
  · exact h.snoc q
end
section
variable {X : Cx} {o i k e value : Expr} {qo qi qk qd qv : QE} {pos pos' : Pos}
/-- {} -/
def qD0 : QE := fun _ G Q => ∀ p, G p = none → Q (.ref p) (gput G p (.dK []))
theorem e_d0 : PE X (.Dict [] [] pos) (cE X.K qD0) := PE.wk pe_dnewK fun σ H KQ h => by
  obtain ⟨ρ, G, Q, e, a, q, f⟩ := h
  intro p hp
  have k2 : Tups H (upd H p (.dK [])) := Tups.new hp
  exact f (.ref p) _ (.ref p) _ k2 (a.put (o := .dK []) ⟨fun xs z => (by rw [hp] at z; cases z), fun o xs z => (by rw [hp] at z; cases z)⟩ ⟨[], upd_same, rfl⟩) rfl (q p (a.free hp))
/-- k in d -/
def qDIn (neg : Bool) (qk qd : QE) : QE := fun ρ G Q => qk ρ G fun y G1 => qd ρ G1 fun x G2 => match x with
  | .ref a => ∃ k kvs, keyT y = some k ∧ G2 a = some (.dK kvs) ∧ Q (.bl (neg != (valT kvs k).isSome)) G2
  | _ => False
theorem din_wk : ∀ σ H KQ, cE X.K (qDIn false qk qd) σ H KQ → tDIn (cE X.K qk) (cE X.K qd) σ H KQ := fun σ H KQ h => by
  obtain ⟨ρ, G, Q, e, a, q, g⟩ := h
  refine ⟨ρ, G, _, e, a, q, fun v H1 t G1 k1 a1 r1 q1 => ?_⟩
  refine ⟨ρ, G1, _, e.mono k1, a1, q1, fun w H2 u G2 k2 a2 r2 q2 => ?_⟩
  split at q2
  · obtain ⟨k, kvs, hk, hg, q2⟩ := q2
    cases r2
    obtain ⟨ws, hp, r⟩ := a2 _ _ hg
    have ev := keyT_rp hk (r1.mono k2)
    subst ev
    refine ⟨_, _, rfl, DGet.k (k := k) hp, ?_⟩
    rw [(r.val (k := k)).1]
    rw [Bool.false_bne] at q2
    exact g _ H2 (.bl _) G2 (k1.trans k2) a2 rfl q2
  · exact q2.elim
theorem dnotin_wk : ∀ σ H KQ, cE X.K (qDIn true qk qd) σ H KQ → tDNotIn (cE X.K qk) (cE X.K qd) σ H KQ := fun σ H KQ h => by
  obtain ⟨ρ, G, Q, e, a, q, g⟩ := h
  refine ⟨ρ, G, _, e, a, q, fun v H1 t G1 k1 a1 r1 q1 => ?_⟩
  refine ⟨ρ, G1, _, e.mono k1, a1, q1, fun w H2 u G2 k2 a2 r2 q2 => ?_⟩
  split at q2
  · obtain ⟨k, kvs, hk, hg, q2⟩ := q2
    cases r2
    obtain ⟨ws, hp, r⟩ := a2 _ _ hg
    have ev := keyT_rp hk (r1.mono k2)
    subst ev
    refine ⟨_, _, rfl, DGet.k (k := k) hp, ?_⟩
    rw [(r.val (k := k)).1]
    rw [Bool.true_bne] at q2
    exact g _ H2 (.bl _) G2 (k1.trans k2) a2 rfl q2
  · exact q2.elim
theorem un1 {k : Nat} {A : Around} (r : Room k A) : A.units + 1 < cLine := by have := r.un; omega
theorem tB_of {q : QE} {t : TE} (w : ∀ σ H KQ, cE X.K q σ H KQ → t σ H KQ) {c : Expr} (h : PT X c (tB t)) : PT X c (cT X.K (qTB q)) := PT.wk h fun σ H KQ h => by
  obtain ⟨ρ, G, Q, e, a, q, g⟩ := h
  refine w σ H _ ⟨ρ, G, _, e, a, q, fun v H1 t G1 k1 a1 r1 q1 => ?_⟩
  cases t with
  | bl b => exact ⟨b, r1, g b H1 G1 k1 a1 q1⟩
  | _ => exact q1.elim
theorem e_din (hu : X.A.units + 1 < cLine) (hk : PE X k (cE X.K qk)) (hd : PE X o (cE X.K qd)) (hm : behindInMarks .In o = false := by rfl) : PE X (.Compare k [.In] [o] pos) (cE X.K (qDIn false qk qd)) := PE.wk (pe_cmp (pc_din hu hk hd) hm) din_wk
theorem t_din (hu : X.A.units + 1 < cLine) (hk : PE X k (cE X.K qk)) (hd : PE X o (cE X.K qd)) (hm : behindInMarks .In o = false := by rfl) : PT X (.Compare k [.In] [o] pos) (cT X.K (qTB (qDIn false qk qd))) := tB_of din_wk (pt_cmp (pc_din hu hk hd) hm)
theorem e_dnotin (hu : X.A.units + 1 < cLine) (hk : PE X k (cE X.K qk)) (hd : PE X o (cE X.K qd)) (hm : behindInMarks .NotIn o = false := by rfl) : PE X (.Compare k [.NotIn] [o] pos) (cE X.K (qDIn true qk qd)) := PE.wk (pe_cmp (pc_dnotin hu hk hd) hm) dnotin_wk
theorem t_dnotin (hu : X.A.units + 1 < cLine) (hk : PE X k (cE X.K qk)) (hd : PE X o (cE X.K qd)) (hm : behindInMarks .NotIn o = false := by rfl) : PT X (.Compare k [.NotIn] [o] pos) (cT X.K (qTB (qDIn true qk qd))) := tB_of dnotin_wk (pt_cmp (pc_dnotin hu hk hd) hm)
/-- d[k] -/
def qDGet (qd qk : QE) : QE := fun ρ G Q => qd ρ G fun x G1 => qk ρ G1 fun y G2 => match x with
  | .ref a => ∃ k kvs t, keyT y = some k ∧ G2 a = some (.dK kvs) ∧ valT kvs k = some t ∧ Q t G2
  | _ => False
theorem e_dget (hu : X.A.units + 1 < cLine) (hd : PE X o (cE X.K qd)) (hk : PE X i (cE X.K qk)) (hs : NoSl i) : PE X (.Subscript o i pos) (cE X.K (qDGet qd qk)) := PE.wk (pe_dget hu hd hk hs) fun σ H KQ h => by
  obtain ⟨ρ, G, Q, e, a, q, g⟩ := h
  refine ⟨ρ, G, _, e, a, q, fun v H1 t G1 k1 a1 r1 q1 => ?_⟩
  refine ⟨ρ, G1, _, e.mono k1, a1, q1, fun w H2 u G2 k2 a2 r2 q2 => ?_⟩
  split at q2
  · obtain ⟨k, kvs, t, hk, hg, hv, q2⟩ := q2
    cases r1
    obtain ⟨ws, hp, r⟩ := a2 _ _ hg
    have ev := keyT_rp hk r2
    subst ev
    obtain ⟨v, e1, rv⟩ := (r.val (k := k)).2 t hv
    exact ⟨_, v, rfl, by rw [← e1]; exact DGet.k (k := k) hp, g v H2 t G2 (k1.trans k2) a2 rv q2⟩
  · exact q2.elim
/-- d[k] = v -/
def qDPut (qd qk qv : QE) : QS := fun D ρ G => qv ρ G fun t G1 => qd ρ G1 fun x G2 => qk ρ G2 fun y G3 => match x with
  | .ref a => ∃ k kvs, keyT y = some k ∧ G3 a = some (.dK kvs) ∧ kvs.length < 100000 ∧ D.nx ρ (gput G3 a (.dK (putT kvs k t)))
  | _ => False
theorem s_dput (hu : X.A.units + 1 < cLine) (hd : PE X o (cE X.K qd)) (hk : PE X i (cE X.K qk)) (hv : PE X value (cE X.K qv)) (hs : swapsWith value (some (.Subscript o i pos')) pos.line X.env = pure false := by rfl) :
    PS X (.Assign [.Subscript o i pos'] value pos) (cS X.K (qDPut qd qk qv)) := PS.wk (ps_dput hu hd hk hv hs) fun D σ H h => by
  obtain ⟨ρ, G, D', e, a, q, g⟩ := h
  refine ⟨ρ, G, _, e, a, q, fun v H1 t G1 k1 a1 r1 q1 => ?_⟩
  refine ⟨ρ, G1, _, e.mono k1, a1, q1, fun w H2 u G2 k2 a2 r2 q2 => ?_⟩
  refine ⟨ρ, G2, _, e.mono (k1.trans k2), a2, q2, fun w3 H3 u3 G3 k3 a3 r3 q3 => ?_⟩
  split at q3
  · obtain ⟨k, kvs, hk, hg, hz, q3⟩ := q3
    cases r2
    obtain ⟨ws, hp, r⟩ := a3 _ _ hg
    have ev := keyT_rp hk r3
    subst ev
    have wr : Wr H3 _ := Wr.of hp (fun _ z => by cases z) (fun _ _ z => by cases z)
    have kk := Tups.set (o := .dK (L2.putK ws k v)) wr
    have k13 := (k1.trans k2).trans k3
    refine ⟨_, _, rfl, DPut.k (k := k) hp (by rw [r.len]; exact Nat.lt_of_lt_of_le hz (by decide)), ?_⟩
    exact g.nx σ _ ρ _ (k13.trans kk) (e.mono (k13.trans kk)) (a3.put (o := .dK (putT kvs k t)) wr ⟨_, upd_same, (RpK.put (r1.mono (k2.trans k3)) r).mono kk⟩) q3
  · exact q3.elim
/-! ### a dict as a record: written names, each its value -/
def qRGet (ns : List Str) (j : Nat) (qd : QE) : QE := fun ρ G Q => qd ρ G fun x G1 => match x with
  | .ref a => ∃ ts, G1 a = some (.rcd ns ts) ∧ (match nth ts j with | some t => Q t G1 | none => False)
  | _ => False
theorem valV_zip : ∀ {ns : List Str} {vs : List V} {j : Nat} {f : Str} {v : V}, ns.Nodup → ns[j]? = some f → vs[j]? = some v → valV (((ns.map Sum.inr : List Key)).zip vs) (.inr f) = some v
  | [], _, _, _, _, _, h, _ => by simp at h
  | n :: ns, [], _, _, _, _, _, h => by simp at h
  | n :: ns, w :: vs, 0, f, v, _, h1, h2 => by
    simp only [List.getElem?_cons_zero, Option.some.injEq] at h1 h2
    subst h1 h2
    exact valV_pos (p := (Sum.inr n, w)) rfl
  | n :: ns, w :: vs, j + 1, f, v, nd, h1, h2 => by
    simp only [List.getElem?_cons_succ] at h1 h2
    obtain ⟨n1, n2⟩ := List.nodup_cons.mp nd
    have hne : ¬ (Sum.inr n : Key) = .inr f := fun e => n1 (by rw [Sum.inr.inj e]; exact List.mem_of_getElem? h1)
    exact (valV_neg (p := (Sum.inr n, w)) hne).trans (valV_zip n2 h1 h2)
theorem e_rget {ns : List Str} {j : Nat} {f : Str} {kk : Nat} {p2 : Pos} (hu : X.A.units + 1 < cLine) (hj : ns[j]? = some f) (nd : ns.Nodup) (hd : PE X o (cE X.K qd)) (hs : NoSl (.Constant (.str f) kk p2) := by intro _ _; rfl) :
    PE X (.Subscript o (.Constant (.str f) kk p2) pos) (cE X.K (qRGet ns j qd)) := PE.wk (pe_dget hu hd pe_str hs) fun σ H KQ h => by
  obtain ⟨ρ, G, Q, e, a, q, g⟩ := h
  refine ⟨ρ, G, _, e, a, q, fun v H1 t G1 k1 a1 r1 q1 => ?_⟩
  split at q1
  · obtain ⟨ts, hg, q1⟩ := q1
    cases r1
    obtain ⟨vs, hp, r⟩ := a1 _ _ hg
    split at q1
    · rename_i t ht
      rw [nth_get] at ht
      obtain ⟨v, hv, rv⟩ := r.at ht
      refine ⟨_, v, rfl, ?_, g v H1 t G1 k1 a1 rv q1⟩
      have := DGet.k (k := .inr f) hp
      rw [valV_zip nd hj hv] at this
      exact this
    · exact q1.elim
  · exact q1.elim
/-- the values of a display, from the left -/
def qVals : List QE → QA
  | [] => fun _ G Q => Q [] G
  | q :: qs => fun ρ G Q => q ρ G fun t G1 => qVals qs ρ G1 fun ts G2 => Q (t :: ts) G2
def qRcd (ns : List Str) (qs : List QE) : QE := fun ρ G Q => ∀ p, G p = none → qVals qs ρ (gput G p (.dK [])) fun ts G1 => G1 p = some (.dK []) ∧ Q (.ref p) (gput G1 p (.rcd ns ts))
inductive Fields (X : Cx) : List Str → List (Option Expr) → List Expr → List QE → List (TE × TE) → Prop
  | nil : Fields X [] [] [] [] []
  | cons {f : Str} {kk : Nat} {p2 : Pos} {v : Expr} {q : QE} {ns ks vs qs trs} : PE X v (cE X.K q) → Fields X ns ks vs qs trs → Fields X (f :: ns) (some (.Constant (.str f) kk p2) :: ks) (v :: vs) (q :: qs) ((tC (.str f), cE X.K q) :: trs)
theorem Fields.pps {ns ks vs qs trs} (h : Fields X ns ks vs qs trs) : PPs X pos ks vs trs := by
  induction h with
  | nil => exact pps_nil
  | cons hv _ ih => exact pps_cons pe_str hv ih
theorem Fields.run {ns ks vs qs trs} (h : Fields X ns ks vs qs trs) : ∀ {σ : L2.St} {H : Hp} {ρ : REnv} {G : Gp} {Q : List T → Gp → Prop} {KQ : List (V × V) → Hp → Prop}, EnvR X.K H ρ σ → Abs X.K H G → qVals qs ρ G Q →
    (∀ vs H' ts G', Tups H H' → Abs X.K H' G' → RpL X.K H' ts vs → vs.length = ns.length → Q ts G' → KQ (((ns.map V.str)).zip vs) H') → tPairs trs σ H KQ := by
  induction h with
  | nil => intro σ H ρ G Q KQ e a q f; exact f [] H [] G (Tups.refl H) a rfl rfl q
  | @cons f kk p2 v q ns ks vs qs trs hv _ ih =>
    intro σ H ρ G Q KQ e a q0 g
    show tC (.str f) σ H fun x H1 => _
    refine ⟨ρ, G, _, e, a, q0, fun w H1 t G1 k1 a1 r1 q1 => ?_⟩
    exact ih (e.mono k1) a1 q1 fun ws H2 ts G2 k2 a2 r2 hl q2 => g (w :: ws) H2 (t :: ts) G2 (k1.trans k2) a2 ⟨w, ws, rfl, r1.mono k2, r2⟩ (by simp [hl]) q2
theorem mergeK_zip : ∀ {ns : List Str} {vs : List V} {acc : List (Key × V)}, ns.Nodup → vs.length = ns.length → (∀ n ∈ ns, ∀ p ∈ acc, p.1 ≠ .inr n) → mergeK acc (((ns.map Sum.inr : List Key)).zip vs) = acc ++ ((ns.map Sum.inr : List Key)).zip vs
  | [], _, acc, _, _, _ => by simp [mergeK]
  | n :: ns, [], _, _, h, _ => by simp at h
  | n :: ns, v :: vs, acc, nd, hl, hn => by
    obtain ⟨n1, n2⟩ := List.nodup_cons.mp nd
    have e : L2.putK acc (.inr n) v = acc ++ [(.inr n, v)] := by
      unfold L2.putK
      rw [if_neg]
      intro z
      rw [List.any_eq_true] at z
      obtain ⟨p, hp, z⟩ := z
      exact hn n List.mem_cons_self p hp (of_decide_eq_true z)
    show mergeK (L2.putK acc (.inr n) v) (((ns.map Sum.inr : List Key)).zip vs) = _
    rw [e, mergeK_zip n2 (by simpa using hl) (fun m hm p hp => ?_)]
    · simp
    · rcases List.mem_append.mp hp with z | z
      · exact hn m (List.mem_cons_of_mem _ hm) p z
      · rw [List.mem_singleton.mp z]
        intro q
        exact n1 (by rw [Sum.inr.inj q]; exact hm)
theorem e_rcd {ns ks vs qs trs} (h : Fields X ns ks vs qs trs) (nd : ns.Nodup) (hall : ks.all (·.isSome) = true) (hl : ks.length = vs.length) (h0 : ks ≠ []) (h15 : ks.length ≤ 15) (hn : ns.length ≤ 15) : PE X (.Dict ks vs pos) (cE X.K (qRcd ns qs)) :=
  PE.wk (pe_disp h.pps hall hl h0 h15) fun σ H KQ h2 => by
    obtain ⟨ρ, G, Q, e, a, q, g⟩ := h2
    intro p hp
    have k1 : Tups H (upd H p (.dK [])) := Tups.new hp
    have a1 := a.put (u := .dK []) (o := .dK []) (p := p) ⟨fun xs z => (by rw [hp] at z; cases z), fun o xs z => (by rw [hp] at z; cases z)⟩ ⟨[], upd_same, rfl⟩
    refine h.run (e.mono k1) a1 (q p (a.free hp)) fun ws H2 ts G2 k2 a2 r2 hlen q2 => ?_
    obtain ⟨gp, q2⟩ := q2
    obtain ⟨ws0, hp2, r0⟩ := a2 _ _ gp
    rw [show ws0 = [] from r0] at hp2
    have wr : Wr H2 p := Wr.of hp2 (fun _ z => by cases z) (fun _ _ z => by cases z)
    refine ⟨hp2, ((ns.map Sum.inr : List Key)).zip ws, ?_, ?_, ?_⟩
    · rw [List.zip_map_left, List.zip_map_left, List.map_map]; rfl
    · rw [List.length_zip, List.length_map]; omega
    · rw [mergeK_zip nd hlen (fun _ _ p hp => by cases hp), List.nil_append]
      have k3 := Tups.set (o := .dK (((ns.map Sum.inr : List Key)).zip ws)) wr
      exact g (.ref p) _ (.ref p) _ ((k1.trans k2).trans k3) (a2.put (o := .rcd ns ts) wr ⟨ws, upd_same, RpL.mono k3 _ _ r2⟩) rfl q2
/-! ### xs[::-1] of a list -/
def qRev (qe : QE) : QE := fun ρ G Q => qe ρ G fun x G1 => match x with | .ref a => ∃ ts, G1 a = some (.lst ts) ∧ ∀ p, G1 p = none → Q (.ref p) (gput G1 p (.lst ts.reverse)) | _ => False
theorem RpL.rev {K : PySem.W.Frag} {H : Hp} : ∀ {ts : List T} {vs : List V}, RpL K H ts vs → RpL K H ts.reverse vs.reverse
  | [], _, h => by rw [show _ = [] from h]; rfl
  | t :: ts, _, ⟨v, r, e, h, hr⟩ => by
    rw [e, List.reverse_cons, List.reverse_cons]
    exact (RpL.rev hr).append (RpL.one h)
theorem e_rev {qe : QE} {kk : Nat} {p1 p2 p3 : Pos} (h : PE X e (cE X.K qe)) : PE X (.Subscript e (.Slice none none (some (.UnaryOp .USub (.Constant (.int 1) kk p1) p2)) p3) pos) (cE X.K (qRev qe)) := PE.wk (pe_revL h) fun σ H KQ h => by
  obtain ⟨ρ, G, Q, e, a, q, g⟩ := h
  refine ⟨ρ, G, _, e, a, q, fun v H1 t G1 k1 a1 r1 q1 => ?_⟩
  split at q1
  · obtain ⟨ts, hg, q1⟩ := q1
    cases r1
    obtain ⟨vs, hp, r⟩ := a1 _ _ hg
    refine ⟨_, vs, rfl, SqL.of hp, fun p hp0 => ?_⟩
    have k2 : Tups H1 (upd H1 p (.lst vs.reverse)) := Tups.new hp0
    exact g (.ref p) _ (.ref p) _ (k1.trans k2) (a1.put (o := .lst ts.reverse) ⟨fun xs z => (by rw [hp0] at z; cases z), fun o xs z => (by rw [hp0] at z; cases z)⟩ ⟨_, upd_same, r.rev.mono k2⟩) rfl (q1 p (a1.free hp0))
  · exact q1.elim
/-! ### x in a tuple of data -/
def fIn2 (neg : Bool) : Q2 := fun x y G Q => match y with
  | .tup ts => eqOks ts = true ∧ eqOk x = true ∧ Q (.bl (neg != ts.any fun t => teq t x)) G
  | y => fIn neg x y G Q
theorem o_in2 (hu : X.A.units + 65 < cLine) : OpR X (compareOp .In) (c2 X.K (fIn2 false)) := by
  intro pins s σ H v w u u' KQ I rv rw' h2
  obtain ⟨x, y, G, Q, hx, hy, ha, hf, hk⟩ := h2
  unfold fIn2 at hf
  split at hf
  · obtain ⟨o1, o2, q⟩ := hf
    rename_i ts
    obtain ⟨p, vs, rfl, hp, r⟩ := hy
    obtain ⟨as, r1⟩ := Dp.reads I _ _ _ (pd_dp _ _ (eqOk_ok o2) hx) rv
    obtain ⟨bs, r2⟩ := Dp.reads I (.tuple (pdTs ts)) (.ref p) u' (.tup (SqT.of hp) (pds_dp ts vs (eqOks_ok o1) r)) rw'
    refine SeqAt.in_tuple_reads r2 r1 (SeqAt.canLay_of_shaped (shpL (eqOks_ok o1) (eqOks_dp o1))) (SeqAt.canLay_of_shaped (shp (eqOk_ok o2) (eqOk_dp o2))) (room_in_shaped (shp (eqOk_ok o2) (eqOk_dp o2)) hu) ?_
    rw [any_eqv x (eqOk_ok o2) ts (eqOks_ok o1)]
    exact ⟨.bl _, H, I, rfl, hk _ H (.bl _) G (Tups.refl H) ha rfl (by rw [Bool.false_bne] at q; exact q)⟩
  · exact o_in hu pins s σ H v w u u' KQ I rv rw' ⟨_, _, G, Q, hx, hy, ha, hf, hk⟩
theorem o_notin2 (hu : X.A.units + 65 < cLine) : OpR X (compareOp .NotIn) (c2 X.K (fIn2 true)) := by
  intro pins s σ H v w u u' KQ I rv rw' h2
  obtain ⟨x, y, G, Q, hx, hy, ha, hf, hk⟩ := h2
  unfold fIn2 at hf
  split at hf
  · obtain ⟨o1, o2, q⟩ := hf
    rename_i ts
    obtain ⟨p, vs, rfl, hp, r⟩ := hy
    obtain ⟨as, r1⟩ := Dp.reads I _ _ _ (pd_dp _ _ (eqOk_ok o2) hx) rv
    obtain ⟨bs, r2⟩ := Dp.reads I (.tuple (pdTs ts)) (.ref p) u' (.tup (SqT.of hp) (pds_dp ts vs (eqOks_ok o1) r)) rw'
    refine SeqAt.notIn_tuple_reads r2 r1 (SeqAt.canLay_of_shaped (shpL (eqOks_ok o1) (eqOks_dp o1))) (SeqAt.canLay_of_shaped (shp (eqOk_ok o2) (eqOk_dp o2))) (room_in_shaped (shp (eqOk_ok o2) (eqOk_dp o2)) hu) ?_
    rw [any_eqv x (eqOk_ok o2) ts (eqOks_ok o1)]
    exact ⟨.bl _, H, I, rfl, hk _ H (.bl _) G (Tups.refl H) ha rfl (by rw [Bool.true_bne] at q; exact q)⟩
  · exact o_notin hu pins s σ H v w u u' KQ I rv rw' ⟨_, _, G, Q, hx, hy, ha, hf, hk⟩
end
end Lw

set_option Elab.async false
set_option linter.all false
set_option maxRecDepth 100000
set_option maxHeartbeats 4000000
namespace Lw
open PySem PySem.Spec PyProof.Rows L2 PySem.Calls
section
variable {prog : Program} {w : World} {A : Around} {E : Value → Shared → Prop} {s : Shared}
/-! ### sorted of a tuple -/
theorem gather_tup {l : Addr} {us : List Value} {R : List Value → Shared → Prop} (ht : s.heap.IsTuple l us.toArray) (lz : us.length ≤ sizeLine) (hR : R us { s with heap := ((s.heap.push (seqObj "list" #[] 0)).update s.heap.objs.size (Obj.mapSeq (· ++ us.toArray))) }) :
    wpAny (model prog w) A (collect (.ref l)) R E s := by
  have ⟨ob, e1, e2, m, e3⟩ := ht
  have e4 : (s.heap.push (seqObj "list" #[] 0)).get? l = some ob := Heap.get?_push_of_some _ e1
  have e5 : (s.heap.push (seqObj "list" #[] 0)).get? s.heap.objs.size = some (seqObj "list" #[] 0) := Heap.get?_push_size _ rfl
  have tt : (Value.type "tuple" == Value.type "tuple") = true := rfl
  have inner : ∀ (B : Around) (E' : Value → Shared → Prop) (R' : PySem.Fin → Shared → Prop), R' (.done (.ret (.ref s.heap.objs.size))) { s with heap := ((s.heap.push (seqObj "list" #[] 0)).update s.heap.objs.size (Obj.mapSeq (· ++ us.toArray))) } →
      wpAny (model prog w) B (Builtin.List.listExtendWith (.ref s.heap.objs.size) (.ref l) (.ref s.heap.objs.size)) R' E' { s with heap := s.heap.push (seqObj "list" #[] 0) } := fun B E' R' h' => by
    unfold Builtin.List.listExtendWith
    refine wpAny_bind (wpAny_typeOf (T := "tuple") ⟨ob, e4, e2⟩ ?_); rw [if_pos (by rw [tt, Bool.or_true])]
    refine wpAny_bind (listItems_at e4 e3 (wpAny_bind (listItems_at (xs := #[]) (n := 0) e5 rfl ?_))); rw [if_neg (by simp)]
    exact wpAny_bind (listUpdate_at (xs := #[]) (n := 0) e5 rfl (wpAny_pure h') (Nat.zero_le _) (by show (#[] ++ us.toArray).size ≤ sizeLine + 1; rw [Array.size_append, List.size_toArray]; simp only [List.size_toArray, List.length_nil]; omega))
  have load5 : (((s.heap.push (seqObj "list" #[] 0)).update s.heap.objs.size (Obj.mapSeq (· ++ us.toArray)))).get? s.heap.objs.size = _ := get?_update_seq e5 (· ++ us.toArray)
  unfold collect
  apply wpAny_bind; apply wpAny_runValue; apply codeAny_builtin entry_proto_collect'
  refine wpAny_bind (wpAny_newList (wpAny_pure (show _ ∧ _ from ⟨Code.quiet_builtin _ (by decide +kernel), ?_⟩)))
  apply codeAny_builtin entry_list_iadd'
  refine (show wpAny (model prog w) _ (Builtin.List.listExtendWith (.ref s.heap.objs.size) (.ref l) (.ref s.heap.objs.size)) _ _ { s with heap := s.heap.push (seqObj "list" #[] 0) } from inner _ _ _ ?_)
  refine wpAny_bind (wpAny_load load5 ?_)
  have el : ((#[] : Array Value) ++ us.toArray).toList = us := by simp
  show wpAny (model prog w) A (pure ((#[] : Array Value) ++ us.toArray).toList) R E _
  rw [el]; exact wpAny_pure hR
theorem sorted_tup {l : Addr} {us : List Value} {ltv : Value → Value → Bool} {Q : Value → Shared → Prop} (O : SrtO.Swo ltv) (ht : s.heap.IsTuple l us.toArray) (lz : us.length ≤ sizeLine)
    (hS : 2 ≤ us.length → ∀ (g : Heap) (a : Addr), g.get? a = some (seqObj "list" us.toArray 0) → (∀ b o, s.heap.get? b = some o → b ≠ a ∧ g.get? b = some o) → SrtO.SortableO prog w A.in1.in1 { s with heap := g } a us ltv)
    (hQ : ∀ out : List Value, SrtO.Srtd ltv out → SrtO.Stb ltv out us → Q (.ref (s.heap.objs.size + 1)) { s with heap := sortedAll s.heap us out.toArray }) : wpAny (model prog w) A (call (.builtin "sorted") [.ref l]) Q E s := by
  have n1 : ((s.heap.push (seqObj "list" #[] 0)).update s.heap.objs.size (Obj.mapSeq (· ++ us.toArray))).objs.size = s.heap.objs.size + 1 := by rw [Heap.size_update]; exact Heap.size_push ..
  have up : ∀ b o, s.heap.get? b = some o → ((s.heap.push (seqObj "list" #[] 0)).update s.heap.objs.size (Obj.mapSeq (· ++ us.toArray))).get? b = some o := fun b o e => by
    rw [Heap.get?_update_ne _ _ _ _ (Nat.ne_of_lt (Heap.lt_size e))]; exact Heap.get?_push_of_some _ e
  have at1 : (((s.heap.push (seqObj "list" #[] 0)).update s.heap.objs.size (Obj.mapSeq (· ++ us.toArray))).push (seqObj "list" us.toArray 0)).get? (s.heap.objs.size + 1) = some (seqObj "list" us.toArray 0) := by
    have := Heap.get?_push_size ((s.heap.push (seqObj "list" #[] 0)).update s.heap.objs.size (Obj.mapSeq (· ++ us.toArray))) (o := seqObj "list" us.toArray 0) rfl
    rw [n1] at this; exact this
  apply Calls.call_function_entry kind_sorted plain_sorted entry_sorted (args_sorted1 _)
  unfold Builtin.«sorted»
  refine wpAny_bind (m := checkCount "sorted" 1 1 _) (wpAny_pure (wpAny_bind (gather_tup ht lz (wpAny_bind (wpAny_newList ?_ lz)))))
  rw [n1]
  apply wpAny_bind; apply wpAny_holding
  refine wpAny_call_entry slot_list_sort ⟨_, at1, rfl⟩ entry_list_sort (SrtO.list_sort_ord O at1 lz (fun h2 => hS h2 _ _ at1 fun b o e => ⟨Nat.ne_of_lt (Nat.lt_succ_of_lt (Heap.lt_size e)), Heap.get?_push_of_some _ (up b o e)⟩) fun out q1 q2 => ⟨_, rfl, ?_⟩) (args_list_sort _)
  exact wpAny_pure ⟨_, rfl, hQ out q1 q2⟩
theorem sorted_dataT {l : Addr} {vs : List Value} {ds : List PyData} {Q : Value → Shared → Prop} (hl : s.heap.IsTuple l vs.toArray) (hz : vs.length ≤ sizeLine) (hp : All2 (PlD s.heap) vs ds) (hc : ∀ x ∈ ds, ∀ y ∈ ds, cmpb x y = true) (hu : A.units + 66 < cLine)
    (h : ∀ out : List Value, SrtO.Srtd (fun v u => HT.lexLt (rdK s.heap v) (rdK s.heap u)) out → SrtO.Stb (fun v u => HT.lexLt (rdK s.heap v) (rdK s.heap u)) out vs → Q (.ref (s.heap.objs.size + 1)) { s with heap := sortedAll s.heap vs out.toArray }) :
    wpAny (model prog w) A (call (.builtin "sorted") [.ref l]) Q E s := by
  refine sorted_tup (NtL.swo_lexL (rdK s.heap)) hl hz (fun h2 h₁ a ha kk => ?_) h
  intro h' keep
  have kp : ∀ b o, s.heap.get? b = some o → h'.get? b = some o := fun b o e => keep b o (kk b o e).1 (kk b o e).2
  have up : ∀ {v d}, PlD s.heap v d → PlD h' v d := fun p => ⟨let ⟨as, r⟩ := p.rd; ⟨as, PyProof.Rows.Reads.keeps kp r⟩, p.cl, p.cm, p.dp⟩
  have hp' : All2 (PlD h') vs ds := hp.map fun _ _ p => up p
  have mem : ∀ v ∈ vs, ∃ d ∈ ds, PlD s.heap v d := hp.memL
  obtain ⟨κ, hκ, k⟩ := kind_dtm (prog := prog) (w := w) (A := A.in1.in1) (s := { s with heap := h' }) hp'
  refine ⟨κ, fun Q E q => k Q E q, fun p q hp1 hq1 => ?_⟩
  obtain ⟨d, hd, pd⟩ := mem _ hp1
  obtain ⟨e, he, pe⟩ := mem _ hq1
  obtain ⟨as, r1⟩ := pd.rd
  obtain ⟨bs, r2⟩ := pe.rd
  refine key_lt (s := { s with heap := h' }) (up pd) (up pe) (hc d hd e he) ?_ (by show A.units + 1 + 1 + 64 < cLine; omega) ⟨rfl, ?_⟩
  · rcases hκ with z | z | ⟨z, z2⟩
    · exact .inl z
    · exact .inr (.inl z)
    · exact .inr (.inr ⟨z, z2 d hd, z2 e he⟩)
  · show _ = HT.lexLt (rdK s.heap p.1) (rdK s.heap q.1)
    rw [rdK_eq r1, rdK_eq r2]
end
def fSorted2 : QC := fun ts G Q => match ts with
  | [.tup xs] => SrtOk xs ∧ ∀ ys, ys.Perm xs → ys.Pairwise (fun x y => tlt y x = false) → ∀ p, G p = none → Q (.ref p) (gput G p (.lst ys))
  | ts => fSorted ts G Q
section
variable {X : Cx}
theorem b_sorted2 (hu : X.A.units + 66 < cLine) : CallR X (.builtin "sorted") (cC X.K fSorted2) := by
  intro pins s σ H vs us KQ I r h
  obtain ⟨ts, G, Q, hr, ha, hf, hk⟩ := h
  unfold fSorted2 at hf
  split at hf
  · obtain ⟨ok, q⟩ := hf
    obtain ⟨v, rfl, h1⟩ := rpl1 hr
    obtain ⟨p, ws, rfl, hp, rr⟩ := h1
    obtain ⟨its, rv, hl, hz⟩ := I.tuple (SqT.of hp)
    rw [Vals.ref1 r]
    have a0 := rdT_of I ok.ok rr rv
    have zl : its.length ≤ sizeLine := by rw [← rv.length]; exact hz
    refine sorted_dataT hl zl (rdT_pl ok a0) (fun x hx y hy => ?_) hu fun out h1 h2 => ?_
    · obtain ⟨x', hx', rfl⟩ := List.mem_map.mp hx
      obtain ⟨y', hy', rfl⟩ := List.mem_map.mp hy
      exact ok.cm x' hx' y' hy'
    · obtain ⟨ys, a1, py⟩ := a0.perm h2.perm.symm
      obtain ⟨ws', q1, q2⟩ := rdT_back a1
      have sy : ys.Pairwise fun x y => tlt y x = false := a1.pw (S' := fun x y => tlt y x = false) (fun u x u' x' ⟨_, _, _, as, r1⟩ ⟨_, _, _, bs, r2⟩ e => by
        have e : HT.lexLt (rdK s.heap u') (rdK s.heap u) = false := e
        rw [rdK_eq r1, rdK_eq r2] at e
        exact e) h1
      obtain ⟨ep, he'⟩ := PyProof.Rows.sortedAll_at s.heap its out.toArray
      have hlen : ws'.length ≤ sizeLine := by
        rw [q2.length, h2.perm.length_eq]; exact zl
      have fr : H (s.heap.objs.size + 1) = none := I.hok.fresh (Nat.le_succ _)
      have k : Tups H (upd H (s.heap.objs.size + 1) (.lst ws')) := Tups.new fr
      refine ⟨.ref _, upd H (s.heap.objs.size + 1) (.lst ws'), I.laid (t' := s.toks) (fun _ _ => PyProof.Rows.sortedAll_old) (Nat.le_succ _) ⟨hlen, out, ep, q2, he'⟩, rfl, ?_⟩
      exact hk _ _ (.ref _) _ k (ha.put (o := .lst ys) ⟨fun xs z => (by rw [fr] at z; cases z), fun o xs z => (by rw [fr] at z; cases z)⟩ ⟨ws', upd_same, q1.mono k⟩) rfl (q ys py sy _ (ha.free fr))
  · exact b_sorted hu pins s σ H _ us KQ I r ⟨_, G, Q, hr, ha, hf, hk⟩
/-! ### a text, sign by sign -/
def signsT (z : Str) : List T := z.cps.toList.map fun c => T.str ⟨#[c]⟩
theorem wt_str {K : PySem.W.Frag} {H1 : Hp} {z : Str} : WalkT K (Its z) H1 (signsT z) (fun _ => True) :=
  wt_of walk_str (by unfold signsT; simp) (fun _ _ _ _ _ => trivial) fun i H G x H' hi k a _ y => by
    obtain ⟨e, c, hc, rfl⟩ := y
    subst e
    refine ⟨Tups.refl _, a, .str ⟨#[c]⟩, ?_, rfl⟩
    unfold signsT
    rw [List.getElem?_map, Array.getElem?_toList, hc]; rfl
variable {tg l : Expr} {qe : QE}
def qiStr (qe : QE) : QI := fun ρ G R => qe ρ G fun x G1 => match x with | .str z => R (signsT z) (fun _ => True) G1 | _ => False
theorem i_str (hl : PE X l (cE X.K qe)) : PI X tg l (cI X.K (qiStr qe)) := PI.wk (pi_str hl) fun σ H R h => by
  obtain ⟨ρ, G, Q, e, a, q, f⟩ := h
  refine ⟨ρ, G, _, e, a, q, fun v H1 t G1 k1 a1 r1 q1 => ?_⟩
  split at q1
  · cases r1
    exact ⟨_, rfl, f _ H1 _ _ G1 k1 a1 wt_str q1⟩
  · exact q1.elim
/-- a sign in a text -/
def fInS (neg : Bool) : Q2 := fun x y G Q => match x, y with
  | .str ⟨a⟩, .str z => ∃ c, a = #[c] ∧ Q (.bl (neg != decide (c ∈ z.cps.toList))) G
  | _, _ => False
theorem o_inS : OpR X (compareOp .In) (c2 X.K (fInS false)) := by
  intro pins s σ H v w u u' KQ I rv rw' h2
  obtain ⟨x, y, G, Q, hx, hy, ha, hf, hk⟩ := h2
  unfold fInS at hf
  split at hf
  · obtain ⟨c, rfl, q⟩ := hf
    rw [Bool.false_bne] at q
    exact op_in_sign pins s σ H v w u u' KQ I rv rw' ⟨c, _, hx, hy, hk _ H (.bl _) G (Tups.refl H) ha rfl q⟩
  · exact hf.elim
theorem o_notinS : OpR X (compareOp .NotIn) (c2 X.K (fInS true)) := by
  intro pins s σ H v w u u' KQ I rv rw' h2
  obtain ⟨x, y, G, Q, hx, hy, ha, hf, hk⟩ := h2
  unfold fInS at hf
  split at hf
  · obtain ⟨c, rfl, q⟩ := hf
    rw [Bool.true_bne] at q
    exact op_notIn_sign pins s σ H v w u u' KQ I rv rw' ⟨c, _, hx, hy, hk _ H (.bl _) G (Tups.refl H) ha rfl q⟩
  · exact hf.elim
end
end Lw

set_option Elab.async false
set_option linter.all false
set_option maxRecDepth 100000
set_option maxHeartbeats 4000000
namespace Lw
open PySem PySem.Spec PyProof.Rows L2 PySem.Calls
/-! ### == of lists that hold lists -/
mutual
inductive Rz (G : Gp) : T → PyData → Prop
  | data {t : T} : okT t = true → Rz G t (pdT t)
  | tup {ts : List T} {ds : List PyData} : RzL G ts ds → Rz G (.tup ts) (.tuple ds)
  | lst {a : Addr} {ts : List T} {ds : List PyData} : G a = some (.lst ts) → RzL G ts ds → Rz G (.ref a) (.list ds)
inductive RzL (G : Gp) : List T → List PyData → Prop
  | nil : RzL G [] []
  | cons {t : T} {ts : List T} {d : PyData} {ds : List PyData} : Rz G t d → RzL G ts ds → RzL G (t :: ts) (d :: ds)
end
theorem RzL.of {G : Gp} : ∀ {ts : List T}, okTs ts = true → RzL G ts (pdTs ts)
  | [], _ => .nil
  | t :: ts, h => by
    have h' : (okT t && okTs ts) = true := h
    rw [Bool.and_eq_true] at h'
    exact .cons (.data h'.1) (RzL.of h'.2)
mutual
theorem Rz.dp {K : PySem.W.Frag} {H : Hp} {G : Gp} (ha : Abs K H G) : ∀ {t : T} {d : PyData} {v : V}, Rz G t d → Rp K H t v → Dp K H v d
  | _, _, _, .data o, r => pd_dp _ _ o r
  | _, _, _, .tup l, ⟨a, vs, e, h, r⟩ => by subst e; exact .tup (SqT.of h) (RzL.dp ha l r)
  | _, _, _, .lst (a := a) g l, r => by
    cases r
    obtain ⟨vs, hp, r⟩ := ha _ _ g
    exact .lst (SqL.of hp) (RzL.dp ha l r)
theorem RzL.dp {K : PySem.W.Frag} {H : Hp} {G : Gp} (ha : Abs K H G) : ∀ {ts : List T} {ds : List PyData} {vs : List V}, RzL G ts ds → RpL K H ts vs → DpAll K H vs ds
  | _, _, _, .nil, h => by rw [show _ = [] from h]; exact .nil
  | _, _, _, .cons h1 h2, ⟨v, r, e, h, hr⟩ => by subst e; exact .cons (Rz.dp ha h1 h) (RzL.dp ha h2 hr)
end
def fEqZ (neg : Bool) : Q2 := fun x y G Q => ∃ d e, Rz G x d ∧ Rz G y e ∧ SeqAt.shaped d = true ∧ SeqAt.shaped e = true ∧ Q (.bl (neg != PyData.eqv d e)) G
section
variable {X : Cx}
theorem o_eqZ (hu : X.A.units + 64 < cLine) : OpR X (compareOp .Eq) (c2 X.K (fEqZ false)) := by
  intro pins s σ H v w u u' KQ I rv rw' h2
  obtain ⟨x, y, G, Q, hx, hy, ha, hf, hk⟩ := h2
  obtain ⟨d, e, d1, d2, s1, s2, q⟩ := hf
  exact op_eqD hu pins s σ H v w u u' KQ I rv rw' ⟨d, e, d1.dp ha hx, d2.dp ha hy, s1, s2, hk _ H (.bl _) G (Tups.refl H) ha rfl (by rw [Bool.false_bne] at q; exact q)⟩
theorem o_neZ (hu : X.A.units + 64 < cLine) : OpR X (compareOp .NotEq) (c2 X.K (fEqZ true)) := by
  intro pins s σ H v w u u' KQ I rv rw' h2
  obtain ⟨x, y, G, Q, hx, hy, ha, hf, hk⟩ := h2
  obtain ⟨d, e, d1, d2, s1, s2, q⟩ := hf
  exact op_neD hu pins s σ H v w u u' KQ I rv rw' ⟨d, e, d1.dp ha hx, d2.dp ha hy, s1, s2, hk _ H (.bl _) G (Tups.refl H) ha rfl (by rw [Bool.true_bne] at q; exact q)⟩
end
/-- what may be laid, and how deep it is -/
def LayD (n : Nat) (d : PyData) : Prop := d.canLay0 = true ∧ d.depth ≤ n
theorem LayD.data {t : T} {n : Nat} (h : okT t = true) (k : dpT t + 1 ≤ n) : LayD n (pdT t) := ⟨pd_can t h, Nat.le_trans (pd_depth t h) k⟩
theorem layAll {n : Nat} : ∀ {ds : List PyData}, (∀ d ∈ ds, LayD n d) → PyData.canLayAll0 ds = true ∧ PyData.depthAll ds ≤ max n 1
  | [], _ => ⟨rfl, by simp [PyData.depthAll]⟩
  | d :: ds, h => by
    obtain ⟨h1, h2⟩ := h d List.mem_cons_self
    obtain ⟨h3, h4⟩ := layAll fun e he => h e (List.mem_cons_of_mem _ he)
    refine ⟨?_, ?_⟩
    · show (PyData.canLay0 d && PyData.canLayAll0 ds) = true
      rw [h1, h3]; rfl
    · simp only [PyData.depthAll]
      omega
theorem LayD.lst {n : Nat} {ds : List PyData} (h : ∀ d ∈ ds, LayD n d) : LayD (max n 1 + 1) (.list ds) := by
  obtain ⟨h1, h2⟩ := layAll h
  exact ⟨h1, by simp only [PyData.depth]; omega⟩
theorem LayD.tup {n : Nat} {ds : List PyData} (h : ∀ d ∈ ds, LayD n d) : LayD (max n 1 + 1) (.tuple ds) := by
  obtain ⟨h1, h2⟩ := layAll h
  exact ⟨h1, by simp only [PyData.depth]; omega⟩
theorem LayD.shaped {n : Nat} {d : PyData} (h : LayD n d) (k : n ≤ 64) : SeqAt.shaped d = true := by
  unfold SeqAt.shaped
  rw [h.1]
  exact decide_eq_true (Nat.le_trans h.2 k)
end Lw

set_option Elab.async false
set_option linter.all false
set_option maxRecDepth 100000
set_option maxHeartbeats 4000000
namespace Lw
open PySem PySem.Spec PyProof.Rows L2 PySem.Calls
/-! ### dicts whose keys are tuples of numbers and texts -/
def tkT : List T → Option (List Key)
  | [] => some []
  | t :: ts => match keyT t, tkT ts with
    | some k, some ks => some (k :: ks)
    | _, _ => none
theorem tkT_rp {K : PySem.W.Frag} {H : Hp} : ∀ {ts : List T} {ks : List Key} {vs : List V}, tkT ts = some ks → RpL K H ts vs → vs = ks.map kV
  | [], ks, vs, e, r => by
    cases e
    rw [show vs = [] from r]; rfl
  | t :: ts, ks, vs, e, ⟨v, r, ev, h, hr⟩ => by
    simp only [tkT] at e
    cases e1 : keyT t with
    | none => rw [e1] at e; cases e
    | some k =>
      cases e2 : tkT ts with
      | none => rw [e1, e2] at e; cases e
      | some ks' =>
        rw [e1, e2] at e
        cases e
        subst ev
        rw [keyT_rp e1 h, tkT_rp e2 hr]; rfl
section
variable {X : Cx} {o i k e value l tg : Expr} {qo qi qk qd qv qe : QE} {pos pos' : Pos} {st : Stmt} {t : QS}
def qDT0 : QE := fun _ G Q => ∀ p, G p = none → Q (.ref p) (gput G p (.dT []))
theorem e_d0T : PE X (.Dict [] [] pos) (cE X.K qDT0) := PE.wk pe_dnewT fun σ H KQ h => by
  obtain ⟨ρ, G, Q, e, a, q, f⟩ := h
  intro p hp
  have k2 : Tups H (upd H p (.dT [])) := Tups.new hp
  exact f (.ref p) _ (.ref p) _ k2 (a.put (o := .dT []) ⟨fun xs z => (by rw [hp] at z; cases z), fun o xs z => (by rw [hp] at z; cases z)⟩ ⟨[], upd_same, rfl⟩) rfl (q p (a.free hp))
def qTGet (qd qk : QE) : QE := fun ρ G Q => qd ρ G fun x G1 => qk ρ G1 fun y G2 => match x, y with
  | .ref a, .tup ts => ∃ ks kvs t, tkT ts = some ks ∧ G2 a = some (.dT kvs) ∧ valT kvs ks = some t ∧ Q t G2
  | _, _ => False
theorem e_tget (hu : X.A.units + 1 < cLine) (hd : PE X o (cE X.K qd)) (hk : PE X i (cE X.K qk)) (hs : NoSl i) : PE X (.Subscript o i pos) (cE X.K (qTGet qd qk)) := PE.wk (pe_dget hu hd hk hs) fun σ H KQ h => by
  obtain ⟨ρ, G, Q, e, a, q, g⟩ := h
  refine ⟨ρ, G, _, e, a, q, fun v H1 t G1 k1 a1 r1 q1 => ?_⟩
  refine ⟨ρ, G1, _, e.mono k1, a1, q1, fun w H2 u G2 k2 a2 r2 q2 => ?_⟩
  split at q2
  · obtain ⟨ks, kvs, t, hk, hg, hv, q2⟩ := q2
    cases r1
    obtain ⟨b, vs, rfl, hb, rv⟩ := r2
    obtain ⟨ws, hp, r⟩ := a2 _ _ hg
    have ev := tkT_rp hk rv
    subst ev
    obtain ⟨v, e1, rv⟩ := (r.val (k := ks)).2 t hv
    exact ⟨_, v, rfl, by rw [← e1]; exact DGet.t (k := ks) hp hb, g v H2 t G2 (k1.trans k2) a2 rv q2⟩
  · exact q2.elim
def qTPut (qd qk qv : QE) : QS := fun D ρ G => qv ρ G fun t G1 => qd ρ G1 fun x G2 => qk ρ G2 fun y G3 => match x, y with
  | .ref a, .tup ts => ∃ ks kvs, tkT ts = some ks ∧ G3 a = some (.dT kvs) ∧ kvs.length < 100000 ∧ D.nx ρ (gput G3 a (.dT (putT kvs ks t)))
  | _, _ => False
theorem s_tput (hu : X.A.units + 1 < cLine) (hd : PE X o (cE X.K qd)) (hk : PE X i (cE X.K qk)) (hv : PE X value (cE X.K qv)) (hs : swapsWith value (some (.Subscript o i pos')) pos.line X.env = pure false := by rfl) :
    PS X (.Assign [.Subscript o i pos'] value pos) (cS X.K (qTPut qd qk qv)) := PS.wk (ps_dput hu hd hk hv hs) fun D σ H h => by
  obtain ⟨ρ, G, D', e, a, q, g⟩ := h
  refine ⟨ρ, G, _, e, a, q, fun v H1 t G1 k1 a1 r1 q1 => ?_⟩
  refine ⟨ρ, G1, _, e.mono k1, a1, q1, fun w H2 u G2 k2 a2 r2 q2 => ?_⟩
  refine ⟨ρ, G2, _, e.mono (k1.trans k2), a2, q2, fun w3 H3 u3 G3 k3 a3 r3 q3 => ?_⟩
  split at q3
  · obtain ⟨ks, kvs, hk, hg, hz, q3⟩ := q3
    cases r2
    obtain ⟨b, vs, rfl, hb, rv⟩ := r3
    obtain ⟨ws, hp, r⟩ := a3 _ _ hg
    have ev := tkT_rp hk rv
    subst ev
    have wr : Wr H3 _ := Wr.of hp (fun _ z => by cases z) (fun _ _ z => by cases z)
    have kk := Tups.set (o := .dT (L2.putK ws ks v)) wr
    have k13 := (k1.trans k2).trans k3
    refine ⟨_, _, rfl, DPut.t (k := ks) hp hb (by rw [r.len]; exact Nat.lt_of_lt_of_le hz (by decide)), ?_⟩
    exact g.nx σ _ ρ _ (k13.trans kk) (e.mono (k13.trans kk)) (a3.put (o := .dT (putT kvs ks t)) wr ⟨_, upd_same, (RpK.put (r1.mono (k2.trans k3)) r).mono kk⟩) q3
  · exact q3.elim
/-! ### a dict walked: it is locked while the loop runs -/
def qLock (t : QS) : QS := fun D ρ G => ∃ d kvs, G d = some (.dK kvs) ∧ ∀ od ws, t { nx := fun ρ' G' => G' d = some (.fz od ws kvs) ∧ D.nx ρ' (gput G' d (.dK kvs)), rt := fun v G' => G' d = some (.fz od ws kvs) ∧ D.rt v (gput G' d (.dK kvs)), bk := fun ρ' G' => G' d = some (.fz od ws kvs) ∧ D.bk ρ' (gput G' d (.dK kvs)), ct := fun ρ' G' => G' d = some (.fz od ws kvs) ∧ D.ct ρ' (gput G' d (.dK kvs)) } ρ (gput G d (.fz od ws kvs))
theorem s_lock (h : PS X st (cS X.K t)) : PS X st (cS X.K (qLock t)) := PS.wk (ps_lock h) fun D σ H h => by
  obtain ⟨ρ, G, D', e, a, ⟨d, kvs, hg, q⟩, g⟩ := h
  obtain ⟨ws, hp, r⟩ := a _ _ hg
  refine ⟨d, .dK ws, hp, True.intro, fun od => ?_⟩
  have wr : Wr H d := Wr.of hp (fun _ z => by cases z) (fun _ _ z => by cases z)
  have k1 : Tups H (upd H d (.frz od (.dK ws))) := Tups.set wr
  have back : ∀ {H' : Hp} {G' : Gp}, Tups (upd H d (.frz od (.dK ws))) H' → Abs X.K H' G' → G' d = some (.fz od ws kvs) → H' d = some (.frz od (.dK ws)) ∧ Tups H' (upd H' d (.dK ws)) ∧ Tups H (upd H' d (.dK ws)) ∧ Abs X.K (upd H' d (.dK ws)) (gput G' d (.dK kvs)) := fun k a' e' => by
    obtain ⟨h1, h2⟩ := a' _ _ e'
    have wr' : Wr _ d := Wr.of h1 (fun _ z => by cases z) (fun _ _ z => by cases z)
    have k2 := Tups.set (o := .dK ws) wr'
    exact ⟨h1, k2, (k1.trans k).trans k2, a'.put (o := .dK kvs) wr' ⟨ws, upd_same, h2.mono k2⟩⟩
  refine ⟨ρ, _, _, e.mono k1, a.put (o := .fz od ws kvs) wr ⟨upd_same, r.mono k1⟩, q od ws, ⟨?_, ?_, ?_, ?_⟩⟩
  · intro σ' H' ρ' G' k e' a' ⟨q1, q2⟩
    obtain ⟨h1, h2, h3, h4⟩ := back k a' q1
    exact ⟨h1, g.nx σ' _ ρ' _ h3 (e'.mono h2) h4 q2⟩
  · intro v H' t G' k a' r' ⟨q1, q2⟩
    obtain ⟨h1, h2, h3, h4⟩ := back k a' q1
    exact ⟨h1, g.rt v _ t _ h3 h4 (r'.mono h2) q2⟩
  · intro σ' H' ρ' G' k e' a' ⟨q1, q2⟩
    obtain ⟨h1, h2, h3, h4⟩ := back k a' q1
    exact ⟨h1, g.bk σ' _ ρ' _ h3 (e'.mono h2) h4 q2⟩
  · intro σ' H' ρ' G' k e' a' ⟨q1, q2⟩
    obtain ⟨h1, h2, h3, h4⟩ := back k a' q1
    exact ⟨h1, g.ct σ' _ ρ' _ h3 (e'.mono h2) h4 q2⟩
theorem kT_rp {K : PySem.W.Frag} {H : Hp} : ∀ k : Key, Rp K H (kT k) (kV k)
  | .inl _ => rfl
  | .inr _ => rfl
theorem RpK.keys {K : PySem.W.Frag} {H : Hp} {κ : Type} : ∀ {ps : List (κ × T)} {ws : List (κ × V)}, RpK K H ps ws → ws.map (·.1) = ps.map (·.1)
  | [], _, h => by rw [show _ = [] from h]; rfl
  | p :: ps, _, ⟨v, r, e, h, hr⟩ => by rw [e, List.map_cons, List.map_cons, RpK.keys hr]
theorem wt_keys {K : PySem.W.Frag} {H1 : Hp} {d : Addr} {od : Obj} {ws : List (Key × V)} {kvs : List (Key × T)} (hk : ws.map (·.1) = kvs.map (·.1)) : WalkT K (Itk d od ws) H1 (kvs.map fun kv => kT kv.1) (fun G => G d = some (.fz od ws kvs)) :=
  wt_of walk_keys (by have := congrArg List.length hk; simpa using this) (fun H G k a s => (a _ _ s).1) fun i H G x H' hi k a s y => by
    obtain ⟨e, kk, v, hc, rfl⟩ := y
    subst e
    refine ⟨Tups.refl _, a, kT kk, ?_, kT_rp kk⟩
    have h1 : (ws.map (·.1))[i]? = some kk := by rw [List.getElem?_map, hc]; rfl
    rw [hk, List.getElem?_map] at h1
    rw [List.getElem?_map]
    cases q : kvs[i]? with
    | none => rw [q] at h1; cases h1
    | some kv => rw [q] at h1; cases h1; rfl
def qiKeys (qe : QE) : QI := fun ρ G R => qe ρ G fun x G1 => match x with
  | .ref d => ∃ od ws kvs, G1 d = some (.fz od ws kvs) ∧ R (kvs.map fun kv => kT kv.1) (fun G => G d = some (.fz od ws kvs)) G1
  | _ => False
theorem i_keys (hl : PE X l (cE X.K qe)) : PI X tg l (cI X.K (qiKeys qe)) := PI.wk (pi_keys hl) fun σ H R h => by
  obtain ⟨ρ, G, Q, e, a, q, f⟩ := h
  refine ⟨ρ, G, _, e, a, q, fun v H1 t G1 k1 a1 r1 q1 => ?_⟩
  split at q1
  · obtain ⟨od, ws, kvs, hg, q1⟩ := q1
    cases r1
    obtain ⟨h1, h2⟩ := a1 _ _ hg
    exact ⟨_, od, rfl, .inl ⟨ws, h1, f _ H1 _ _ G1 k1 a1 (wt_keys h2.keys) q1⟩⟩
  · exact q1.elim
/-- d[k], the dict locked -/
def qFGet (qd qk : QE) : QE := fun ρ G Q => qd ρ G fun x G1 => qk ρ G1 fun y G2 => match x with
  | .ref a => ∃ k od ws kvs t, keyT y = some k ∧ G2 a = some (.fz od ws kvs) ∧ valT kvs k = some t ∧ Q t G2
  | _ => False
theorem e_fget (hu : X.A.units + 1 < cLine) (hd : PE X o (cE X.K qd)) (hk : PE X i (cE X.K qk)) (hs : NoSl i) : PE X (.Subscript o i pos) (cE X.K (qFGet qd qk)) := PE.wk (pe_dget hu hd hk hs) fun σ H KQ h => by
  obtain ⟨ρ, G, Q, e, a, q, g⟩ := h
  refine ⟨ρ, G, _, e, a, q, fun v H1 t G1 k1 a1 r1 q1 => ?_⟩
  refine ⟨ρ, G1, _, e.mono k1, a1, q1, fun w H2 u G2 k2 a2 r2 q2 => ?_⟩
  split at q2
  · obtain ⟨k, od, ws, kvs, t, hk, hg, hv, q2⟩ := q2
    cases r1
    obtain ⟨hp, r⟩ := a2 _ _ hg
    have ev := keyT_rp hk r2
    subst ev
    obtain ⟨v, e1, rv⟩ := (r.val (k := k)).2 t hv
    exact ⟨_, v, rfl, .inl ⟨ws, k, .inr ⟨od, hp⟩, rfl, e1.symm⟩, g v H2 t G2 (k1.trans k2) a2 rv q2⟩
  · exact q2.elim
/-! ### sorted(d), d's keys texts; int of a truth value -/
def fSortedD : QC := fun ts G Q => match ts with
  | [.ref a] => ∃ kvs, ∃ ks : List Str, G a = some (.dK kvs) ∧ kvs.map (·.1) = ks.map Sum.inr ∧ ks.length < 64 ∧ ∀ ys : List Str, ys.Perm ks → sortedS ys = true → ∀ p, G p = none → Q (.ref p) (gput G p (.lst (ys.map T.str)))
  | _ => False
theorem RpL.of_strs {K : PySem.W.Frag} {H : Hp} : ∀ {ns : List Str}, RpL K H (ns.map T.str) (ns.map V.str)
  | [] => rfl
  | n :: ns => ⟨_, _, rfl, rfl, RpL.of_strs⟩
theorem b_sortedD (hc : X.calm = true) : CallR X (.builtin "sorted") (cC X.K fSortedD) := by
  intro pins s σ H vs us KQ I r h
  obtain ⟨ts, G, Q, hr, ha, hf, hk⟩ := h
  unfold fSortedD at hf
  split at hf
  · obtain ⟨kvs, ks, hg, e, hz, q⟩ := hf
    obtain ⟨v, rfl, h1⟩ := rpl1 hr
    cases h1
    obtain ⟨ws, hp, r'⟩ := ha _ _ hg
    refine call_sortedD hc pins s σ H _ us KQ I r ⟨_, ws, ks, rfl, .inl hp, r'.keys.trans e, hz, fun ys p py sy hp0 => ?_⟩
    have k2 : Tups H (upd H p (.lst (ys.map V.str))) := Tups.new hp0
    exact hk (.ref p) _ (.ref p) _ k2 (ha.put (o := .lst (ys.map T.str)) ⟨fun xs z => (by rw [hp0] at z; cases z), fun o xs z => (by rw [hp0] at z; cases z)⟩ ⟨_, upd_same, RpL.of_strs⟩) rfl (q ys py sy p (ha.free hp0))
  · exact hf.elim
def fIntB : QC := fun ts G Q => match ts with
  | [.int i] => Q (.int i) G
  | [.bl b] => Q (.int (if b then 1 else 0)) G
  | _ => False
theorem b_int : CallR X (.type "int") (cC X.K fIntB) := by
  intro pins s σ H vs us KQ I r h
  obtain ⟨ts, G, Q, hr, ha, hf, hk⟩ := h
  unfold fIntB at hf
  split at hf
  · obtain ⟨v, rfl, h1⟩ := rpl1 hr
    cases h1
    exact call_int1 pins s σ H _ us KQ I r (.inl ⟨_, rfl, hk _ H (.int _) G (Tups.refl H) ha rfl hf⟩)
  · obtain ⟨v, rfl, h1⟩ := rpl1 hr
    cases h1
    exact call_int1 pins s σ H _ us KQ I r (.inr ⟨_, rfl, hk _ H (.int _) G (Tups.refl H) ha rfl hf⟩)
  · exact hf.elim
end
end Lw

set_option Elab.async false
set_option linter.all false
set_option maxRecDepth 100000
set_option maxHeartbeats 4000000
namespace Lw
open PySem PySem.Spec PyProof.Rows L2 PySem.Calls PySem.Froz
/-! ### sets of texts -/
abbrev set0 (w : World) : Obj := { cls := .type "set", dict := none, data := .set #[] 0 (.fresh 0 0 (!w.params.followText "set-order")) }
/-- the payload holds the texts l, each once -/
structure TxS (P : Program) (w : World) (D : SD) (l : List Str) : Prop where
  ok : TxOk P w D l
  nd : l.Nodup
  ris : Ris D.2.2.place.toList
  led : w.params.followText "set-order" = true ∨ D.2.2.led = true
  txt : ∃ vs : List Value, (D.1.toList.map (·.2)).Perm vs ∧ StrsAre vs l
section
variable {P : Program} {w : World} {A : Around} {E : Value → Shared → Prop} {s : Shared}
theorem tail_more {ep : Nat} {es1 : Array (Int × Value)} {t2 : SetTable} {wd : Bool} (r : Ris t2.place.toList) :
    Ris (tailTx ep es1 t2 wd).2.2.place.toList ∧ (tailTx ep es1 t2 wd).2.2.led = t2.led ∧ (tailTx ep es1 t2 wd).1.toList.Perm es1.toList := by
  unfold tailTx
  by_cases c : (!wd && t2.tooFull) = true
  · rw [if_pos c]
    exact ⟨relayAll_ris _ _ _, relayAll_led _ _ _, relayAll_perm _ _ _⟩
  · rw [if_neg c]
    exact ⟨r, rfl, .refl _⟩
theorem TxS.none {D : SD} (h : D = (#[], 0, .fresh 0 0 (!w.params.followText "set-order"))) : TxS P w D [] := by
  subst h
  refine ⟨TxOk.nil rfl, List.nodup_nil, List.Pairwise.nil, ?_, [], .refl _, .nil⟩
  show _ ∨ (!w.params.followText "set-order") = true
  cases w.params.followText "set-order" with
  | true => exact .inl rfl
  | false => exact .inr rfl
theorem TxS.more {D : SD} {l : List Str} {k : Str} (u : Tok) (F : TxS P w D l) (hk : k ∉ l) : TxS P w (addTx (hashStr w k) (.str k u) D) (k :: l) := by
  obtain ⟨es, ep, t⟩ := D
  have h1 := layNew_ris t es (hashStr w k) (.str k u) F.ris
  have h2 := layNew_led t es (hashStr w k) (.str k u)
  have h3 := layNew_perm t es (hashStr w k) (.str k u)
  have ok := add_ok (k := k) u F.ok
  unfold addTx at ok ⊢
  dsimp only at ok ⊢
  generalize hL : layNew t es (hashStr w k) (.str k u) = L at h1 h2 h3 ok ⊢
  obtain ⟨es1, t1, wd, gv⟩ := L
  dsimp only at h1 h2 h3 ok ⊢
  have r2 : Ris (if t1.plain = true then { t1 with plain := false } else t1).place.toList := by split <;> exact h1
  have l2 : (if t1.plain = true then { t1 with plain := false } else t1).led = t.led := by split <;> exact h2
  obtain ⟨a, b, c⟩ := tail_more (ep := ep) (es1 := es1) (wd := wd) r2
  refine ⟨ok, List.nodup_cons.mpr ⟨hk, F.nd⟩, a, ?_, ?_⟩
  · rw [b, l2]; exact F.led
  · obtain ⟨vs, pv, sv⟩ := F.txt
    refine ⟨.str k u :: vs, ?_, .cons k u sv⟩
    have p1 := (c.trans h3).map (·.2)
    rw [Array.toList_push, List.map_append] at p1
    exact p1.trans (List.perm_append_comm.trans (pv.cons _))
theorem add_same {a : Addr} {T : String} {D : SD} {l : List Str} {k : Str} {u : Tok} {Q : Bool → Shared → Prop} (ho : s.heap.get? a = some (sObj T D)) (F : TxOk P w D l) (hk : k ∈ l) (hb : l.length < scanBound)
    (h : Q false s) : wpAny (model P w) A (setAddHashed a (.str k u) (hashStr w k)) Q E s := by
  obtain ⟨es, ep, t⟩ := D
  have hd : (sObj T (es, ep, t)).data = .set es ep t := rfl
  have hsz : es.size = l.length := F.sz
  have hel : ElemsOf (strKind P w) es.toList := F.el
  have hkey : (strKind P w).is k (.str k u) = true := is_str k u
  obtain ⟨j, hj⟩ : ∃ j, List.findIdx? (fun e => (strKind P w).is k e.2) es.toList = some j := by
    cases hr : List.findIdx? (fun e => (strKind P w).is k e.2) es.toList with
    | some j => exact ⟨j, rfl⟩
    | none =>
      obtain ⟨e, he, z⟩ := (F.mem k).mp hk
      rw [List.findIdx?_eq_none_iff] at hr
      have := hr e he
      rw [z] at this; cases this
  unfold setAddHashed setAddHashedIn
  refine wpAny_holding (wpAny_bind (wpAny_setState_of ho hd F.fit ?_))
  dsimp only
  rw [byScan_of rfl (by omega) hel]
  simp only [↓reduceIte]
  unfold setAddByScan
  refine wpAny_bind (wpAny_bind (wpAny_rule ?_))
  refine wpAny_bind (wpAny_setScan_of (knd := strKind P w) (k := k) hkey ho hd F.fit hel ?_)
  rw [hj]
  dsimp only
  exact wpAny_pure (wpAny_pure h)
/-- the loop of set(texts) -/
theorem loop_txt {I : Addr} {fp wr : List Addr} {G : Array GenState → Array GenState → Prop} {n : Nat} {Pv : Nat → Value → Prop} {St : Nat → Shared → Prop} {R : Result → Shared → Prop}
    (W : WalksS P w A.in1 I fp wr G n Pv St) (S : Addr) (hSf : S ∉ fp) (xs : List Str) (hn : n = xs.length) (hb : xs.length + 1 < scanBound) (hval : ∀ i v, Pv i v → ∃ x t, xs[i]? = some x ∧ v = .str x t) :
    ∀ (k i : Nat) (s : Shared), n - i = k → i ≤ n → St i s → (∃ D l, s.heap.get? S = some (sObj "set" D) ∧ TxS P w D l ∧ l.length ≤ i ∧ ∀ x, x ∈ l ↔ x ∈ xs.take i) →
      (∀ s' D l, Moved (S :: wr) G s s' → s'.heap.get? S = some (sObj "set" D) → TxS P w D l → l.length ≤ n → (∀ x, x ∈ l ↔ x ∈ xs) → R (.ok (.ret .none)) s') →
      codeAny (model P w) A (.builtin "set.update.loop" ⟨[.ref S, .ref I], []⟩) R s := by
  have hSw : S ∉ wr := fun h => hSf (W.sub _ h)
  have up : ∀ b ∈ wr, b ∈ S :: wr := fun b hb => List.mem_cons_of_mem _ hb
  intro k
  induction k with
  | zero =>
    intro i s hk hi hst ⟨D, l, hS, T, hl, hm⟩ hR
    obtain rfl : i = n := by omega
    refine codeAny_builtin PyProof.Rows.F.entry_set_update_loop ?_
    rw [Around.under_plainId PyProof.Rows.F.plain_set_update_loop _]
    show wpAny _ A.in1 (pyNext (.ref I) >>= _) _ _ s
    refine wpAny_bind (W.done s _ _ hst fun s' mv => wpAny_pure (hR s' D l (mv.mono up) (mv.heap S _ hSw hS) T hl fun x => ?_))
    rw [hm x, hn, List.take_length]
  | succ k ih =>
    intro i s hk hi hst ⟨D, l, hS, T, hl, hm⟩ hR
    have lt : i < n := by omega
    refine codeAny_builtin PyProof.Rows.F.entry_set_update_loop ?_
    rw [Around.under_plainId PyProof.Rows.F.plain_set_update_loop _]
    show wpAny _ A.in1 (pyNext (.ref I) >>= _) _ _ s
    refine wpAny_bind (W.item i s _ _ lt hst fun v s1 hv st1 mv => ?_)
    obtain ⟨x, t, hx, rfl⟩ := hval i v hv
    have hS1 : s1.heap.get? S = some (sObj "set" D) := mv.heap S _ hSw hS
    have tk : xs.take (i + 1) = xs.take i ++ [x] := by rw [List.take_add_one, hx]; rfl
    show wpAny _ A.in1 (holding [Value.str x t] (setAdd S (.str x t)) >>= _) _ _ s1
    refine wpAny_bind (wpAny_holding ?_)
    unfold setAdd
    refine wpAny_holding (wpAny_bind ((strKind P w).pyHash (k := x) (strKind_is _ _ _ _) ?_))
    by_cases c : x ∈ l
    · refine add_same (s := { s1 with toks := s1.toks + 1 }) hS1 T.ok c (by omega) ?_
      refine wpAny_pure ⟨plainId_quiet PyProof.Rows.F.plain_set_update_loop _, ih (i + 1) _ (by omega) lt (W.frame _ s1 _ _ st1 (Nat.le_succ _) fun b _ o e => e) ⟨D, l, hS1, T, by omega, fun y => ?_⟩ fun s2 D2 l2 m2 => hR s2 D2 l2 (Moved.trans W.gtrans ((mv.mono up).then_heap (Nat.le_succ _) fun b o _ e => e) m2)⟩
      rw [tk, List.mem_append, List.mem_singleton, ← hm y]
      exact ⟨.inl, fun z => z.elim id fun e => e ▸ c⟩
    · refine add_x (s := { s1 with toks := s1.toks + 1 }) hS1 T.ok c (by omega) ?_
      have oth : ∀ b o, b ≠ S → s1.heap.get? b = some o → (s1.heap.update S fun _ => sObj "set" (addTx (hashStr w x) (.str x t) D)).get? b = some o := fun b o hb e => by
        rw [Heap.get?_update_ne _ _ _ _ hb]; exact e
      refine wpAny_pure ⟨plainId_quiet PyProof.Rows.F.plain_set_update_loop _, ih (i + 1) _ (by omega) lt (W.frame _ s1 _ _ st1 (Nat.le_succ _) fun b hb o e => oth b o (fun z => hSf (z ▸ hb)) e) ⟨_, x :: l, get_upd _ hS1 rfl, T.more t c, by simp; omega, fun y => ?_⟩ fun s2 D2 l2 m2 =>
        hR s2 D2 l2 (Moved.trans W.gtrans ((mv.mono up).then_heap (Nat.le_succ _) fun b o hb e => oth b o (fun z => hb (by rw [z]; exact List.mem_cons_self)) e) m2)⟩
      rw [tk, List.mem_append, List.mem_singleton, List.mem_cons, ← hm y]
      exact Or.comm
/-- set(x), x a list: what the loop leaves -/
theorem call_set_list {l : Addr} {items : Array Value} {Z : Heap → Prop} {Q : Value → Shared → Prop} (hh : A.handled = none) (hl : s.heap.IsList l items)
    (loop : ∀ (B : Around) (R : Result → Shared → Prop), B.handled = none → B.units ≤ A.units + 2 → (∀ h' tk, Z h' → (∀ b o, s.heap.get? b = some o → h'.get? b = some o) → R (.ok (.ret .none)) { s with heap := h', toks := tk }) →
      codeAny (model P w) B (.builtin "set.update.loop" ⟨[.ref s.heap.objs.size, .ref (s.heap.push (set0 w)).objs.size], []⟩) R { s with heap := (s.heap.push (set0 w)).push { cls := .type "list_iterator", data := .fields #[.ref l, .int 0 0] } })
    (h : ∀ (h' : Heap) (tk : Nat), Z h' → (∀ b o, s.heap.get? b = some o → h'.get? b = some o) → Q (.ref s.heap.objs.size) { s with heap := h', toks := tk }) :
    wpAny (model P w) A (call (.type "set") [.ref l]) Q E s := by
  obtain ⟨c, tl, hmro⟩ := PySem.F.called_set.mro
  have hmade := PySem.F.called_set.made
  have hsub := PySem.F.called_set.sub
  refine wpAny_call (codeAny_of_tree ?_)
  show wpAny _ _ (callAny (.type "set") _) _ _ _
  refine wpAny_pure ⟨Code.quiet_builtin _ (by decide +kernel), codeAny_builtin PySem.F.entry_type_call ?_⟩
  rw [Around.under_plain (weight_type_call_type "set" [.ref l] []) rfl]
  have h1 := PySem.F.called_set.notType
  have h2 := PySem.F.called_set.canCreate
  have hct := PySem.F.typeCall_set_1 (.ref l)
  repeat (any_goals (first | assumption | wp_step))
  refine codeAny_mono (code_set_led1 (.ref l) (E := E) (Q₁ := fun obj s₁ => obj = .ref s.heap.objs.size ∧ s₁ = { s with heap := s.heap.push (set0 w) }) ⟨rfl, rfl⟩) fun r s₁ hr => ?_
  cases r with
  | error e => exact hr
  | ok fl =>
    cases fl with
    | ret obj =>
      obtain ⟨rfl, rfl⟩ := hr
      have hS : (s.heap.push (set0 w)).get? s.heap.objs.size = some (set0 w) := Heap.get?_push_size _ rfl
      have hT : Shared.TypeIs { s with heap := s.heap.push (set0 w) } (.ref s.heap.objs.size) "set" := ⟨_, hS, rfl⟩
      have hli := PySem.F.called_set.init.lookup
      have hbi := PySem.F.called_set.init.bind (.ref s.heap.objs.size)
      repeat (any_goals (first | assumption | wp_step))
      refine codeAny_mono (codeAny_call_builtin (R := wants (fun r s₂ => r = .none ∧ ∃ h' tk, s₂ = { s with heap := h', toks := tk } ∧ Z h' ∧ ∀ b o, s.heap.get? b = some o → h'.get? b = some o) E) PySem.F.called_set.init.plain PySem.F.entry_set_init (check_set_init_1 hT ?_)) fun r₂ s₂ hr₂ => ?_
      · obtain ⟨ol, hol, hcl, nl, hdl⟩ := hl
        obtain ⟨ocls, odict, odata, oslots⟩ := ol
        simp only at hcl hdl
        subst hcl; subst hdl
        have hol' : (s.heap.push (set0 w)).get? l = some { cls := .type "list", dict := odict, data := .seq items nl, slots := oslots } := Heap.get?_push_of_some _ hol
        have hsls := PySem.F.sub_list_set
        have hslf := PySem.F.sub_list_frozenset
        have hne : (Value.type "list" == Value.type "dict") = false := by decide
        have hl1 : (s.heap.push (set0 w)).IsList l items := ⟨_, hol', rfl, nl, rfl⟩
        unfold Builtin.«set.__init__» noKeywords Builtin.Frozenset.updateFrom
        generalize hPI : pyIter = PI
        wp_walk
        subst hPI
        refine wpAny_pyIter_list hl1 (wpAny_bind (wpAny_runValue (loop _ _ (by simp [hh]) ?UN fun h' tk z k => ?_)))
        case UN => exact Nat.le_refl _
        exact wpAny_pure (wpAny_pure ⟨rfl, h', tk, rfl, z, k⟩)
      · cases r₂ with
        | error e => exact hr₂
        | ok fl₂ =>
          cases fl₂ with
          | ret r =>
            obtain ⟨rfl, h', tk, rfl, z, k⟩ := hr₂
            repeat (any_goals (first | assumption | wp_step))
            exact h _ _ z k
          | _ => exact hr₂.elim
    | _ => exact hr.elim
/-- set(x), x a list of texts -/
theorem set_txt_list {l : Addr} {items : Array Value} {xs : List Str} {Q : Value → Shared → Prop} (hh : A.handled = none) (hl : s.heap.IsList l items) (hi : StrsAre items.toList xs) (hb : xs.length + 1 < scanBound)
    (h : ∀ (h' : Heap) (tk : Nat) (D : SD) (m : List Str), h'.get? s.heap.objs.size = some (sObj "set" D) → TxS P w D m → m.length ≤ xs.length → (∀ x, x ∈ m ↔ x ∈ xs) → (∀ b o, s.heap.get? b = some o → h'.get? b = some o) → Q (.ref s.heap.objs.size) { s with heap := h', toks := tk }) :
    wpAny (model P w) A (call (.type "set") [.ref l]) Q E s := by
  have hsz : items.size = xs.length := by rw [← StrsAre.len_eq hi, Array.length_toList]
  refine call_set_list (Z := fun h' => ∃ D m, h'.get? s.heap.objs.size = some (sObj "set" D) ∧ TxS P w D m ∧ m.length ≤ xs.length ∧ ∀ x, x ∈ m ↔ x ∈ xs) hh hl (fun B R hB _ hR => ?_) fun h' tk ⟨D, m, a, b, c, d⟩ k => h h' tk D m a b c d k
  have lS : l < s.heap.objs.size := by
    obtain ⟨ol, hol, _⟩ := hl
    exact Heap.lt_size hol
  have z1 : (s.heap.push (set0 w)).objs.size = s.heap.objs.size + 1 := Heap.size_push ..
  have nI : l ≠ (s.heap.push (set0 w)).objs.size := by rw [z1]; exact Nat.ne_of_lt (Nat.lt_succ_of_lt lS)
  have nS : s.heap.objs.size ∉ [(s.heap.push (set0 w)).objs.size, l] := by
    rw [z1]
    simp only [List.mem_cons, List.not_mem_nil, or_false, not_or]
    exact ⟨Nat.ne_of_lt (Nat.lt_succ_self _), Nat.ne_of_gt lS⟩
  have hS : (s.heap.push (set0 w)).get? s.heap.objs.size = some (set0 w) := Heap.get?_push_size _ rfl
  refine loop_txt ((Walks.list (by simp [hB]) _ l nI items).toS) s.heap.objs.size nS xs hsz hb (fun i v hv => ?_) (items.size - 0) 0 _ (by omega) (Nat.zero_le _) ⟨⟨_, Heap.get?_push_size _ rfl, rfl, rfl⟩, (hl.push _).push _⟩ ⟨(#[], 0, .fresh 0 0 (!w.params.followText "set-order")), [], Heap.get?_push_of_some _ hS, TxS.none rfl, Nat.le_refl _, fun x => by simp⟩ fun s' D m mv e T c d => ?_
  · have q := SS.strs_at hi i v (by rw [Array.getElem?_toList]; exact hv)
    obtain ⟨t, e⟩ := q
    have hi' : i < xs.length := by rw [← hsz]; exact (Array.getElem?_eq_some_iff.mp hv).1
    refine ⟨xs[i], t, List.getElem?_eq_getElem hi', ?_⟩
    rw [e, List.getD_eq_getElem?_getD, List.getElem?_eq_getElem hi']; rfl
  · obtain ⟨h', g', d', tk', os'⟩ := s'
    obtain rfl : g' = s.gens := mv.gens
    obtain rfl : d' = s.drawn := mv.drawn
    obtain rfl : os' = s.os := mv.os
    refine hR h' tk' ⟨D, m, e, T, by rw [← hsz]; exact c, d⟩ fun b o eb => ?_
    have b1 := Heap.lt_size eb
    refine mv.heap b o ?_ (Heap.get?_push_of_some _ (Heap.get?_push_of_some _ eb))
    rw [z1]
    simp only [List.mem_cons, List.not_mem_nil, or_false, not_or]
    exact ⟨Nat.ne_of_lt b1, Nat.ne_of_lt (Nat.lt_succ_of_lt b1)⟩
/-- set(x), x a tuple: what the loop leaves -/
theorem call_set_tuple {l : Addr} {items : Array Value} {Z : Heap → Prop} {Q : Value → Shared → Prop} (hh : A.handled = none) (hl : s.heap.IsTuple l items)
    (loop : ∀ (B : Around) (R : Result → Shared → Prop), B.handled = none → B.units ≤ A.units + 2 → (∀ h' tk, Z h' → (∀ b o, s.heap.get? b = some o → h'.get? b = some o) → R (.ok (.ret .none)) { s with heap := h', toks := tk }) →
      codeAny (model P w) B (.builtin "set.update.loop" ⟨[.ref s.heap.objs.size, .ref (s.heap.push (set0 w)).objs.size], []⟩) R { s with heap := (s.heap.push (set0 w)).push { cls := .type "tuple_iterator", data := .fields #[.ref l, .int 0 0] } })
    (h : ∀ (h' : Heap) (tk : Nat), Z h' → (∀ b o, s.heap.get? b = some o → h'.get? b = some o) → Q (.ref s.heap.objs.size) { s with heap := h', toks := tk }) :
    wpAny (model P w) A (call (.type "set") [.ref l]) Q E s := by
  obtain ⟨c, tl, hmro⟩ := PySem.F.called_set.mro
  have hmade := PySem.F.called_set.made
  have hsub := PySem.F.called_set.sub
  refine wpAny_call (codeAny_of_tree ?_)
  show wpAny _ _ (callAny (.type "set") _) _ _ _
  refine wpAny_pure ⟨Code.quiet_builtin _ (by decide +kernel), codeAny_builtin PySem.F.entry_type_call ?_⟩
  rw [Around.under_plain (weight_type_call_type "set" [.ref l] []) rfl]
  have h1 := PySem.F.called_set.notType
  have h2 := PySem.F.called_set.canCreate
  have hct := PySem.F.typeCall_set_1 (.ref l)
  repeat (any_goals (first | assumption | wp_step))
  refine codeAny_mono (code_set_led1 (.ref l) (E := E) (Q₁ := fun obj s₁ => obj = .ref s.heap.objs.size ∧ s₁ = { s with heap := s.heap.push (set0 w) }) ⟨rfl, rfl⟩) fun r s₁ hr => ?_
  cases r with
  | error e => exact hr
  | ok fl =>
    cases fl with
    | ret obj =>
      obtain ⟨rfl, rfl⟩ := hr
      have hS : (s.heap.push (set0 w)).get? s.heap.objs.size = some (set0 w) := Heap.get?_push_size _ rfl
      have hT : Shared.TypeIs { s with heap := s.heap.push (set0 w) } (.ref s.heap.objs.size) "set" := ⟨_, hS, rfl⟩
      have hli := PySem.F.called_set.init.lookup
      have hbi := PySem.F.called_set.init.bind (.ref s.heap.objs.size)
      repeat (any_goals (first | assumption | wp_step))
      refine codeAny_mono (codeAny_call_builtin (R := wants (fun r s₂ => r = .none ∧ ∃ h' tk, s₂ = { s with heap := h', toks := tk } ∧ Z h' ∧ ∀ b o, s.heap.get? b = some o → h'.get? b = some o) E) PySem.F.called_set.init.plain PySem.F.entry_set_init (check_set_init_1 hT ?_)) fun r₂ s₂ hr₂ => ?_
      · obtain ⟨ol, hol, hcl, nl, hdl⟩ := hl
        obtain ⟨ocls, odict, odata, oslots⟩ := ol
        simp only at hcl hdl
        subst hcl; subst hdl
        have hol' : (s.heap.push (set0 w)).get? l = some { cls := .type "tuple", dict := odict, data := .seq items nl, slots := oslots } := Heap.get?_push_of_some _ hol
        have hsls := PySem.F.sub_tuple_set
        have hslf := PySem.F.sub_tuple_frozenset
        have hne : (Value.type "tuple" == Value.type "dict") = false := by decide
        have hl1 : (s.heap.push (set0 w)).IsTuple l items := ⟨_, hol', rfl, nl, rfl⟩
        unfold Builtin.«set.__init__» noKeywords Builtin.Frozenset.updateFrom
        generalize hPI : pyIter = PI
        wp_walk
        subst hPI
        refine wpAny_pyIter_tuple hl1 (wpAny_bind (wpAny_runValue (loop _ _ (by simp [hh]) ?UN fun h' tk z k => ?_)))
        case UN => exact Nat.le_refl _
        exact wpAny_pure (wpAny_pure ⟨rfl, h', tk, rfl, z, k⟩)
      · cases r₂ with
        | error e => exact hr₂
        | ok fl₂ =>
          cases fl₂ with
          | ret r =>
            obtain ⟨rfl, h', tk, rfl, z, k⟩ := hr₂
            repeat (any_goals (first | assumption | wp_step))
            exact h _ _ z k
          | _ => exact hr₂.elim
    | _ => exact hr.elim
/-- set(x), x a tuple of texts -/
theorem set_txt_tuple {l : Addr} {items : Array Value} {xs : List Str} {Q : Value → Shared → Prop} (hh : A.handled = none) (hl : s.heap.IsTuple l items) (hi : StrsAre items.toList xs) (hb : xs.length + 1 < scanBound)
    (h : ∀ (h' : Heap) (tk : Nat) (D : SD) (m : List Str), h'.get? s.heap.objs.size = some (sObj "set" D) → TxS P w D m → m.length ≤ xs.length → (∀ x, x ∈ m ↔ x ∈ xs) → (∀ b o, s.heap.get? b = some o → h'.get? b = some o) → Q (.ref s.heap.objs.size) { s with heap := h', toks := tk }) :
    wpAny (model P w) A (call (.type "set") [.ref l]) Q E s := by
  have hsz : items.size = xs.length := by rw [← StrsAre.len_eq hi, Array.length_toList]
  refine call_set_tuple (Z := fun h' => ∃ D m, h'.get? s.heap.objs.size = some (sObj "set" D) ∧ TxS P w D m ∧ m.length ≤ xs.length ∧ ∀ x, x ∈ m ↔ x ∈ xs) hh hl (fun B R hB _ hR => ?_) fun h' tk ⟨D, m, a, b, c, d⟩ k => h h' tk D m a b c d k
  have lS : l < s.heap.objs.size := by
    obtain ⟨ol, hol, _⟩ := hl
    exact Heap.lt_size hol
  have z1 : (s.heap.push (set0 w)).objs.size = s.heap.objs.size + 1 := Heap.size_push ..
  have nI : l ≠ (s.heap.push (set0 w)).objs.size := by rw [z1]; exact Nat.ne_of_lt (Nat.lt_succ_of_lt lS)
  have nS : s.heap.objs.size ∉ [(s.heap.push (set0 w)).objs.size, l] := by
    rw [z1]
    simp only [List.mem_cons, List.not_mem_nil, or_false, not_or]
    exact ⟨Nat.ne_of_lt (Nat.lt_succ_self _), Nat.ne_of_gt lS⟩
  have hS : (s.heap.push (set0 w)).get? s.heap.objs.size = some (set0 w) := Heap.get?_push_size _ rfl
  refine loop_txt ((Walks.tuple (by simp [hB]) _ l nI items).toS) s.heap.objs.size nS xs hsz hb (fun i v hv => ?_) (items.size - 0) 0 _ (by omega) (Nat.zero_le _) ⟨⟨_, Heap.get?_push_size _ rfl, rfl, rfl⟩, (hl.push _).push _⟩ ⟨(#[], 0, .fresh 0 0 (!w.params.followText "set-order")), [], Heap.get?_push_of_some _ hS, TxS.none rfl, Nat.le_refl _, fun x => by simp⟩ fun s' D m mv e T c d => ?_
  · have q := SS.strs_at hi i v (by rw [Array.getElem?_toList]; exact hv)
    obtain ⟨t, e⟩ := q
    have hi' : i < xs.length := by rw [← hsz]; exact (Array.getElem?_eq_some_iff.mp hv).1
    refine ⟨xs[i], t, List.getElem?_eq_getElem hi', ?_⟩
    rw [e, List.getD_eq_getElem?_getD, List.getElem?_eq_getElem hi']; rfl
  · obtain ⟨h', g', d', tk', os'⟩ := s'
    obtain rfl : g' = s.gens := mv.gens
    obtain rfl : d' = s.drawn := mv.drawn
    obtain rfl : os' = s.os := mv.os
    refine hR h' tk' ⟨D, m, e, T, by rw [← hsz]; exact c, d⟩ fun b o eb => ?_
    have b1 := Heap.lt_size eb
    refine mv.heap b o ?_ (Heap.get?_push_of_some _ (Heap.get?_push_of_some _ eb))
    rw [z1]
    simp only [List.mem_cons, List.not_mem_nil, or_false, not_or]
    exact ⟨Nat.ne_of_lt b1, Nat.ne_of_lt (Nat.lt_succ_of_lt b1)⟩
end
end Lw

set_option Elab.async false
set_option linter.all false
set_option maxRecDepth 100000
set_option maxHeartbeats 4000000
namespace Lw
open PySem PySem.Spec PyProof.Rows L2 PySem.Calls PySem.Froz
open RZ (ItzT pi_zipA)
/-! ### sorted(set(x)), x a list or tuple of texts -/
def SetTx (P : Program) (w : World) (a : Addr) (l : List Str) : HO := .ext fun h => ∃ D, h.get? a = some (sObj "set" D) ∧ TxS P w D l
theorem setTx_new {P : Program} {w : World} {H : Hp} {h : Heap} {a : Addr} {D : SD} {l : List Str} (e : h.get? a = some (sObj "set" D)) (T : TxS P w D l) : ObjOk P w H h a (SetTx P w a l) :=
  ⟨⟨D, e, T⟩, ⟨_, e⟩, fun h1 h2 ⟨D, e, T⟩ k => ⟨D, k _ e, T⟩⟩
theorem perm_same {l m : List Str} (h1 : l.Nodup) (h2 : m.Nodup) (h : ∀ x, x ∈ l ↔ x ∈ m) : l.Perm m := (List.perm_ext_iff_of_nodup h1 h2).mpr h
theorem strs_perm {us vs : List Value} (p : us.Perm vs) : ∀ {m : List Str}, StrsAre us m → ∃ ws, StrsAre vs ws ∧ ws.Perm m := by
  induction p with
  | nil => intro m h; cases h; exact ⟨[], .nil, .refl _⟩
  | cons x p ih =>
    intro m h
    cases h with
    | cons n t hr =>
      obtain ⟨ws, h1, h2⟩ := ih hr
      exact ⟨_ :: ws, .cons n t h1, h2.cons _⟩
  | swap x y l =>
    intro m h
    cases h with
    | cons n t hr => cases hr with
      | cons n2 t2 hr2 => exact ⟨_, .cons n2 t2 (.cons n t hr2), .swap _ _ _⟩
  | trans p q ih1 ih2 =>
    intro m h
    obtain ⟨ws, h1, h2⟩ := ih1 h
    obtain ⟨zs, h3, h4⟩ := ih2 h1
    exact ⟨zs, h3, h4.trans h2⟩
section
variable {X : Cx}
def rSetTx (K : PySem.W.Frag) (P : Program) (w : World) : List V → Hp → VK → Prop := fun vs H Q => ∃ (a : Addr) (xs : List Str), vs = [.ref a] ∧ (SqL K H a (xs.map V.str) ∨ SqT K H a (xs.map V.str)) ∧ xs.length < 60 ∧
  ∀ p m, H p = none → m.Nodup → m.length ≤ xs.length → (∀ x, x ∈ m ↔ x ∈ xs) → Q (.ref p) (upd H p (SetTx P w p m))
theorem cr_setTx (hc : X.calm = true) : CallR X (.type "set") (rSetTx X.K X.prog X.w) := by
  intro pins s σ H vs us Q I r h
  obtain ⟨a, xs, rfl, hq, hz, q⟩ := h
  rw [Vals.ref1 r]
  have big : xs.length + 1 < scanBound := by unfold scanBound; omega
  have hn : H s.heap.objs.size = none := I.hok.fresh (Nat.le_refl _)
  have fin : ∀ (h' : Heap) (tk : Nat) (D : SD) (m : List Str), h'.get? s.heap.objs.size = some (sObj "set" D) → TxS X.prog X.w D m → m.length ≤ xs.length → (∀ x, x ∈ m ↔ x ∈ xs) → (∀ b o, s.heap.get? b = some o → h'.get? b = some o) →
      EP X pins σ Q (.ref s.heap.objs.size) { s with heap := h', toks := tk } := fun h' tk D m e T hl hm k =>
    ⟨.ref s.heap.objs.size, upd H s.heap.objs.size (SetTx X.prog X.w s.heap.objs.size m), I.laid (t' := tk) k (Nat.le_refl _) (setTx_new e T), rfl, q _ m hn T.nd hl hm⟩
  rcases hq with hq | hq
  · obtain ⟨its, rv, pl, _⟩ := I.list hq
    exact set_txt_list (P := X.prog) (w := X.w) (I.ok.hd hc) pl.isList (by simpa using strsAre_of rv) big fin
  · obtain ⟨its, rv, pl, _⟩ := I.tuple hq
    exact set_txt_tuple (P := X.prog) (w := X.w) (I.ok.hd hc) (show s.heap.IsTuple a its.toArray from pl) (by simpa using strsAre_of rv) big fin
def rSortTx (P : Program) (w : World) : List V → Hp → VK → Prop := fun vs H Q => ∃ (a : Addr) (m : List Str), vs = [V.ref a] ∧ H a = some (SetTx P w a m) ∧ m.length < 60 ∧
  ∀ (ys : List Str) (p : Addr), ys.Perm m → sortedS ys = true → H p = none → Q (.ref p) (upd H p (.lst (ys.map V.str)))
theorem cr_sortTx (hc : X.calm = true) : CallR X (.builtin "sorted") (rSortTx X.prog X.w) := by
  intro pins s σ H vs us Q I r h
  obtain ⟨a, m, rfl, ha, hz, q⟩ := h
  rw [Vals.ref1 r]
  obtain ⟨D, ho, T⟩ : ∃ D, s.heap.get? a = some (sObj "set" D) ∧ TxS X.prog X.w D m := (I.hok a _ ha).1
  obtain ⟨es, ep, t⟩ := D
  have hsz : es.size = m.length := T.ok.sz
  refine Calls.call_function_entry kind_sorted plain_sorted entry_sorted (args_sorted1 _) ?_
  unfold Builtin.«sorted»
  refine wpAny_bind (m := checkCount "sorted" 1 1 _) (wpAny_pure ?_)
  refine wpAny_bind (collect_set (A := X.A.in1) (I.ok.hd hc) ⟨_, ho, rfl, rfl⟩ T.ok.fit (by show es.size < scanBound; unfold scanBound; omega) T.ris T.led fun s1 vs k1 hz1 g1 o1 pm => ?_)
  obtain ⟨us0, pu, su⟩ := T.txt
  have pv : vs.Perm us0 := pm.trans pu
  obtain ⟨ws, hS, pw⟩ := strs_perm pv.symm su
  have hal : vs.length = m.length := by rw [StrsAre.len_eq hS, pw.length_eq]
  refine wpAny_bind (wpAny_newList ?_ (by rw [hal, sizeLine_eq]; omega))
  have hoL : (s1.heap.push (seqObj "list" vs.toArray 0)).get? s1.heap.objs.size = some (seqObj "list" vs.toArray 0) := Heap.get?_push_size _ rfl
  refine wpAny_bind (wpAny_holding (wpAny_call_entry slot_list_sort ⟨_, hoL, rfl⟩ entry_list_sort
    (list_sort_treeK strKind_oneLt (s := { s1 with heap := s1.heap.push (seqObj "list" vs.toArray 0) }) hoL hS.keysOf (fun v₁ v₂ rest e => keyKind_strs (by rw [← e]; exact hS)) (by rw [hal]; omega) fun st' hp hs => ⟨_, rfl, ?_⟩) (args_list_sort _)))
  obtain ⟨ys, e1, e2, e3⟩ := sorted_out_str hS hp hs
  obtain ⟨c, hcl⟩ := sortedHeap_at (vs := vs) (out := (arrOf st').map (·.2)) hoL
  have hlen : (ys.map V.str).length ≤ sizeLine := by rw [List.length_map, e2.length_eq, pw.length_eq, sizeLine_eq]; omega
  have kk : ∀ b u, s.heap.get? b = some u → (sortedHeap (s1.heap.push (seqObj "list" vs.toArray 0)) s1.heap.objs.size vs ((arrOf st').map (·.2))).get? b = some u := fun b u e => by
    have q := k1 b u e
    have hlt := Heap.lt_size q
    rw [sortedHeap_old (Nat.ne_of_lt hlt) (by rw [size_push']; exact Nat.lt_succ_of_lt hlt)]
    exact Heap.get?_push_of_some _ q
  have hn : H s1.heap.objs.size = none := I.hok.fresh hz1
  obtain ⟨h1, g', d1, tk1, os1⟩ := s1
  obtain rfl : g' = s.gens := g1
  obtain rfl : os1 = s.os := o1
  have J : L2.Inv X pins σ (upd H h1.objs.size (.lst (ys.map V.str))) { s with heap := sortedHeap (h1.push (seqObj "list" vs.toArray 0)) h1.objs.size vs ((arrOf st').map (·.2)), gens := s.gens, drawn := d1, toks := tk1 } :=
    I.call (ch := []) (Un.laid kk hz1 hn) (I.hok.laid kk hz1 ⟨hlen, ((arrOf st').map (·.2)).toList, c, vals_of_strs e1, hcl⟩) I.bare (fun _ z => nomatch z)
  exact wpAny_pure ⟨_, rfl, .ref h1.objs.size, upd H h1.objs.size (.lst (ys.map V.str)), J, rfl, q ys _ (e2.trans pw) e3 hn⟩
end
section
variable {X : Cx} {e o k x : Expr} {qe qd qk qx : QE} {p1 p2 pos apos : Pos}
def qSortSet (qe : QE) : QE := fun ρ G Q => qe ρ G fun x G1 => ∃ xs : List Str, (x = .tup (xs.map T.str) ∨ ∃ a, x = .ref a ∧ G1 a = some (.lst (xs.map T.str))) ∧ xs.length < 60 ∧
  ∀ ys : List Str, ys.Nodup → (∀ x, x ∈ ys ↔ x ∈ xs) → sortedS ys = true → ∀ p, G1 p = none → Q (.ref p) (gput G1 p (.lst (ys.map T.str)))
theorem RpL.strs {K : PySem.W.Frag} {H : Hp} : ∀ {ns : List Str} {vs : List V}, RpL K H (ns.map T.str) vs → vs = ns.map V.str
  | [], _, h => h
  | n :: ns, _, ⟨v, r, e, h, hr⟩ => by rw [e, show v = V.str n from h, RpL.strs hr]; rfl
theorem e_sortSet (hc : X.calm = true) (hg : Gl X "sorted") (hm : X.mg "sorted" = none) (hg2 : Gl X "set") (hm2 : X.mg "set" = none) (he : PE X e (cE X.K qe))
    (h1 : starEach [e] X.env = (false, eval e X.env) :: starEach [] X.env := by rfl) (h2 : starEach [.Call (.Name "set" p2) [e] [] apos] X.env = (false, eval (.Call (.Name "set" p2) [e] [] apos) X.env) :: starEach [] X.env := by rfl) :
    PE X (.Call (.Name "sorted" p1) [.Call (.Name "set" p2) [e] [] apos] [] pos) (cE X.K (qSortSet qe)) :=
  PE.wk (pe_callB (cr_sortTx hc) hg hm boot_sorted (pa_cons (pe_callTy (cr_setTx hc) hg2 hm2 (by decide +kernel) (pa_cons he pa_nil h1) (he := h1)) pa_nil h2) (he := h2)) fun σ H KQ h => by
    obtain ⟨ρ, G, Q, e, a, q, g⟩ := h
    refine ⟨ρ, G, _, e, a, q, fun v H1 t G1 k1 a1 r1 ⟨xs, hx, hz, q1⟩ => ?_⟩
    have fin : ∀ p, (SqL X.K H1 p (xs.map V.str) ∨ SqT X.K H1 p (xs.map V.str)) → v = .ref p → rSetTx X.K X.prog X.w [v] H1 fun x H2 => rSortTx X.prog X.w [x] H2 KQ := fun p hs ev => by
      refine ⟨p, xs, by rw [ev], hs, hz, fun p1 m hp1 nd hl hmm => ⟨p1, m, rfl, upd_same, by omega, fun ys p2 py sy hp2 => ?_⟩⟩
      have n1 : Tups H1 (upd H1 p1 (SetTx X.prog X.w p1 m)) := Tups.new hp1
      have a2 := a1.grow (u := SetTx X.prog X.w p1 m) hp1
      have n2 : Tups _ (upd (upd H1 p1 (SetTx X.prog X.w p1 m)) p2 (.lst (ys.map V.str))) := Tups.new hp2
      exact g (.ref p2) _ (.ref p2) _ (k1.trans (n1.trans n2)) (a2.put (o := .lst (ys.map T.str)) ⟨fun xs z => (by rw [hp2] at z; cases z), fun o xs z => (by rw [hp2] at z; cases z)⟩ ⟨_, upd_same, RpL.of_strs⟩) rfl (q1 ys (py.nodup_iff.mpr nd) (fun x => py.mem_iff.trans (hmm x)) sy p2 (a2.free hp2))
    rcases hx with rfl | ⟨b, rfl, hg1⟩
    · obtain ⟨b, ws, rfl, hb, rr⟩ := r1
      rw [rr.strs] at hb
      exact fin b (.inr (SqT.of hb)) rfl
    · cases r1
      obtain ⟨ws, hb, rr⟩ := a1 _ _ hg1
      rw [rr.strs] at hb
      exact fin b (.inl (SqL.of hb)) rfl
/-! ### d.get(k, x) -/
def qGet2 (qd qk qx : QE) : QE := fun ρ G Q => qd ρ G fun d G1 => match d with
  | .ref a => (∃ kvs, G1 a = some (.dK kvs)) ∧ qk ρ G1 fun y G2 => qx ρ G2 fun z G3 => ∃ k kvs, keyT y = some k ∧ G3 a = some (.dK kvs) ∧ Q ((valT kvs k).getD z) G3
  | _ => False
theorem e_get2 (hu : X.A.units + 1 < cLine) (ho : PE X o (cE X.K qd)) (hk : PE X k (cE X.K qk)) (hx : PE X x (cE X.K qx)) (m : M2 X o "get" apos k x pos) : PE X (.Call (.Attribute o "get" apos) [k, x] [] pos) (cE X.K (qGet2 qd qk qx)) :=
  PE.wk (pe_dget2 hu ho hk hx m) fun σ H KQ h => by
    obtain ⟨ρ, G, Q, e, a, q, g⟩ := h
    refine ⟨ρ, G, _, e, a, q, fun v H1 t G1 k1 a1 r1 q1 => ?_⟩
    split at q1
    · rename_i d
      obtain ⟨⟨kvs0, hd0⟩, q1⟩ := q1
      cases r1
      obtain ⟨ws0, hp0, _⟩ := a1 _ _ hd0
      refine ⟨_, rfl, .inl ⟨ws0, .inl hp0⟩, ρ, G1, _, e.mono k1, a1, q1, fun w H2 u G2 k2 a2 r2 q2 => ?_⟩
      refine ⟨ρ, G2, _, e.mono (k1.trans k2), a2, q2, fun z H3 y G3 k3 a3 r3 q3 => ?_⟩
      obtain ⟨kk, kvs, hkk, hg, q3⟩ := q3
      obtain ⟨ws, hp, r⟩ := a3 _ _ hg
      have ev := keyT_rp hkk (r2.mono k3)
      subst ev
      refine ⟨_, DGet.k (k := kk) hp, ?_⟩
      obtain ⟨s1, s2⟩ := r.val (k := kk)
      have kt := (k1.trans k2).trans k3
      cases hv : valT kvs kk with
      | none =>
        rw [hv] at s1 q3
        have : valV ws kk = none := by
          cases hw : valV ws kk with
          | none => rfl
          | some _ => rw [hw] at s1; cases s1
        rw [this]
        exact g z H3 y G3 kt a3 r3 q3
      | some t =>
        rw [hv] at q3
        obtain ⟨v, e1, rv⟩ := s2 t hv
        rw [e1]
        exact g v H3 t G3 kt a3 rv q3
    · exact q1.elim
/-! ### dict(pairs) -/
def fDictP : QC := fun ts G Q => match ts with
  | [.ref a] => ∃ kvs : List (Key × T), G a = some (.lst (kvs.map fun kv => T.tup [kT kv.1, kv.2])) ∧ (kvs.map (·.1)).Nodup ∧ ∀ p, G p = none → Q (.ref p) (gput G p (.dK kvs))
  | _ => False
theorem mergeK_new : ∀ {ws acc : List (Key × V)}, ((acc ++ ws).map (·.1)).Nodup → mergeK acc ws = acc ++ ws
  | [], acc, _ => by simp [mergeK]
  | p :: ws, acc, h => by
    have e : L2.putK acc p.1 p.2 = acc ++ [p] := by
      unfold L2.putK
      rw [if_neg]
      intro z
      rw [List.any_eq_true] at z
      obtain ⟨q, hq, z⟩ := z
      have z := of_decide_eq_true z
      rw [List.map_append, List.nodup_append] at h
      exact h.2.2 q.1 (List.mem_map.mpr ⟨q, hq, rfl⟩) p.1 (by simp) z
    show mergeK (L2.putK acc p.1 p.2) ws = _
    rw [e, mergeK_new (by rw [List.append_assoc]; exact h), List.append_assoc]; rfl
theorem pairs_rp {K : PySem.W.Frag} {H : Hp} : ∀ {kvs : List (Key × T)} {vs : List V}, RpL K H (kvs.map fun kv => T.tup [kT kv.1, kv.2]) vs → ∃ (ps : List Addr) (ws : List (Key × V)), vs = ps.map V.ref ∧ RpK K H kvs ws ∧ Paired (fun p kv => SqT K H p [kV kv.1, kv.2]) ps ws
  | [], _, h => ⟨[], [], h, rfl, .nil⟩
  | kv :: kvs, _, ⟨v, r, e, ⟨a, vs, e2, ha, v1, r1, e3, h1, v2, r2, e4, h2, h3⟩, hr⟩ => by
    obtain ⟨ps, ws, q1, q2, q3⟩ := pairs_rp hr
    have ek : v1 = kV kv.1 := by
      cases hk : kv.1 <;> (rw [hk] at h1; exact h1)
    subst ek
    subst e4
    rw [show r2 = [] from h3] at e3
    subst e3
    exact ⟨a :: ps, (kv.1, v2) :: ws, by rw [e, e2, q1]; rfl, ⟨v2, ws, rfl, h2, q2⟩, .cons (SqT.of ha) q3⟩
theorem b_dictP (hc : X.calm = true) : CallR X (.type "dict") (cC X.K fDictP) := by
  intro pins s σ H vs us KQ I r h
  obtain ⟨ts, G, Q, hr, ha, hf, hk⟩ := h
  unfold fDictP at hf
  split at hf
  · obtain ⟨v, rfl, h1⟩ := rpl1 hr
    cases h1
    obtain ⟨kvs, hg, nd, q⟩ := hf
    obtain ⟨vs, hp, rr⟩ := ha _ _ hg
    obtain ⟨ps, ws, rfl, q2, q3⟩ := pairs_rp rr
    have nw : (([] ++ ws : List (Key × V)).map (·.1)).Nodup := by rw [List.nil_append, q2.keys]; exact nd
    refine call_dictP hc pins s σ H _ us KQ I r ⟨_, ps, ws, rfl, SqL.of hp, q3, fun p hp0 => ?_⟩
    rw [mergeK_new nw, List.nil_append]
    have k2 : Tups H (upd H p (.dK ws)) := Tups.new hp0
    exact hk (.ref p) _ (.ref p) _ k2 (ha.put (o := .dK kvs) ⟨fun xs z => (by rw [hp0] at z; cases z), fun o xs z => (by rw [hp0] at z; cases z)⟩ ⟨ws, upd_same, q2.mono k2⟩) rfl (q p (ha.free hp0))
  · exact hf.elim
/-! ### zip of two lists, two tuples -/
def zipT (xs ys : List T) : List T := List.zipWith (fun a b => T.tup [a, b]) xs ys
theorem zipT_len {xs ys : List T} : (zipT xs ys).length = min xs.length ys.length := by unfold zipT; rw [List.length_zipWith]
theorem zipT_at {xs ys : List T} {i : Nat} {x y : T} (h1 : xs[i]? = some x) (h2 : ys[i]? = some y) : (zipT xs ys)[i]? = some (.tup [x, y]) := by
  unfold zipT
  rw [List.getElem?_zipWith, h1, h2]
theorem zipT_get {xs ys : List T} {i : Nat} {t : T} (h : (zipT xs ys)[i]? = some t) : ∃ x y, xs[i]? = some x ∧ ys[i]? = some y ∧ t = .tup [x, y] := by
  have hi := (List.getElem?_eq_some_iff.mp h).1
  rw [zipT_len] at hi
  have e1 : xs[i]? = some xs[i] := List.getElem?_eq_getElem (by omega)
  have e2 : ys[i]? = some ys[i] := List.getElem?_eq_getElem (by omega)
  rw [zipT_at e1 e2] at h
  exact ⟨_, _, e1, e2, (Option.some.inj h).symm⟩
theorem wt_zipL {K : PySem.W.Frag} {H1 : Hp} {a b : Addr} {xs ys : List T} : WalkT K (Itz K a b) H1 (zipT xs ys) (fun G => G a = some (.lst xs) ∧ G b = some (.lst ys)) where
  goes := fun i H G hi k ab s => by
    rw [zipT_len] at hi
    obtain ⟨vs, hp, r⟩ := ab _ _ s.1
    obtain ⟨ws, hq, r'⟩ := ab _ _ s.2
    obtain ⟨v, hv, _⟩ := r.at (show xs[i]? = some (xs[i]'(by omega)) by rw [List.getElem?_eq_getElem])
    obtain ⟨w, hw, _⟩ := r'.at (show ys[i]? = some (ys[i]'(by omega)) by rw [List.getElem?_eq_getElem])
    exact ⟨vs, ws, v, w, SqL.of hp, SqL.of hq, hv, hw⟩
  stops := fun H G k ab s => by
    obtain ⟨vs, hp, r⟩ := ab _ _ s.1
    obtain ⟨ws, hq, r'⟩ := ab _ _ s.2
    refine ⟨vs, ws, SqL.of hp, SqL.of hq, ?_⟩
    rw [r.length, r'.length, zipT_len]
    omega
  yields := fun i H G x H' hi k ab s y => by
    obtain ⟨p, z1, z2, rfl, hp0, rfl, h1, h2⟩ := y
    obtain ⟨vs, hp, r⟩ := ab _ _ s.1
    obtain ⟨ws, hq, r'⟩ := ab _ _ s.2
    obtain ⟨t, ht, rt⟩ := r.get (h1 vs (SqL.of hp))
    obtain ⟨u, hu, ru⟩ := r'.get (h2 ws (SqL.of hq))
    exact ⟨Tups.new hp0, ab.grow hp0, _, zipT_at ht hu, pair_new hp0 rt ru⟩
theorem wt_zipT {K : PySem.W.Frag} {H1 : Hp} {a b : Addr} {xs ys : List T} {vs ws : List V} (hp : H1 a = some (.tup vs)) (r : RpL K H1 xs vs) (hq : H1 b = some (.tup ws)) (r' : RpL K H1 ys ws) : WalkT K (ItzT K a b) H1 (zipT xs ys) (fun _ => True) where
  goes := fun i H G hi k ab s => by
    rw [zipT_len] at hi
    obtain ⟨v, hv, _⟩ := r.at (show xs[i]? = some (xs[i]'(by omega)) by rw [List.getElem?_eq_getElem])
    obtain ⟨w, hw, _⟩ := r'.at (show ys[i]? = some (ys[i]'(by omega)) by rw [List.getElem?_eq_getElem])
    exact ⟨vs, ws, v, w, SqT.of (k.t _ _ hp), SqT.of (k.t _ _ hq), hv, hw⟩
  stops := fun H G k ab s => by
    refine ⟨vs, ws, SqT.of (k.t _ _ hp), SqT.of (k.t _ _ hq), ?_⟩
    rw [r.length, r'.length, zipT_len]
    omega
  yields := fun i H G x H' hi k ab s y => by
    obtain ⟨p, z1, z2, rfl, hp0, rfl, h1, h2⟩ := y
    obtain ⟨t, ht, rt⟩ := (r.mono k).get (h1 vs (SqT.of (k.t _ _ hp)))
    obtain ⟨u, hu, ru⟩ := (r'.mono k).get (h2 ws (SqT.of (k.t _ _ hq)))
    exact ⟨Tups.new hp0, ab.grow hp0, _, zipT_at ht hu, pair_new hp0 rt ru⟩
def qiZip (qa : QA) : QI := fun ρ G R => qa ρ G fun ts G1 => match ts with
  | [.tup xs, .tup ys] => R (zipT xs ys) (fun _ => True) G1
  | [.ref a, .ref b] => ∃ xs ys, G1 a = some (.lst xs) ∧ G1 b = some (.lst ys) ∧ R (zipT xs ys) (fun G => G a = some (.lst xs) ∧ G b = some (.lst ys)) G1
  | _ => False
theorem i_zip {qa : QA} {f : Expr} {tpos : Pos} {elts : List Expr} {kk : Nat} (hg : Gl X "zip") (hm : X.mg "zip" = none) (ha : PA X [e, f] (cA X.K qa))
    (hs : starEach [e, f] X.env = (false, eval e X.env) :: starEach [f] X.env := by rfl) (hpl : (backTo pos (starEach [f] X.env)).any (·.1) = false := by rfl) :
    PI X (.Tuple elts kk tpos) (.Call (.Name "zip" p1) [e, f] [] pos) (cI X.K (qiZip qa)) := PI.wk (pi_zipA hg hm ha hs hpl) fun σ H R h => by
  obtain ⟨ρ, G, Q, e, a, q, f⟩ := h
  refine ⟨ρ, G, _, e, a, q, fun vs H1 ts G1 k1 a1 r1 q1 => ?_⟩
  split at q1
  · obtain ⟨v, w, rfl, h1, h2⟩ := rpl2 r1
    obtain ⟨p, vs, rfl, hp, r⟩ := h1
    obtain ⟨p', ws, rfl, hp', r'⟩ := h2
    exact ⟨p, p', vs, ws, rfl, .inr ⟨SqT.of hp, SqT.of hp', f _ H1 _ _ G1 k1 a1 (wt_zipT hp r hp' r') q1⟩⟩
  · obtain ⟨v, w, rfl, h1, h2⟩ := rpl2 r1
    cases h1; cases h2
    obtain ⟨xs, ys, g1, g2, q1⟩ := q1
    obtain ⟨vs, hp, r⟩ := a1 _ _ g1
    obtain ⟨ws, hp', r'⟩ := a1 _ _ g2
    exact ⟨_, _, vs, ws, rfl, .inl ⟨SqL.of hp, SqL.of hp', f _ H1 _ _ G1 k1 a1 wt_zipL q1⟩⟩
  · exact q1.elim
end
end Lw

set_option Elab.async false
set_option linter.all false
set_option maxRecDepth 100000
set_option maxHeartbeats 4000000
namespace Lw
open PySem PySem.Spec PyProof.Rows L2 HT
/-! ### t[::-1], t a tuple -/
theorem back_at (n k : Nat) (h : k < n) : (((n : Int) - 1) + (k : Int) * (-1)).toNat = n - 1 - k := by omega
theorem fm_map {α β : Type} {f : α → Option β} {g : α → β} : ∀ {l : List α}, (∀ k ∈ l, f k = some (g k)) → l.filterMap f = l.map g
  | [], _ => rfl
  | k :: l, h => by rw [List.filterMap_cons, h k List.mem_cons_self, List.map_cons, fm_map fun j hj => h j (List.mem_cons_of_mem _ hj)]
theorem back_pick (xs : Array Value) : ((List.range xs.size).filterMap fun (k : Nat) => xs[(((xs.size : Int) - 1) + (k : Int) * (-1)).toNat]?) = xs.toList.reverse := by
  have e : ∀ k ∈ List.range xs.size, xs[(((xs.size : Int) - 1) + (k : Int) * (-1)).toNat]? = some (xs.toList.reverse.getD k .none) := fun k hk => by
    have hk := List.mem_range.mp hk
    rw [back_at _ _ hk, ← Array.getElem?_toList]
    have : xs.toList.reverse[k]? = xs.toList[xs.size - 1 - k]? := by
      rw [List.getElem?_reverse (by simpa using hk), Array.length_toList]
    rw [List.getD_eq_getElem?_getD, this]
    rw [List.getElem?_eq_getElem (by simp; omega)]; rfl
  have e2 : ((List.range xs.size).filterMap fun (k : Nat) => xs[(((xs.size : Int) - 1) + (k : Int) * (-1)).toNat]?) = (List.range xs.size).map fun k => xs.toList.reverse.getD k .none := by
    exact fm_map e
  rw [e2]
  refine List.ext_getElem (by simp) fun i h1 h2 => ?_
  rw [List.getElem_map, List.getElem_range, List.getD_eq_getElem?_getD, List.getElem?_eq_getElem h2]; rfl
section
variable {prog : Program} {w : World} {A : Around} {E : Value → Shared → Prop} {s : Shared}
theorem applied_back {sl : Addr} {vs : Value} {n : Nat} {Q : Int × Int × Nat → Shared → Prop} (hs : s.heap.IsSliceOf sl .none .none vs) (ps : IsPart vs (some (-1))) (h : Q ((n : Int) - 1, -1, n) s) :
    wpAny (model prog w) A (Builtin.Slice.sliceApplied (.ref sl) (pure (n : Int))) Q E s := by
  obtain ⟨os, hos, hcs, hds⟩ := id hs
  unfold Builtin.Slice.sliceApplied Builtin.Slice.sliceFields
  refine wpAny_bind (wpAny_bind (wpAny_field hos hds (x := .none) rfl (wpAny_bind (wpAny_field hos hds (x := .none) rfl (wpAny_bind (wpAny_field hos hds (x := vs) rfl (wpAny_pure ?_)))))))
  refine wpAny_bind (slicePart_ ps ?_)
  show wpAny _ _ (if ((-1 : Int) == 0) = true then _ else _) _ _ s
  rw [if_neg (by decide)]
  refine wpAny_bind (slicePart_none (wpAny_bind (slicePart_none (wpAny_bind (wpAny_pure ?_)))))
  have e1 : Builtin.Slice.sliceAdjust none none (-1) (n : Int) = ((n : Int) - 1, -1) := by
    unfold Builtin.Slice.sliceAdjust
    simp
  show wpAny _ _ (match Builtin.Slice.sliceAdjust none none (-1) (n : Int) with | (lo, hi) => pure (lo, (-1 : Int), Builtin.Slice.slicePlaces lo hi (-1))) _ _ s
  rw [e1]
  have e2 : Builtin.Slice.slicePlaces ((n : Int) - 1) (-1) (-1) = n := by
    unfold Builtin.Slice.slicePlaces
    simp
    try omega
  show wpAny _ _ (pure ((n : Int) - 1, (-1 : Int), Builtin.Slice.slicePlaces ((n : Int) - 1) (-1) (-1))) _ _ s
  rw [e2]
  exact wpAny_pure h
theorem item_back {t sl : Addr} {items : Array Value} {vs : Value} {Q : Value → Shared → Prop} (ht : IsTup s.heap t items) (hs : s.heap.IsSliceOf sl .none .none vs) (ps : IsPart vs (some (-1)))
    (h : Q (.ref s.heap.objs.size) { s with heap := s.heap.push { cls := .type "tuple", data := .seq items.toList.reverse.toArray } }) (hsz : items.size ≤ sizeLine) : wpAny (model prog w) A (getItem (.ref t) (.ref sl)) Q E s := by
  have hok : sizeOk (.seq items.toList.reverse.toArray) := by
    show items.toList.reverse.toArray.size ≤ sizeLine
    simpa using hsz
  obtain ⟨os, hos, hcs, hds⟩ := id hs
  have hTs : s.TypeIs (.ref sl) "slice" := ⟨os, hos, hcs⟩
  unfold getItem
  try with_reducible refine wpAny_holding ?_
  first | refine wpAny_bind (wpAny_pure ?_) | skip
  refine wpAny_bind (wpAny_sequenceKey ht.typeIs (by decide) ?_)
  refine wpAny_bind (wpAny_callSpecial?_slot (name := Str.ofString "__getitem__") ht.typeIs PyProof.Rows.slot_tuple_getitem
    (wpAny_call_entry PyProof.Rows.slot_tuple_getitem ht.typeIs entry_tuple_getitem ?_ (args_tuple_getitem _ _)))
  show wpAny _ _ (Builtin.Tuple.tupleItemsOf (.ref t) >>= _) _ _ s
  refine wpAny_bind (tupleItemsOf_ ht (wpAny_bind (wpAny_typeOf hTs ?_)))
  rw [if_pos (by decide)]
  refine wpAny_bind (applied_back hs ps ?_)
  have no : ¬ (((items.size : Int) - 1 == 0 && (-1 : Int) == 1 && items.size == items.size) = true) := by
    intro q
    rw [Bool.and_eq_true, Bool.and_eq_true] at q
    exact absurd q.1.2 (by decide)
  show wpAny _ _ (if ((items.size : Int) - 1 == 0 && (-1 : Int) == 1 && items.size == items.size) = true then _ else _) _ _ s
  rw [if_neg no, back_pick]
  first
    | exact wpAny_bind (m := Builtin.Tuple.tupleExact _) (wpAny_newObj_type (wpAny_pure ⟨_, rfl, wpAny_pure h⟩) hok)
    | exact wpAny_bind (m := Builtin.Tuple.tupleExact _) (wpAny_newObj_type (wpAny_bind (wpAny_pure (wpAny_pure ⟨_, rfl, wpAny_pure h⟩))) hok)
    | exact wpAny_bind (wpAny_bind (m := Builtin.Tuple.tupleExact _) (wpAny_newObj_type (wpAny_pure (wpAny_pure ⟨_, rfl, wpAny_pure h⟩)) hok))
    | exact wpAny_bind (wpAny_bind (m := Builtin.Tuple.tupleExact _) (wpAny_newObj_type (wpAny_pure ⟨_, rfl, wpAny_pure h⟩) hok))
end
section
variable {X : Cx}
def tBackT (K : PySem.W.Frag) (te : TE) : TE := fun σ H Q => te σ H fun x H1 => ∃ a xs, x = .ref a ∧ SqT K H1 a xs ∧ ∀ p, H1 p = none → Q (.ref p) (upd H1 p (.tup xs.reverse))
theorem pe_backT {e : Expr} {te : TE} {k : Nat} {p1 p2 p3 pos : Pos} (he : PE X e te) : PE X (.Subscript e (.Slice none none (some (.UnaryOp .USub (.Constant (.int 1) k p1) p2)) p3) pos) (tBackT X.K te) := by
  refine ⟨fun pins s σ H Q I h => ?_⟩
  refine Subscript_ (thn (he.run pins s σ H _ I h) fun v s1 ⟨x, H1, I1, r1, a, xs, ex, hx, q⟩ => ?_)
  subst ex
  cases r1
  have hst : PO X (some (.UnaryOp .USub (.Constant (.int 1) k p1) p2)) (tPart (tUn (rU fun i => .int (-i)) (tC (.int 1)))) := po_some (pe_un un_neg pe_int)
  refine wpAny_Slice (thn (po_none.run pins s1 σ H1 (fun o H2 => o = none ∧ H2 = H1) I1 ⟨rfl, rfl⟩) fun vl s2 ⟨l, H2, I2, pl, el, e2⟩ => ?_)
  subst el e2
  refine thn (po_none.run pins s2 σ H2 (fun o H3 => o = none ∧ H3 = H2) I2 ⟨rfl, rfl⟩) fun vu s3 ⟨u, H3, I3, pu, eu, e3⟩ => ?_
  subst eu e3
  refine thn (hst.run pins s3 σ H3 (fun o H4 => o = some (-1) ∧ H4 = H3) I3 ⟨1, rfl, -1, rfl, rfl, rfl⟩) fun vs s4 ⟨o, H4, I4, ps, eo, e4⟩ => ?_
  subst eo e4
  cases pl
  cases pu
  have I5 : Inv X pins σ H4 { s4 with heap := s4.heap.push { cls := .type "slice", data := .fields #[.none, .none, vs] } } := I4.kept (t' := s4.toks) fun b ob q => Heap.get?_push_of_some _ q
  obtain ⟨its, r, ht, hz⟩ := I5.tuple hx
  have hlen := r.length
  show wpAny (model X.prog X.w) X.A (subscriptTail e (.Slice none none (some (.UnaryOp .USub (.Constant (.int 1) k p1) p2)) p3) (.ref a) (.ref s4.heap.objs.size)) (EP X pins σ Q) X.xe { s4 with heap := s4.heap.push { cls := .type "slice", data := .fields #[.none, .none, vs] } }
  refine tail_any (ops := [.ref a, .ref s4.heap.objs.size]) ht.typeIs (PyProof.Rows.slot_tuple_getitem.lookup) ?_ (by with_unfolding_all rfl)
  refine item_back ht (Heap.IsSliceOf.new _ .none .none vs) ps ?_ (by rw [List.size_toArray]; omega)
  refine ⟨.ref _, _, I5.laid (t' := s4.toks) (o := .tup xs.reverse) (fun b ob q => Heap.get?_push_of_some _ q) (Nat.le_refl _) ?_, rfl, q _ (I5.hok.fresh (Nat.le_refl _))⟩
  exact ⟨by rw [List.length_reverse]; exact hz, _, r.reverse, IsTup.new _ _⟩
def qBackT (qe : QE) : QE := fun ρ G Q => qe ρ G fun x G1 => match x with | .tup ts => Q (.tup ts.reverse) G1 | _ => False
theorem e_revT {e : Expr} {qe : QE} {kk : Nat} {p1 p2 p3 pos : Pos} (h : PE X e (cE X.K qe)) : PE X (.Subscript e (.Slice none none (some (.UnaryOp .USub (.Constant (.int 1) kk p1) p2)) p3) pos) (cE X.K (qBackT qe)) := PE.wk (pe_backT h) fun σ H KQ h => by
  obtain ⟨ρ, G, Q, e, a, q, g⟩ := h
  refine ⟨ρ, G, _, e, a, q, fun v H1 t G1 k1 a1 r1 q1 => ?_⟩
  split at q1
  · obtain ⟨p, vs, rfl, hp, r⟩ := r1
    refine ⟨p, vs, rfl, SqT.of hp, fun p2 hp2 => ?_⟩
    have k2 : Tups H1 (upd H1 p2 (.tup vs.reverse)) := Tups.new hp2
    exact g (.ref p2) _ (.tup _) G1 (k1.trans k2) (a1.grow hp2) ⟨p2, _, rfl, upd_same, r.rev.mono k2⟩ q1
  · exact q1.elim
end
end Lw

set_option Elab.async false
set_option linter.all false
set_option maxRecDepth 100000
set_option maxHeartbeats 4000000
namespace Lw
open PySem PySem.Spec PyProof.Rows L2
/-! ### d[k], the dict locked or not -/
def DRd (G : Gp) (a : Addr) (kvs : List (Key × T)) : Prop := G a = some (.dK kvs) ∨ ∃ od ws, G a = some (.fz od ws kvs)
theorem DRd.sub {G G' : Gp} {a : Addr} {kvs : List (Key × T)} (h : DRd G a kvs) (s : Sub G G') : DRd G' a kvs := by
  rcases h with h | ⟨od, ws, h⟩
  · exact .inl (s _ _ h)
  · exact .inr ⟨od, ws, s _ _ h⟩
theorem DRd.known {G : Gp} {a : Addr} {kvs : List (Key × T)} (h : DRd G a kvs) : ∃ o, G a = some o := by
  rcases h with h | ⟨od, ws, h⟩
  · exact ⟨_, h⟩
  · exact ⟨_, h⟩
section
variable {X : Cx} {o i : Expr} {qd qk : QE} {pos : Pos}
def qAGet (qd qk : QE) : QE := fun ρ G Q => qd ρ G fun x G1 => qk ρ G1 fun y G2 => match x with
  | .ref a => ∃ k kvs t, keyT y = some k ∧ DRd G2 a kvs ∧ valT kvs k = some t ∧ Q t G2
  | _ => False
theorem e_aget (hu : X.A.units + 1 < cLine) (hd : PE X o (cE X.K qd)) (hk : PE X i (cE X.K qk)) (hs : NoSl i) : PE X (.Subscript o i pos) (cE X.K (qAGet qd qk)) := PE.wk (pe_dget hu hd hk hs) fun σ H KQ h => by
  obtain ⟨ρ, G, Q, e, a, q, g⟩ := h
  refine ⟨ρ, G, _, e, a, q, fun v H1 t G1 k1 a1 r1 q1 => ?_⟩
  refine ⟨ρ, G1, _, e.mono k1, a1, q1, fun w H2 u G2 k2 a2 r2 q2 => ?_⟩
  split at q2
  · obtain ⟨k, kvs, t, hk, hg, hv, q2⟩ := q2
    cases r1
    have ev := keyT_rp hk r2
    subst ev
    rcases hg with hg | ⟨od, ws, hg⟩
    · obtain ⟨ws, hp, r⟩ := a2 _ _ hg
      obtain ⟨v, e1, rv⟩ := (r.val (k := k)).2 t hv
      exact ⟨_, v, rfl, by rw [← e1]; exact DGet.k (k := k) hp, g v H2 t G2 (k1.trans k2) a2 rv q2⟩
    · obtain ⟨hp, r⟩ := a2 _ _ hg
      obtain ⟨v, e1, rv⟩ := (r.val (k := k)).2 t hv
      exact ⟨_, v, rfl, .inl ⟨ws, k, .inr ⟨od, hp⟩, rfl, e1.symm⟩, g v H2 t G2 (k1.trans k2) a2 rv q2⟩
  · exact q2.elim
end
end Lw

set_option Elab.async false
set_option linter.all false
set_option maxRecDepth 100000
set_option maxHeartbeats 4000000
namespace Lw
open PySem PySem.Spec PyProof.Rows L2
section
variable {X : Cx} {o e k x : Expr} {qo qe qd qk qx : QE} {p1 p2 pos apos : Pos}
/-! ### d.get(k, x), k a tuple -/
def qGetT2 (qd qk qx : QE) : QE := fun ρ G Q => qd ρ G fun d G1 => match d with
  | .ref a => (∃ kvs, G1 a = some (.dT kvs)) ∧ qk ρ G1 fun y G2 => qx ρ G2 fun z G3 => match y with
    | .tup ts => ∃ ks kvs, tkT ts = some ks ∧ G3 a = some (.dT kvs) ∧ Q ((valT kvs ks).getD z) G3
    | _ => False
  | _ => False
theorem e_getT2 (hu : X.A.units + 1 < cLine) (ho : PE X o (cE X.K qd)) (hk : PE X k (cE X.K qk)) (hx : PE X x (cE X.K qx)) (m : M2 X o "get" apos k x pos) : PE X (.Call (.Attribute o "get" apos) [k, x] [] pos) (cE X.K (qGetT2 qd qk qx)) :=
  PE.wk (pe_dget2 hu ho hk hx m) fun σ H KQ h => by
    obtain ⟨ρ, G, Q, e, a, q, g⟩ := h
    refine ⟨ρ, G, _, e, a, q, fun v H1 t G1 k1 a1 r1 q1 => ?_⟩
    split at q1
    · rename_i d
      obtain ⟨⟨kvs0, hd0⟩, q1⟩ := q1
      cases r1
      obtain ⟨ws0, hp0, _⟩ := a1 _ _ hd0
      refine ⟨_, rfl, .inr ⟨ws0, .inl hp0⟩, ρ, G1, _, e.mono k1, a1, q1, fun w H2 u G2 k2 a2 r2 q2 => ?_⟩
      refine ⟨ρ, G2, _, e.mono (k1.trans k2), a2, q2, fun z H3 y G3 k3 a3 r3 q3 => ?_⟩
      split at q3
      · obtain ⟨ks, kvs, hkk, hg, q3⟩ := q3
        obtain ⟨ws, hp, r⟩ := a3 _ _ hg
        obtain ⟨b, vs, rfl, hb, rv⟩ := Rp.mono k3 _ _ r2
        have ev := tkT_rp hkk rv
        subst ev
        refine ⟨_, DGet.t (k := ks) hp hb, ?_⟩
        obtain ⟨s1, s2⟩ := r.val (k := ks)
        have kt := (k1.trans k2).trans k3
        cases hv : valT kvs ks with
        | none =>
          rw [hv] at s1 q3
          have : valV ws ks = none := by
            cases hw : valV ws ks with
            | none => rfl
            | some _ => rw [hw] at s1; cases s1
          rw [this]
          exact g z H3 y G3 kt a3 r3 q3
        | some t =>
          rw [hv] at q3
          obtain ⟨v, e1, rv⟩ := s2 t hv
          rw [e1]
          exact g v H3 t G3 kt a3 rv q3
      · exact q3.elim
    · exact q1.elim
/-! ### min(xs), xs a list of tuples -/
theorem All2.at {α β : Type} {R : α → β → Prop} : ∀ {l : List α} {m : List β}, All2 R l m → ∀ {i : Nat} {a : α}, l[i]? = some a → ∃ b, m[i]? = some b ∧ R a b
  | _, _, .nil, i, a, h => by simp at h
  | _, _, .cons r t, 0, a, h => by simp at h; subst h; exact ⟨_, rfl, r⟩
  | _, _, .cons r t, i + 1, a, h => by
    obtain ⟨b, h1, h2⟩ := All2.at t (i := i) (a := a) (by simpa using h)
    exact ⟨b, by simpa using h1, h2⟩
theorem All2.len {α β : Type} {R : α → β → Prop} : ∀ {l : List α} {m : List β}, All2 R l m → l.length = m.length
  | _, _, .nil => rfl
  | _, _, .cons r t => by rw [List.length_cons, List.length_cons, All2.len t]
theorem argBest_swo {bt : Nat → Nat → Bool} (as : ∀ i j, bt i j = true → bt j i = false) (tr : ∀ x y z, bt y x = false → bt z y = false → bt z x = false) : ∀ k, argBest bt k ≤ k ∧ ∀ j, j ≤ k → bt j (argBest bt k) = false
  | 0 => ⟨Nat.le_refl _, fun j hj => by
    have : j = 0 := by omega
    subst this
    cases h : bt 0 (argBest bt 0) with
    | false => rfl
    | true => have := as _ _ h; rw [show argBest bt 0 = 0 from rfl] at h this; rw [h] at this; cases this⟩
  | k + 1 => by
    obtain ⟨h1, h2⟩ := argBest_swo as tr k
    have irr : ∀ x, bt x x = false := fun x => by
      cases h : bt x x with
      | false => rfl
      | true => have := as _ _ h; rw [h] at this; cases this
    show (if bt (k + 1) (argBest bt k) then k + 1 else argBest bt k) ≤ k + 1 ∧ ∀ j, j ≤ k + 1 → bt j (if bt (k + 1) (argBest bt k) then k + 1 else argBest bt k) = false
    cases c : bt (k + 1) (argBest bt k) with
    | true =>
      rw [if_pos rfl]
      refine ⟨Nat.le_refl _, fun j hj => ?_⟩
      by_cases e : j = k + 1
      · subst e; exact irr _
      · exact tr _ _ _ (as _ _ c) (h2 j (by omega))
    | false =>
      rw [if_neg (by decide)]
      refine ⟨by omega, fun j hj => ?_⟩
      by_cases e : j = k + 1
      · subst e; exact c
      · exact h2 j (by omega)
def fMinT : QC := fun ts G Q => match ts with
  | [.ref a] => ∃ xs, G a = some (.lst xs) ∧ xs ≠ [] ∧ SrtOk xs ∧ ∀ y ∈ xs, (∀ z ∈ xs, tlt z y = false) → Q y G
  | _ => False
theorem b_minT (hc : X.calm = true) (hu : X.A.units + 66 < cLine) : CallR X (.builtin "min") (cC X.K fMinT) := by
  intro pins s σ H vs us KQ I r h
  obtain ⟨ts, G, Q, hr, ha, hf, hk⟩ := h
  unfold fMinT at hf
  split at hf
  · obtain ⟨xs, hg, hne, ok, q⟩ := hf
    obtain ⟨v, rfl, h1⟩ := rpl1 hr
    cases h1
    obtain ⟨ws, hp, rr⟩ := ha _ _ hg
    obtain ⟨its, rv, hl, hz⟩ := I.list (SqL.of hp)
    rw [Vals.ref1 r]
    have a0 := rdT_of I ok.ok rr rv
    have hlen := a0.len
    have hpos : 0 < xs.length := List.length_pos_iff.mpr hne
    refine call_min_walkH (PySem.W.iter_listW (A := X.A.in1) (I.ok.hd hc) hl.isList fun s₂ e W st hfp hw hkk => ?_)
    refine ⟨_, _, _, _, _, _, _, s.heap, (fun i j => tlt (xs.getD i .non) (xs.getD j .non)), rfl, W, st, hfp, by rw [List.size_toArray, hlen]; exact hpos, hw, hkk, fun i j vi vj s' Q' E' keep hi hj qq => ?_, fun v s' hP m => ?_⟩
    · have hi' : its[i]? = some vi := by simpa using hi
      have hj' : its[j]? = some vj := by simpa using hj
      obtain ⟨xi, ei, v1, _, _, as, r1⟩ := a0.at hi'
      obtain ⟨xj, ej, v2, _, _, bs, r2⟩ := a0.at hj'
      have o1 := ok.ok xi (List.mem_of_getElem? ei)
      have o2 := ok.ok xj (List.mem_of_getElem? ej)
      have d1 := pd_depth _ o1.1
      have eq : tlt (xs.getD i .non) (xs.getD j .non) = tlt xi xj := by
        rw [List.getD_eq_getElem?_getD, List.getD_eq_getElem?_getD, ei, ej]; rfl
      refine rc_lt _ _ X.A.in1 s' vi vj as bs (PyProof.Rows.Reads.keeps keep r1) (PyProof.Rows.Reads.keeps keep r2) (ok.cm xi (List.mem_of_getElem? ei) xj (List.mem_of_getElem? ej)) (pd_can _ o1.1) (pd_can _ o2.1) ?_ _ _ _ _ ?_
      · have : min (pdT xi).depth (pdT xj).depth ≤ (pdT xi).depth := Nat.min_le_left _ _
        show X.A.units + 1 + _ < _
        omega
      · have qq : Q' (Value.bool (tlt (xs.getD i .non) (xs.getD j .non))) s' := qq
        rw [eq] at qq
        exact qq
    · obtain ⟨h', tk, rfl, hk'⟩ := PySem.W.moved_old e rfl m
      have hv : its[argBest (fun i j => tlt (xs.getD i .non) (xs.getD j .non)) (its.toArray.size - 1)]? = some v := by simpa using hP
      obtain ⟨y, ey, w, rw1, rp, _⟩ := a0.at hv
      have O := NtL.swo_lexL (fun t : T => cdT t)
      obtain ⟨b1, b2⟩ := argBest_swo (bt := fun i j => tlt (xs.getD i .non) (xs.getD j .non)) (fun i j c => O.asym _ _ c) (fun x y z c d => O.tr _ _ _ c d) (its.toArray.size - 1)
      refine ⟨w, H, I.kept hk', rw1, hk w H y G (Tups.refl H) ha rp (q y (List.mem_of_getElem? ey) fun z hz => ?_)⟩
      obtain ⟨j, hj, rfl⟩ := List.mem_iff_getElem.mp hz
      have := b2 j (by rw [List.size_toArray, hlen]; omega)
      rw [List.getD_eq_getElem?_getD, List.getD_eq_getElem?_getD, ey, List.getElem?_eq_getElem hj] at this
      exact this
  · exact hf.elim
/-! ### xs.pop() -/
theorem RpL.snoc {K : PySem.W.Frag} {H : Hp} {y : T} : ∀ {ts : List T} {vs : List V}, RpL K H (ts ++ [y]) vs → ∃ ws v, vs = ws ++ [v] ∧ RpL K H ts ws ∧ Rp K H y v
  | [], _, ⟨v, r, e, h, hr⟩ => ⟨[], v, by rw [e, show r = [] from hr]; rfl, rfl, h⟩
  | t :: ts, _, ⟨v, r, e, h, hr⟩ => by
    obtain ⟨ws, u, e1, h1, h2⟩ := RpL.snoc (ts := ts) hr
    exact ⟨v :: ws, u, by rw [e, e1]; rfl, ⟨v, ws, rfl, h, h1⟩, h2⟩
def fPop : QM := fun x ts G Q => match x, ts with
  | .ref a, [] => ∃ xs y, G a = some (.lst (xs ++ [y])) ∧ Q y (gput G a (.lst xs))
  | _, _ => False
theorem m_pop : MtR X "list.pop" (cM X.K fPop) := by
  intro pins s σ H x xs v us KQ I rv rs h
  obtain ⟨t, ts, G, Q, hx, hr, ha, hf, hk⟩ := h
  unfold fPop at hf
  split at hf
  · obtain ⟨ys, y, hg, q⟩ := hf
    cases hx
    have hr : xs = [] := hr
    subst hr
    obtain ⟨vs, hp, r⟩ := ha _ _ hg
    obtain ⟨ws, w, rfl, r1, r2⟩ := r.snoc
    have wr : Wr H _ := Wr.of hp (fun _ z => by cases z) (fun _ _ z => by cases z)
    have k := Tups.set (o := .lst ws) wr
    refine mt_pop pins s σ H _ _ v us KQ I rv rs ⟨_, ws ++ [w], w, rfl, rfl, hp, by simp, ?_⟩
    rw [List.dropLast_concat]
    exact hk _ _ y _ k (ha.put (o := .lst ys) wr ⟨_, upd_same, r1.mono k⟩) (Rp.mono k _ _ r2) q
  · exact hf.elim
def qBM0 (f : QM) (qo : QE) : QE := fun ρ G Q => qo ρ G fun x G1 => match x with
  | .ref a => (∃ xs, G1 a = some (.lst xs)) ∧ f (.ref a) [] G1 Q
  | _ => False
theorem e_bm0 {name : Str} {id : String} {f : QM} (pa : PlainAttrs "list") (slot : Slot "list" name id) (hty : typeOf (.builtin id) = pure (.type "method_descriptor")) (hm : MtR X id (cM X.K f)) (ho : PE X o (cE X.K qo))
    (hbase : attributeBase o name X.env (eval o X.env) = eval o X.env := by rfl) (hline : (apos.endLine == pos.line) = true := by rfl) :
    PE X (.Call (.Attribute o name apos) [] [] pos) (cE X.K (qBM0 f qo)) := PE.wk (pe_bm0 pa slot hty hm ho hbase hline) fun σ H KQ h => by
  obtain ⟨ρ, G, Q, e, a, q, g⟩ := h
  refine ⟨ρ, G, _, e, a, q, fun v H1 t G1 k1 a1 r1 q1 => ?_⟩
  split at q1
  · rename_i p
    obtain ⟨⟨xs, hg⟩, q1⟩ := q1
    cases r1
    obtain ⟨vs, hp, r⟩ := a1 _ _ hg
    exact ⟨.inl ⟨rfl, _, SqL.of hp⟩, .ref p, [], G1, Q, rfl, rfl, a1, q1, g.from k1⟩
  · exact q1.elim
end
end Lw

set_option Elab.async false
set_option linter.all false
set_option maxRecDepth 100000
set_option maxHeartbeats 4000000
namespace Lw
open PySem PySem.Spec PyProof.Rows L2
section
variable {X : Cx} {o : Expr} {qd : QE} {td : TE} {p pos apos mpos : Pos}
/-! ### sum(d.values()), d a dict with tuple keys -/
theorem preSum_list {f : Nat → Int} : ∀ {is : List Int}, (∀ i : Nat, i < is.length → f i = is.getD i 0) → ∀ n : Nat, n ≤ is.length → preSum f n = (is.take n).sum
  | is, h, 0, _ => by simp [preSum]
  | is, h, n + 1, hn => by
    show preSum f n + f n = _
    have hlt : n < is.length := by omega
    rw [preSum_list h n (by omega), h n (by omega), List.getD_eq_getElem?_getD, List.take_succ, List.getElem?_eq_getElem hlt, List.sum_append]
    simp
theorem kt_at {H : Hp} : ∀ {kvs : List (List Key × V)} {xs : List (List Key × Addr × Value)}, KT H kvs xs → ∀ {i : Nat} {y : List Key × Addr × Value}, xs[i]? = some y → ∃ q, kvs[i]? = some q ∧ RelV q.2 y.2.2
  | _, _, .nil, i, y, h => by simp at h
  | _, _, .cons r t, 0, y, h => by simp at h; subst h; exact ⟨_, rfl, r.2.2⟩
  | _, _, .cons r t, i + 1, y, h => by
    obtain ⟨q, h1, h2⟩ := kt_at t (i := i) (y := y) (by simpa using h)
    exact ⟨q, by simpa using h1, h2⟩
theorem kt_len {H : Hp} : ∀ {kvs : List (List Key × V)} {xs : List (List Key × Addr × Value)}, KT H kvs xs → kvs.length = xs.length
  | _, _, .nil => rfl
  | _, _, .cons r t => by rw [List.length_cons, List.length_cons, kt_len t]
def tSumVals (td : TE) : TE := fun σ H Q => td σ H fun x H1 => ∃ (a : Addr) (kvs : List (List Key × V)) (is : List Int), x = V.ref a ∧ H1 a = some (.dT kvs) ∧ kvs.map (·.2) = is.map V.int ∧ Q (.int is.sum) H1
theorem pe_sumVals (hc : X.calm = true) (hg : Gl X "sum") (hm : X.mg "sum" = none) (hd : PE X o td) (hbase : attributeBase o "values" X.env (eval o X.env) = eval o X.env := by rfl) (hline : (apos.endLine == mpos.line) = true := by rfl)
    (hse : starEach [Expr.Call (.Attribute o "values" apos) [] [] mpos] X.env = [(false, eval (Expr.Call (.Attribute o "values" apos) [] [] mpos) X.env)] := by rfl) :
    PE X (.Call (.Name "sum" p) [.Call (.Attribute o "values" apos) [] [] mpos] [] pos) (tSumVals td) := by
  refine ⟨fun pins s σ H Q I h => ?_⟩
  refine wpAny_Call_Name_kw (ld_blt I hg hm (u := .builtin "sum") (by first | rfl | decide +kernel) ?_ (by first | decide +kernel | decide) (by first | decide +kernel | decide))
  rw [hse]
  refine PySem.callWith_builtin1 (wpAny_Call_method0_late hbase hline (thn (hd.run pins s σ H _ I h) fun v s1 ⟨x, H1, I1, r1, a, kvs, is, ex, ha, hv, q⟩ => ?_))
  subst ex
  obtain rfl : v = Value.ref a := r1
  obtain ⟨_, hsys, xs, kt, dof⟩ := dt_of I1.hok ha
  obtain ⟨es, ep, raw, hsz, hat⟩ := dof.raw
  obtain ⟨ob, ho, ex, hdat⟩ := id raw
  refine ⟨"dict", "dict.values", F.plainAttrs_dict, F.slot_dict_values, F.type_dict_values, ⟨ob, ho, ex.1⟩, fun b e => ?_, Calls.callWith_builtin rfl (PySem.evalArgs_none ?_)⟩
  · cases e
    exact ⟨ob, ho, ex.2.1⟩
  refine call_meetsIn F.slot_dict_values ⟨ob, ho, ex.1⟩ F.entry_dict_values (F.args_dict_values_1 _) (meets_dict_values_raw a hsys) ⟨⟨es, ep, raw⟩, ?_⟩
  have k1 : ∀ b u, s1.heap.get? b = some u → (s1.heap.push { cls := .type "dict_values", data := .fields #[.ref a] }).get? b = some u := fun b u e => Heap.get?_push_of_some _ e
  have raw1 : (s1.heap.push { cls := .type "dict_values", data := .fields #[.ref a] }).DictRaw a es ep := raw.push _
  have hlv : xs.length = is.length := by
    have e1 := congrArg List.length hv
    rw [List.length_map, List.length_map] at e1
    rw [← e1]
    exact (kt_len kt).symm
  have hval : ∀ (i : Nat) (v : Value), (∃ hi : i < es.size, v = es[i].val) → ∃ t, v = Value.int (is.getD i 0) t := fun i v ⟨hi, hk⟩ => by
    obtain ⟨y, hy, _, h2, _⟩ := hat i hi
    obtain ⟨x, h1, h3⟩ := kt_at kt hy
    have e1 : (kvs.map (·.2))[i]? = some x.2 := by rw [List.getElem?_map, h1] <;> rfl
    rw [hv, List.getElem?_map] at e1
    obtain ⟨j, hj, e2⟩ := Option.map_eq_some_iff.mp e1
    rw [← e2] at h3
    obtain ⟨t, e3⟩ := h3
    refine ⟨t, ?_⟩
    rw [hk, h2, e3, List.getD_eq_getElem?_getD, hj] <;> rfl
  have hlt : a < s1.heap.objs.size := Heap.lt_size ho
  have hz2 : (s1.heap.push { cls := .type "dict_values", data := .fields #[.ref a] }).objs.size = s1.heap.objs.size + 1 := Heap.size_push _ _
  refine call_sum_walkAnyS (wpAny_pyIter_values_raw (v := s1.heap.objs.size) (d := a) ⟨_, Heap.get?_push_size _ rfl, rfl, rfl⟩ raw1 ?_)
  refine ⟨_, _, _, _, _, _, _, fun i => is.getD i 0, rfl, (Walks.rawValues (A := X.A.in1) (I.ok.hd hc) (s1.heap.push { cls := .type "dict_values", data := .fields #[.ref a] }).objs.size a (by rw [hz2]; exact Nat.ne_of_lt (Nat.lt_succ_of_lt hlt)) es ep).toS,
    ⟨⟨_, Heap.get?_push_size _ rfl, rfl, rfl⟩, raw1.push _⟩, fun b hb => ?_, hval, fun s' t' m => ?_⟩
  · show b < ((s1.heap.push _).push _).objs.size
    rw [Heap.size_push, Heap.size_push]
    rw [hz2] at hb
    rcases List.mem_cons.mp hb with e | hb
    · rw [e]
      exact Nat.lt_succ_self _
    · have e : b = a := List.mem_singleton.mp hb
      rw [e]
      exact Nat.lt_succ_of_lt (Nat.lt_succ_of_lt hlt)
  · have kk : ∀ b u, s1.heap.get? b = some u → s'.heap.get? b = some u := fun b u e => m.heap b u (fun hmem => by
      have e1 : b = (s1.heap.push { cls := .type "dict_values", data := .fields #[.ref a] }).objs.size := List.mem_singleton.mp hmem
      have e2 := Heap.lt_size e
      rw [hz2] at e1
      rw [e1] at e2
      exact absurd e2 (Nat.not_lt.mpr (Nat.le_succ _))) (Heap.get?_push_of_some _ (k1 b u e))
    have es' := preSum_list (f := fun i => is.getD i 0) (is := is) (fun i _ => rfl) is.length (Nat.le_refl _)
    rw [List.take_length] at es'
    rw [Moved.eq_with m]
    refine ⟨.int is.sum, H1, I1.kept (t' := s'.toks) kk, ⟨t', ?_⟩, q⟩
    rw [hsz, hlv]
    show Value.int (preSum (fun i => is.getD i 0) is.length) t' = _
    rw [es']
def qSumT (qd : QE) : QE := fun ρ G Q => qd ρ G fun x G1 => match x with
  | .ref a => ∃ (kvs : List (List Key × T)) (is : List Int), G1 a = some (.dT kvs) ∧ kvs.map (·.2) = is.map T.int ∧ Q (.int is.sum) G1
  | _ => False
theorem rpK_ints {K : PySem.W.Frag} {κ : Type} {H : Hp} : ∀ {kvs : List (κ × T)} {ws : List (κ × V)} {is : List Int}, RpK K H kvs ws → kvs.map (·.2) = is.map T.int → ws.map (·.2) = is.map V.int
  | [], _, is, h, e => by
    rw [show _ = [] from h]
    cases is with
    | nil => rfl
    | cons a r => simp at e
  | kv :: kvs, _, [], _, e => by simp at e
  | kv :: kvs, _, i :: is, ⟨v, r, ew, h, hr⟩, e => by
    rw [List.map_cons, List.map_cons] at e
    obtain ⟨e1, e2⟩ := List.cons.inj e
    rw [ew, List.map_cons, List.map_cons, rpK_ints hr e2]
    rw [e1] at h
    rw [show v = V.int i from h]
theorem e_sumVals (hc : X.calm = true) (hg : Gl X "sum") (hm : X.mg "sum" = none) (hd : PE X o (cE X.K qd)) (hbase : attributeBase o "values" X.env (eval o X.env) = eval o X.env := by rfl) (hline : (apos.endLine == mpos.line) = true := by rfl)
    (hse : starEach [Expr.Call (.Attribute o "values" apos) [] [] mpos] X.env = [(false, eval (Expr.Call (.Attribute o "values" apos) [] [] mpos) X.env)] := by rfl) :
    PE X (.Call (.Name "sum" p) [.Call (.Attribute o "values" apos) [] [] mpos] [] pos) (cE X.K (qSumT qd)) := PE.wk (pe_sumVals hc hg hm hd hbase hline hse) fun σ H KQ h => by
  obtain ⟨ρ, G, Q, e, a, q, g⟩ := h
  refine ⟨ρ, G, _, e, a, q, fun v H1 t G1 k1 a1 r1 q1 => ?_⟩
  split at q1
  · obtain ⟨kvs, is, hg1, hv, q1⟩ := q1
    cases r1
    obtain ⟨ws, hp, r⟩ := a1 _ _ hg1
    exact ⟨_, ws, is, rfl, hp, rpK_ints r hv, g _ H1 (.int is.sum) G1 k1 a1 rfl q1⟩
  · exact q1.elim
end
end Lw

set_option Elab.async false
set_option linter.all false
set_option maxRecDepth 100000
set_option maxHeartbeats 4000000
namespace Lw
open PySem PySem.Spec PyProof.Rows L2
/-! ### sorted(set(xs)), xs a list of tuples of ints -/
abbrev inT (l : List Int) : T := .tup (l.map T.int)
theorem pdTs_ints : ∀ l : List Int, pdTs (l.map T.int) = l.map PyData.int
  | [] => rfl
  | i :: l => by
    show pdT (.int i) :: pdTs (l.map T.int) = _
    rw [pdTs_ints l]; rfl
theorem cmp_ints : ∀ l m : List Int, cmpbs (l.map PyData.int) (m.map PyData.int) = true
  | [], m => by cases m <;> rfl
  | i :: l, [] => rfl
  | i :: l, j :: m => by
    show (cmpb (.int i) (.int j) && cmpbs (l.map PyData.int) (m.map PyData.int)) = true
    rw [cmp_ints l m]; rfl
theorem cmp_inT (l m : List Int) : cmpb (pdT (inT l)) (pdT (inT m)) = true := by
  show cmpbs (pdTs (l.map T.int)) (pdTs (m.map T.int)) = true
  rw [pdTs_ints, pdTs_ints]; exact cmp_ints l m
theorem okTs_ints : ∀ l : List Int, okTs (l.map T.int) = true
  | [] => rfl
  | i :: l => by
    show (okT (.int i) && okTs (l.map T.int)) = true
    rw [okTs_ints l]; rfl
theorem dpTs_ints : ∀ l : List Int, dpTs (l.map T.int) = 0
  | [] => rfl
  | i :: l => by
    show max (dpT (.int i)) (dpTs (l.map T.int)) = 0
    rw [dpTs_ints l]; rfl
theorem inT_ok (l : List Int) : okT (inT l) = true ∧ dpT (inT l) ≤ 50 := by
  constructor
  · show okTs (l.map T.int) = true
    exact okTs_ints l
  · show dpTs (l.map T.int) + 1 ≤ 50
    rw [dpTs_ints]; decide
section
variable {X : Cx} {e : Expr} {qe : QE} {p1 p2 pos apos : Pos}
def rSortSetU (K : PySem.W.Frag) (P : Program) (w : World) : List V → Hp → VK → Prop := fun vs H Q => ∃ (a : Addr) (L : List (Addr × List Int)), vs = [V.ref a] ∧ H a = some (SetTO P w a L) ∧ (∀ p ∈ L, H p.1 = some (.tup (p.2.map V.int))) ∧
  ∀ (L' : List (Addr × List Int)) (p : Addr), L'.Perm L → (L'.map (·.2)).Nodup → H p = none → Q (.ref p) (upd H p (.lst (L'.map fun q => V.ref q.1)))
theorem RpL.ofI {K : PySem.W.Frag} {H : Hp} : ∀ l : List Int, RpL K H (l.map T.int) (l.map V.int)
  | [] => rfl
  | i :: l => ⟨_, _, rfl, rfl, RpL.ofI l⟩
theorem cr_sortSetU (hc : X.calm = true) (hu : X.A.units + 70 < cLine) : CallR X (.builtin "sorted") (rSortSetU X.K X.prog X.w) := by
  intro pins s σ H vs us Q I r h
  obtain ⟨a, L, rfl, ha, hk, q⟩ := h
  have hh := I.ok.hd hc
  have R0 : SetT0 X.prog X.w s.heap a L := (I.hok a _ ha).1
  have hkT : ∀ p ∈ L, SqT X.K H p.1 (p.2.map V.int) := fun p hp => SqT.of (hk p hp)
  obtain ⟨es, ep, t, R⟩ := R0.full fun p hp => I.isT (hkT p hp)
  rw [Vals.ref1 r]
  have rdq : ∀ p ∈ L, ∃ as, Reads s.heap (.ref p.1) (pdT (inT p.2)) as := fun p hp =>
    Dp.reads I (pdT (inT p.2)) (.ref p.1) (.ref p.1) (pd_dp (inT p.2) _ (inT_ok p.2).1 ⟨p.1, _, rfl, hk p hp, RpL.ofI p.2⟩) rfl
  obtain ⟨o, ho, hex, hd⟩ := R.ob
  have hsz := R.size
  have hfew := R.few
  refine Calls.call_function_entry kind_sorted plain_sorted entry_sorted (args_sorted1 _) ?_
  unfold Builtin.«sorted»
  refine wpAny_bind (m := checkCount "sorted" 1 1 _) (wpAny_pure ?_)
  refine wpAny_bind (collect_set (A := X.A.in1) hh ⟨o, ho, hex.1, hd⟩ R.fits (by unfold scanBound; omega) R.tab.ris R.led fun s1 vs k1 hz g1 o1 pm => ?_)
  have hes : es.toList.map (·.2) = L.map fun q => Value.ref q.1 := by
    rw [R.rows]
    unfold rowsOf
    rw [List.map_map] <;> rfl
  rw [hes] at pm
  have ord : ∀ vs : List Value, (∀ v ∈ vs, ∃ q ∈ L, v = Value.ref q.1) → ∃ L1 : List (Addr × List Int), vs = L1.map (fun q => Value.ref q.1) ∧ ∀ q ∈ L1, q ∈ L := by
    intro vs
    induction vs with
    | nil => intro _; exact ⟨[], rfl, fun q hq => (by cases hq)⟩
    | cons v vs ih =>
      intro hv
      obtain ⟨q, hq, e⟩ := hv v List.mem_cons_self
      obtain ⟨L1, e1, hs⟩ := ih fun u hu => hv u (List.mem_cons_of_mem _ hu)
      refine ⟨q :: L1, by rw [List.map_cons, e, e1], fun r hr => ?_⟩
      rcases List.mem_cons.mp hr with z | z
      · rw [z]; exact hq
      · exact hs r z
  have one : ∀ q ∈ L, ∀ r ∈ L, q.1 = r.1 → q = r := fun q hq r hr e => by
    have a1 := R.tup q hq
    have a2 := R.tup r hr
    rw [e] at a1
    have e2 : q.2 = r.2 := a1.inj a2
    exact Prod.ext e e2
  have perm_of : ∀ L1 : List (Addr × List Int), (∀ q ∈ L1, q ∈ L) → (L1.map (fun q => Value.ref q.1)).Perm (L.map fun q => Value.ref q.1) → L1.Perm L := by
    intro L1 hs pm1
    have nL : L.Nodup := nodup_of_map R.nd
    have nref : (L.map fun q => Value.ref q.1).Nodup := by
      refine List.pairwise_map.mpr (List.Pairwise.imp_of_mem (fun {q r} hq hr hne e => ?_) nL)
      injection e with e
      exact hne (one q hq r hr e)
    have n1 : L1.Nodup := nodup_of_map (pm1.nodup_iff.mpr nref)
    refine (List.perm_ext_iff_of_nodup n1 nL).mpr fun q => ⟨hs q, fun hq => ?_⟩
    have hm : Value.ref q.1 ∈ L1.map (fun q => Value.ref q.1) := pm1.mem_iff.mpr (List.mem_map.mpr ⟨q, hq, rfl⟩)
    obtain ⟨r, hr, e⟩ := List.mem_map.mp hm
    injection e with e
    rw [← one r (hs r hr) q hq e]
    exact hr
  have hvl : vs.length < 64 := by rw [pm.length_eq, List.length_map]; exact hfew
  have hvz : vs.length ≤ sizeLine := by rw [sizeLine_eq]; omega
  refine wpAny_bind (wpAny_newList ?_ hvz)
  have hoL : (s1.heap.push (seqObj "list" vs.toArray 0)).get? s1.heap.objs.size = some (seqObj "list" vs.toArray 0) := Heap.get?_push_size _ rfl
  have keep2 : ∀ b u, s.heap.get? b = some u → (s1.heap.push (seqObj "list" vs.toArray 0)).get? b = some u := fun b u e => Heap.get?_push_of_some _ (k1 b u e)
  obtain ⟨L1, e1, hs1⟩ := ord vs fun v hv => by
    obtain ⟨q, hq, e⟩ := List.mem_map.mp (pm.mem_iff.mp hv)
    exact ⟨q, hq, e.symm⟩
  have pl : ∀ h', (∀ b u, s.heap.get? b = some u → h'.get? b = some u) → All2 (PlD h') vs (L1.map fun q => pdT (inT q.2)) := fun h' kp => by
    rw [e1]
    clear e1 pm hvl hvz hoL keep2
    induction L1 with
    | nil => exact .nil
    | cons q L1 ih =>
      obtain ⟨as, rd⟩ := rdq q (hs1 q List.mem_cons_self)
      refine .cons ⟨⟨as, PyProof.Rows.Reads.keeps kp rd⟩, pd_can _ (inT_ok q.2).1, cmp_inT _ _, ?_⟩ (ih fun r hr => hs1 r (List.mem_cons_of_mem _ hr))
      have := pd_depth _ (inT_ok q.2).1
      have := (inT_ok q.2).2
      show (pdT (inT q.2)).depth ≤ 64
      omega
  refine wpAny_bind (wpAny_holding (wpAny_call_entry slot_list_sort ⟨_, hoL, rfl⟩ entry_list_sort
    (SrtO.list_sort_ord (s := { s1 with heap := s1.heap.push (seqObj "list" vs.toArray 0) }) (NtL.swo_lexL (rdK s.heap)) hoL hvz (fun h2 => ?_) fun out hs hb => ⟨_, rfl, ?_⟩) (args_list_sort _)))
  · intro h' keep
    have kp : ∀ b u, s.heap.get? b = some u → h'.get? b = some u := fun b u e => keep b u (fun z => by
      have := Heap.lt_size (k1 b u e)
      rw [z] at this
      exact Nat.lt_irrefl _ this) (keep2 b u e)
    have hp' := pl h' kp
    have mem : ∀ v ∈ vs, ∃ d ∈ L1.map fun q => pdT (inT q.2), PlD s.heap v d := (pl s.heap fun _ _ e => e).memL
    obtain ⟨κ, hκ, k⟩ := kind_dtm (prog := X.prog) (w := X.w) (A := X.A.in1.in1) (s := { s1 with heap := h' }) hp'
    refine ⟨κ, fun Q E q => k Q E q, fun p q hp1 hq1 => ?_⟩
    obtain ⟨d, hd, pd⟩ := mem _ hp1
    obtain ⟨e, he, pe⟩ := mem _ hq1
    obtain ⟨q1, _, rfl⟩ := List.mem_map.mp hd
    obtain ⟨q2, _, rfl⟩ := List.mem_map.mp he
    obtain ⟨as, r1⟩ := pd.rd
    obtain ⟨bs, r2⟩ := pe.rd
    have up : ∀ {v d}, PlD s.heap v d → PlD h' v d := fun p => ⟨let ⟨as, r⟩ := p.rd; ⟨as, PyProof.Rows.Reads.keeps kp r⟩, p.cl, p.cm, p.dp⟩
    refine key_lt (s := { s1 with heap := h' }) (up pd) (up pe) (cmp_inT _ _) ?_ (by show X.A.units + 1 + 1 + 64 < cLine; omega) ⟨rfl, ?_⟩
    · rcases hκ with z | z | ⟨z, z2⟩
      · exact .inl z
      · exact .inr (.inl z)
      · exact .inr (.inr ⟨z, z2 _ hd, z2 _ he⟩)
    · show _ = HT.lexLt (rdK s.heap p.1) (rdK s.heap q.1)
      rw [rdK_eq r1, rdK_eq r2]
  · obtain ⟨c, hc'⟩ := sortedHeap_at (vs := vs) (out := out.toArray) hoL
    have po : out.Perm vs := hb.perm
    obtain ⟨L2', e2, hs2⟩ := ord out fun v hv => by
      obtain ⟨q, hq, e⟩ := List.mem_map.mp (pm.mem_iff.mp (po.mem_iff.mp hv))
      exact ⟨q, hq, e.symm⟩
    have pL : L2'.Perm L := perm_of L2' hs2 (by rw [← e2]; exact po.trans pm)
    have kk : ∀ b u, s.heap.get? b = some u → (sortedHeap (s1.heap.push (seqObj "list" vs.toArray 0)) s1.heap.objs.size vs out.toArray).get? b = some u := fun b u e => by
      have q := k1 b u e
      have hlt := Heap.lt_size q
      rw [sortedHeap_old (Nat.ne_of_lt hlt) (by rw [size_push']; exact Nat.lt_succ_of_lt hlt)]
      exact Heap.get?_push_of_some _ q
    have hn : H s1.heap.objs.size = none := I.hok.fresh hz
    have hlen : (L2'.map fun q => V.ref q.1).length ≤ sizeLine := by rw [List.length_map, pL.length_eq, sizeLine_eq]; omega
    have hv : Vals (L2'.map fun q => V.ref q.1) out := by rw [e2]; exact vals_of_refs L2'
    obtain ⟨h1, g', d1, tk1, os1⟩ := s1
    obtain rfl : g' = s.gens := g1
    obtain rfl : os1 = s.os := o1
    have J : L2.Inv X pins σ (upd H h1.objs.size (.lst (L2'.map fun q => V.ref q.1))) { s with heap := sortedHeap (h1.push (seqObj "list" vs.toArray 0)) h1.objs.size vs out.toArray, gens := s.gens, drawn := d1, toks := tk1 } :=
      I.call (ch := []) (Un.laid kk hz hn) (I.hok.laid kk hz ⟨hlen, out, c, hv, hc'⟩) I.bare (fun _ z => nomatch z)
    exact wpAny_pure ⟨_, rfl, .ref h1.objs.size, upd H h1.objs.size (.lst (L2'.map fun q => V.ref q.1)), J, rfl, q L2' _ pL ((pL.map (·.2)).nodup_iff.mpr R.nd) hn⟩
theorem RpL.inTs {K : PySem.W.Frag} {H : Hp} : ∀ {ls : List (List Int)} {vs : List V}, RpL K H (ls.map inT) vs → ∃ ks : List (Addr × List Int), vs = ks.map (fun p => V.ref p.1) ∧ ks.map (·.2) = ls ∧ ∀ p ∈ ks, H p.1 = some (.tup (p.2.map V.int))
  | [], _, h => ⟨[], h, rfl, fun p hp => (by cases hp)⟩
  | l :: ls, _, ⟨v, r, e, ⟨a, ws, e1, h1, h2⟩, hr⟩ => by
    obtain ⟨ks, q1, q2, q3⟩ := RpL.inTs hr
    refine ⟨(a, l) :: ks, by rw [e, e1, q1]; rfl, by rw [List.map_cons, q2], fun p hp => ?_⟩
    rcases List.mem_cons.mp hp with z | z
    · rw [z]
      show H a = some (.tup (l.map V.int))
      rw [h1, h2.ints]
    · exact q3 p z
theorem RpL.of_inTs {K : PySem.W.Frag} {H : Hp} : ∀ {ks : List (Addr × List Int)}, (∀ p ∈ ks, H p.1 = some (.tup (p.2.map V.int))) → RpL K H ((ks.map (·.2)).map inT) (ks.map fun p => V.ref p.1)
  | [], _ => rfl
  | p :: ks, h => ⟨_, _, rfl, ⟨p.1, _, rfl, h p List.mem_cons_self, RpL.ofI p.2⟩, RpL.of_inTs fun q hq => h q (List.mem_cons_of_mem _ hq)⟩
def qSortSetT (qe : QE) : QE := fun ρ G Q => qe ρ G fun x G1 => match x with
  | .ref a => ∃ ls : List (List Int), G1 a = some (.lst (ls.map inT)) ∧ ls.length < 60 ∧ ∀ ys : List (List Int), ys.Nodup → (∀ x, x ∈ ys ↔ x ∈ ls) → ∀ p, G1 p = none → Q (.ref p) (gput G1 p (.lst (ys.map inT)))
  | _ => False
theorem un70 {k : Nat} {A : Around} (r : Room k A) : A.units + 70 < cLine := by have := r.un; omega
theorem e_sortSetT (hu : X.A.units + 70 < cLine) (hc : X.calm = true) (hg : Gl X "sorted") (hm : X.mg "sorted" = none) (hg2 : Gl X "set") (hm2 : X.mg "set" = none) (he : PE X e (cE X.K qe))
    (h1 : starEach [e] X.env = (false, eval e X.env) :: starEach [] X.env := by rfl) (h2 : starEach [.Call (.Name "set" p2) [e] [] apos] X.env = (false, eval (.Call (.Name "set" p2) [e] [] apos) X.env) :: starEach [] X.env := by rfl) :
    PE X (.Call (.Name "sorted" p1) [.Call (.Name "set" p2) [e] [] apos] [] pos) (cE X.K (qSortSetT qe)) :=
  PE.wk (pe_callB (cr_sortSetU hc hu) hg hm boot_sorted (pa_cons (pe_callTy (cr_setOfT hc (by omega)) hg2 hm2 (by decide +kernel) (pa_cons he pa_nil h1) (he := h1)) pa_nil h2) (he := h2)) fun σ H KQ h => by
    obtain ⟨ρ, G, Q, e, a, q, g⟩ := h
    refine ⟨ρ, G, _, e, a, q, fun v H1 t G1 k1 a1 r1 q1 => ?_⟩
    split at q1
    · obtain ⟨ls, hg1, hz, q1⟩ := q1
      cases r1
      obtain ⟨ws, hb, rr⟩ := a1 _ _ hg1
      obtain ⟨ks, rfl, rfl, hks⟩ := rr.inTs
      rw [List.length_map] at hz
      refine ⟨_, ks, rfl, SqL.of hb, fun p hp => SqT.of (hks p hp), by omega, fun b L hb2 sub all => ?_⟩
      have n1 : Tups H1 (upd H1 b (SetTO X.prog X.w b L)) := Tups.new hb2
      have a2 := a1.grow (u := SetTO X.prog X.w b L) hb2
      have hks2 : ∀ p ∈ ks, upd H1 b (SetTO X.prog X.w b L) p.1 = some (.tup (p.2.map V.int)) := fun p hp => n1.t _ _ (hks p hp)
      refine ⟨b, L, rfl, upd_same, fun p hp => hks2 p (sub p hp), fun L' p2 pL nd hp2 => ?_⟩
      have n2 : Tups _ (upd (upd H1 b (SetTO X.prog X.w b L)) p2 (.lst (L'.map fun q => V.ref q.1))) := Tups.new hp2
      have hks3 : ∀ p ∈ L', upd (upd H1 b (SetTO X.prog X.w b L)) p2 (.lst (L'.map fun q => V.ref q.1)) p.1 = some (.tup (p.2.map V.int)) := fun p hp => n2.t _ _ (hks2 p (sub p (pL.mem_iff.mp hp)))
      refine g (.ref p2) _ (.ref p2) _ (k1.trans (n1.trans n2)) (a2.put (o := .lst ((L'.map (·.2)).map inT)) ⟨fun xs z => (by rw [hp2] at z; cases z), fun o xs z => (by rw [hp2] at z; cases z)⟩ ⟨_, upd_same, RpL.of_inTs hks3⟩) rfl (q1 (L'.map (·.2)) nd (fun x => ?_) p2 (a2.free hp2))
      constructor
      · intro hx
        obtain ⟨p, hp, rfl⟩ := List.mem_map.mp hx
        exact List.mem_map.mpr ⟨p, sub p (pL.mem_iff.mp hp), rfl⟩
      · intro hx
        obtain ⟨p, hp, rfl⟩ := List.mem_map.mp hx
        exact (pL.map (·.2)).mem_iff.mpr (all p hp)
    · exact q1.elim
end
end Lw

set_option Elab.async false
set_option linter.all false
set_option maxRecDepth 100000
set_option maxHeartbeats 4000000
namespace Lw
open PySem PySem.Spec PyProof.Rows L2
/-! ### defs with one keyword-only parameter, an int its default -/
structure FunAtK (K : PySem.W.Frag) (mg : Str → Option Value) (x qual : Str) (st : Stmt) (ps : List Str) (n : Nat) (kn : Str) (dv : Int) : Prop where
  ex : ∃ f fd, Fun K x qual st f fd ∧ mg x = some (.ref f) ∧ (∃ ds, Vals [V.int dv] ds ∧ L2.Binds K fd ps ds) ∧ L2.KBn K fd ps n [kn] (fun us ws => us ++ ws) (fun vs zs => vs ++ zs)
structure DefOkK (P : Program) (w : World) (K : PySem.W.Frag) (mg : Str → Option Value) (base : Heap) (k : Nat) (x : Str) (ps : List Str) (n : Nat) (kn : Str) (dv : Int) (sp : QSp) : Prop where
  ex : ∃ f fd, FnOk P w K mg base CX0 k f fd ps (cSp K sp) ∧ mg x = some (.ref f) ∧ PySem.W.keepIn K (.ref f) = true ∧ (∃ ds, Vals [V.int dv] ds ∧ L2.Binds K fd ps ds) ∧ L2.KBn K fd ps n [kn] (fun us ws => us ++ ws) (fun vs zs => vs ++ zs)
section
variable {P : Program} {w : World} {K : PySem.W.Frag} {mg : Str → Option Value} {base : Heap}
theorem funAtK_mk {x qual : Str} {st : Stmt} {ps : List Str} {h : Heap} {f D : Addr} {oc : Value} {od an : Option Addr} {osl : Array (Option Value)} {doc pm cdv ct : Value} {n : Nat} {kn : Str} {dv : Int} {t : Tok} (X : K.In h) (G : h.Ns mainGlobals mg)
    (a : PySem.W.nsIn K mainGlobals x = some (some (.ref f))) (l : K.lookup f = some ⟨oc, od, .func (PySem.W.fnOf x qual (defArgs st) (defBody st) (defScope st) .none (.ref D) doc pm an cdv ct), osl⟩)
    (c : PySem.W.codeIn K cdv qual = true) (k : PySem.W.keepIn K (.ref f) = true) (d : PySem.W.nsIn K D kn = some (some (.int dv t))) (hn : n + 1 = ps.length)
    (h0 : ∀ (D : Addr) (doc pm : Value) (an : Option Addr) (cdv ct : Value) (us ks : List Value), us.length = n → ks.length = 1 →
      L2.KwChain D ([kn].zip ks) (bindArgs (PySem.W.fnOf x qual (defArgs st) (defBody st) (defScope st) .none (.ref D) doc pm an cdv ct) ⟨us, []⟩) (ps.zip (us ++ ks)))
    (h1 : ∀ (kV doc pm : Value) (an : Option Addr) (cdv ct : Value) (us ws : List Value), us.length = n → ws.length = 1 → bindArgs (PySem.W.fnOf x qual (defArgs st) (defBody st) (defScope st) .none kV doc pm an cdv ct) ⟨us, [kn].zip ws⟩ = pure (ps.zip (us ++ ws))) :
    FunAtK K mg x qual st ps n kn dv := by
  have F := fun_mk (st := st) l c k
  have FD : L2.FunD K x qual (defArgs st) (defBody st) (defScope st) [] [(kn, V.int dv)] f (PySem.W.fnOf x qual (defArgs st) (defBody st) (defScope st) .none (.ref D) doc pm an cdv ct) :=
    ⟨⟨oc, od, .none, .ref D, doc, pm, an, cdv, ct, osl, rfl, l, c, .inl ⟨rfl, rfl⟩, .inr ⟨D, rfl, fun q hq => by rw [List.mem_singleton.mp hq]; exact ⟨_, d, t, rfl⟩⟩⟩, k⟩
  refine ⟨f, _, F, PySem.W.mg_of X G a, FD.binds0 n (by simp) (by simpa using hn) fun D doc pm an cdv ct us ks e1 e2 => h0 D doc pm an cdv ct us ks e1 e2, ⟨fun s us ws _ e1 e2 => .of_eq (h1 _ doc pm an cdv ct us ws e1 e2), fun r1 r2 => r1.append r2⟩⟩
theorem okdK {x qual : Str} {st : Stmt} {N ps : List Str} {k n : Nat} {kn : Str} {dv : Int} {sp : QSp} {q : QS} (F : FunAtK K mg x qual st ps n kn dv) (S : FnScope N ps (defScope st)) (len : ∀ ts G Q E, sp ts G Q E → ts.length = ps.length)
    (der : ∀ (f : Addr) (cdv : Value) (A : Around) (outer : List PySem.Env) (s : Shared) (H : Hp) (E : XK), Room k (A.deeper (envOfC qual (defScope st) s.heap.objs.size f cdv)) → PSs (cxOf CX0 P w K mg base N qual (defScope st) f cdv A outer s H E).nox (defBody st) (cS K q))
    (run : ∀ ts G Q E, sp ts G Q E → normK (startT N ts) fun ρ => q (endOf Q) ρ G) : DefOkK P w K mg base (k + 1) x ps n kn dv sp := by
  obtain ⟨f, fd, F, m, b⟩ := F.ex
  exact ⟨f, fd, okq F S len (der f) run, m, F.kp, b⟩
end
section
variable {X : Cx} {k n : Nat} {x kn : Str} {dv : Int} {ps : List Str} {sp : QSp} {qa : QA} {qe : QE} {p pos kpos : Pos} {e ek : Expr} {es : List Expr}
def qCallD (sp : QSp) (dv : Int) (qa : QA) : QE := fun ρ G Q => qa ρ G fun ts G1 => sp (ts ++ [.int dv]) G1 Q X0
theorem e_callKD (D : DefOkK X.prog X.w X.K X.mg X.base k x ps n kn dv sp) (hr : Room k X.A) (hg : Gl X x) (ha : PA X (e :: es) (cA X.K qa)) (hdb : (x == ("__debug__" : Str)) = false := by decide)
    (he : starEach (e :: es) X.env = (false, eval e X.env) :: starEach es X.env := by rfl) (hpl : (backTo pos (starEach es X.env)).any (·.1) = false := by rfl) : PE X (.Call (.Name x p) (e :: es) [] pos) (cE X.K (qCallD sp dv qa)) := by
  obtain ⟨f, fd, F, m, kp, ⟨ds, hd, b⟩, _⟩ := D.ex
  refine PE.wk (pe_call F hr hg m kp b hd pass0 ha hdb he hpl) fun σ H KQ h => ?_
  obtain ⟨ρ, G, Q, e, a, q, g⟩ := h
  refine ⟨ρ, G, _, e, a, q, fun vs H1 ts G1 k1 a1 r1 q1 => ?_⟩
  exact ⟨ts ++ [.int dv], G1, Q, X0, r1.append (RpL.one (t := .int dv) (show Rp X.K H1 (.int dv) (.int dv) from rfl)), a1, q1, g.from k1, folx0⟩
def qCallK (sp : QSp) (n : Nat) (qa : QA) (qe : QE) : QE := fun ρ G Q => qa ρ G fun ts G1 => qe ρ G1 fun z G2 => ts.length = n ∧ sp (ts ++ [z]) G2 Q X0
theorem e_callKK (D : DefOkK X.prog X.w X.K X.mg X.base k x ps n kn dv sp) (hr : Room k X.A) (hg : Gl X x) (ha : PA X (e :: es) (cA X.K qa)) (hk : PE X ek (cE X.K qe))
    (hall : (backToKw pos (keywordEach [⟨some kn, ek, kpos⟩] X.env)).all (·.1.isSome) = true := by rfl) (hks : (backToKw pos (keywordEach [⟨some kn, ek, kpos⟩] X.env)).filterMap (·.1) = [kn] := by rfl)
    (hdb : (x == ("__debug__" : Str)) = false := by decide) (he : starEach (e :: es) X.env = (false, eval e X.env) :: starEach es X.env := by rfl)
    (hpl : ((backTo pos (starEach (e :: es) X.env)).any (·.1) || (backToKw pos (keywordEach [⟨some kn, ek, kpos⟩] X.env)).any (·.1.isNone)) = false := by rfl) :
    PE X (.Call (.Name x p) (e :: es) [⟨some kn, ek, kpos⟩] pos) (cE X.K (qCallK sp n qa qe)) := by
  obtain ⟨f, fd, F, m, kp, _, b⟩ := D.ex
  refine PE.wk (pe_callN F hr hg m kp b pass0 ha (pk_cons hk pk_nil) hall hks hdb he hpl) fun σ H KQ h => ?_
  obtain ⟨ρ, G, Q, e, a, q, g⟩ := h
  refine ⟨ρ, G, _, e, a, q, fun vs H1 ts G1 k1 a1 r1 q1 => ?_⟩
  refine ⟨ρ, G1, _, e.mono k1, a1, q1, fun v H2 z G2 k2 a2 r2 q2 => ?_⟩
  exact ⟨by rw [r1.length]; exact q2.1, rfl, ts ++ [z], G2, Q, X0, (RpL.mono k2 _ _ r1).append (RpL.one r2), a2, q2.2, g.from (k1.trans k2), folx0⟩
end
end Lw

set_option Elab.async false
set_option linter.all false
set_option maxRecDepth 100000
set_option maxHeartbeats 4000000
namespace Law
open PySem PySem.Spec PyProof.Rows L2 Lw
abbrev WN : List Str := ["rules", "made", "forms", "molten", "used"]
def topS (i : Nat) : Stmt := PySem.Challenge.pw_mouldkin_k05_fewest_by_all_lines.main.body.getD i (.Pass ⟨0, 0, 0, 0⟩)
structure Txt (K : PySem.W.Frag) (mg : Str → Option Value) : Prop where
  n_min : mg "min" = none
  n_range : mg "range" = none
  n_sorted : mg "sorted" = none
  n_enumerate : mg "enumerate" = none
  n_max : mg "max" = none
  n_sum : mg "sum" = none
  n_abs : mg "abs" = none
  n_len : mg "len" = none
  n_tuple : mg "tuple" = none
  n_set : mg "set" = none
/-- a fraction -/
def fr (p : Int × Int) : T := .tup [.int p.1, .int p.2]
/-- in lowest terms -/
def low (t b : Int) : Int × Int := (t / (Int.gcd t b : Int), b / (Int.gcd t b : Int))
theorem gcd_step {x y : Int} (hx : 0 ≤ x) (hy : 0 < y) : Int.gcd y (x % y) = Int.gcd x y := by
  rw [Int.emod_def, Int.gcd_sub_mul_left_right, Int.gcd_comm]
theorem mulOk {i j : Int} (a b : Nat) (h1 : i.natAbs < 2 ^ a) (h2 : j.natAbs < 2 ^ b) (h : a + b ≤ 900000) : MulOk i j := ⟨a, b, h1, h2, h⟩
theorem divOk {j : Int} (b : Nat) (h : 0 < j) (h1 : j.natAbs < 2 ^ b) (h2 : b ≤ 8999) : DivOk j := ⟨h, b, h1, h2⟩
theorem natAbs_ediv_le {t : Int} {g : Nat} (h : 0 ≤ t) : (t / (g : Int)).natAbs ≤ t.natAbs := by
  have h1 : 0 ≤ t / (g : Int) := Int.ediv_nonneg h (Int.natCast_nonneg g)
  have h2 : t / (g : Int) ≤ t := Int.ediv_le_self _ h
  omega
/-- in bounds: top from nought on, bottom above, both below 2 ^ n -/
structure Fb (n : Nat) (p : Int × Int) : Prop where
  t0 : 0 ≤ p.1
  b0 : 0 < p.2
  t1 : p.1.natAbs < 2 ^ n
  b1 : p.2.natAbs < 2 ^ n
theorem low_b0 {t b : Int} (hb : 0 < b) : 0 < b / (Int.gcd t b : Int) := by
  have hp : 0 < Int.gcd t b := Int.gcd_pos_of_ne_zero_right t (by omega)
  exact Int.ediv_pos_of_pos_of_dvd hb (Int.natCast_nonneg _) (Int.gcd_dvd_right t b)
theorem Fb.low {n : Nat} {t b : Int} (h : Fb n (t, b)) : Fb n (low t b) :=
  ⟨Int.ediv_nonneg h.t0 (Int.natCast_nonneg _), low_b0 h.b0, Nat.lt_of_le_of_lt (natAbs_ediv_le h.t0) h.t1, Nat.lt_of_le_of_lt (natAbs_ediv_le (Int.le_of_lt h.b0)) h.b1⟩
theorem Fb.mono {n m : Nat} {p : Int × Int} (h : Fb n p) (k : n ≤ m) : Fb m p :=
  ⟨h.t0, h.b0, Nat.lt_of_lt_of_le h.t1 (Nat.pow_le_pow_right (by decide) k), Nat.lt_of_lt_of_le h.b1 (Nat.pow_le_pow_right (by decide) k)⟩
/-- rules: shrink, wear, life -/
abbrev Ru := (Int × Int) × (Int × Int) × Int
def ruT (r : Ru) : T := .tup [fr r.1, fr r.2.1, .int r.2.2]
structure RuOk (r : Ru) : Prop where
  s0 : 0 < r.1.1
  s1 : r.1.1 < r.1.2
  s2 : r.1.2 ≤ 20
  sg : Int.gcd r.1.1 r.1.2 = 1
  w0 : 0 ≤ r.2.1.1
  w1 : r.2.1.1 ≤ 1000
  w2 : 0 < r.2.1.2
  w3 : r.2.1.2 ≤ 20
  wg : Int.gcd r.2.1.1 r.2.1.2 = 1
  l0 : 1 ≤ r.2.2
  l1 : r.2.2 ≤ 6
structure SzOk (s : Int × Int) : Prop where
  t0 : 0 < s.1
  t1 : s.1 ≤ 1000000
  b0 : 0 < s.2
  b1 : s.2 ≤ 1000
  g : Int.gcd s.1 s.2 = 1
/-- a casting's size -/
def cast (r : Ru) (s : Int × Int) (n : Int) : Int × Int := low ((s.1 * r.2.1.2 + n * r.2.1.1 * s.2) * r.1.1) (s.2 * r.2.1.2 * r.1.2)
theorem mul_lt_pow {i j : Int} {a b : Nat} (h1 : i.natAbs < 2 ^ a) (h2 : j.natAbs < 2 ^ b) : (i * j).natAbs < 2 ^ (a + b) := wide_lt h1 h2
theorem small_pow {i : Int} (h0 : 0 ≤ i) (k : Nat) (h : i < 2 ^ k) : i.natAbs < 2 ^ k := by
  have e : ((2 ^ k : Nat) : Int) = (2 : Int) ^ k := by norm_cast
  omega
/-- what cast multiplies, in bounds -/
structure CastB (r : Ru) (s : Int × Int) (n : Int) (k : Nat) : Prop where
  a1 : (s.1 * r.2.1.2).natAbs < 2 ^ (k + 5)
  a2 : (n * r.2.1.1).natAbs < 2 ^ 13
  a3 : (n * r.2.1.1 * s.2).natAbs < 2 ^ (k + 13)
  a4 : (s.1 * r.2.1.2 + n * r.2.1.1 * s.2).natAbs < 2 ^ (k + 14)
  a5 : ((s.1 * r.2.1.2 + n * r.2.1.1 * s.2) * r.1.1).natAbs < 2 ^ (k + 19)
  b1 : (s.2 * r.2.1.2).natAbs < 2 ^ (k + 5)
  b2 : (s.2 * r.2.1.2 * r.1.2).natAbs < 2 ^ (k + 10)
  t0 : 0 ≤ (s.1 * r.2.1.2 + n * r.2.1.1 * s.2) * r.1.1
  b0 : 0 < s.2 * r.2.1.2 * r.1.2
theorem castB {r : Ru} {s : Int × Int} {n : Int} {k : Nat} (hr : RuOk r) (hs : Fb k s) (h0 : 0 ≤ n) (h1 : n ≤ 5) : CastB r s n k := by
  have w2 : r.2.1.2.natAbs < 2 ^ 5 := by have := hr.w2; have := hr.w3; have : (2 : Nat) ^ 5 = 32 := rfl; omega
  have w1 : r.2.1.1.natAbs < 2 ^ 10 := by have := hr.w0; have := hr.w1; have : (2 : Nat) ^ 10 = 1024 := rfl; omega
  have s1 : r.1.1.natAbs < 2 ^ 5 := by have := hr.s0; have := hr.s1; have := hr.s2; have : (2 : Nat) ^ 5 = 32 := rfl; omega
  have s2 : r.1.2.natAbs < 2 ^ 5 := by have := hr.s0; have := hr.s1; have := hr.s2; have : (2 : Nat) ^ 5 = 32 := rfl; omega
  have n1 : n.natAbs < 2 ^ 3 := by have : (2 : Nat) ^ 3 = 8 := rfl; omega
  have a1 := mul_lt_pow hs.t1 w2
  have a2 := mul_lt_pow n1 w1
  have a3 := mul_lt_pow a2 hs.b1
  have b1 := mul_lt_pow hs.b1 w2
  have b2 := mul_lt_pow b1 s2
  have p0 : 0 ≤ s.1 * r.2.1.2 := Int.mul_nonneg hs.t0 (Int.le_of_lt hr.w2)
  have p1 : 0 ≤ n * r.2.1.1 := Int.mul_nonneg h0 hr.w0
  have p2 : 0 ≤ n * r.2.1.1 * s.2 := Int.mul_nonneg p1 (Int.le_of_lt hs.b0)
  have e3 : 3 + 10 + k = k + 13 := by omega
  rw [e3] at a3
  have a4 : (s.1 * r.2.1.2 + n * r.2.1.1 * s.2).natAbs < 2 ^ (k + 14) := by
    have q1 : 2 ^ (k + 5) ≤ 2 ^ (k + 13) := Nat.pow_le_pow_right (by decide) (by omega)
    have q2 : 2 ^ (k + 14) = 2 ^ (k + 13) * 2 := Nat.pow_succ 2 (k + 13)
    omega
  have a5 := mul_lt_pow a4 s1
  exact ⟨a1, a2, a3, a4, a5, b1, b2, Int.mul_nonneg (by omega) (Int.le_of_lt hr.s0), Int.mul_pos (Int.mul_pos hs.b0 hr.w2) (Int.lt_trans hr.s0 hr.s1)⟩
theorem cast_b {r : Ru} {s : Int × Int} {n : Int} {k : Nat} (hr : RuOk r) (hs : Fb k s) (h0 : 0 ≤ n) (h1 : n ≤ 5) : Fb (k + 19) (cast r s n) := by
  have c := castB hr hs h0 h1
  exact Fb.low ⟨c.t0, c.b0, c.a5, Nat.lt_of_lt_of_le c.b2 (Nat.pow_le_pow_right (by decide) (by omega))⟩
/-! ### lists -/
theorem map_at {α : Type} {f : α → T} {l : List α} {i : Nat} {t : T} (h : (l.map f)[i]? = some t) : ∃ n, l[i]? = some n ∧ t = f n := by
  rw [List.getElem?_map] at h
  cases e : l[i]? with
  | none => rw [e] at h; cases h
  | some n => rw [e] at h; exact ⟨n, rfl, (Option.some.inj h).symm⟩
theorem take_one {α : Type} {l : List α} {i : Nat} {x : α} (h : l[i]? = some x) : l.take (i + 1) = l.take i ++ [x] := by
  rw [List.take_add_one, h]; rfl
theorem foldl_take {α β : Type} (f : β → α → β) (s : β) {l : List α} {i : Nat} {x : α} (h : l[i]? = some x) : (l.take (i + 1)).foldl f s = f ((l.take i).foldl f s) x := by
  rw [take_one h, List.foldl_append]; rfl
theorem rngT_at {n i : Nat} {t : T} (h : (rngT n)[i]? = some t) : i < n ∧ t = .int i := by
  unfold rngT at h
  obtain ⟨m, hm, e⟩ := map_at h
  have hi : i < n := by
    have := (List.getElem?_eq_some_iff.mp hm).1
    rw [List.length_range] at this; exact this
  rw [List.getElem?_range hi] at hm
  cases hm
  exact ⟨hi, e⟩
theorem rngT_len {n : Nat} : (rngT n).length = n := by unfold rngT; rw [List.length_map, List.length_range]
theorem flat_rep {α : Type} (x : α) : ∀ n : Nat, (List.replicate n [x]).flatten = List.replicate n x
  | 0 => rfl
  | n + 1 => by rw [List.replicate_succ, List.flatten_cons, flat_rep x n, List.replicate_succ]; rfl
abbrev lnT (l : List Int) : T := .tup (l.map T.int)
/-! ### the bag of draws -/
structure BOk (c1 c2 : Int) : Prop where
  h1 : 0 ≤ c1
  h2 : 0 ≤ c2
  h3 : c2 < 2147483647
abbrev bagO (c1 c2 : Int) : GO := .lst [.int c1, .int c2]
def Bag (G : Gp) (b : Addr) : Prop := ∃ c1 c2, G b = some (bagO c1 c2) ∧ BOk c1 c2
def BagTo (b : Addr) (G G' : Gp) : Prop := ∃ c1 c2, BOk c1 c2 ∧ G' = gput G b (bagO c1 c2)
/-- from G0 the bag alone was changed, new things were made -/
def BT (b : Addr) (G0 G : Gp) : Prop := ∃ c1 c2, BOk c1 c2 ∧ Sub (gput G0 b (bagO c1 c2)) G
theorem BT.start {b : Addr} {G : Gp} (h : Bag G b) : BT b G G := by
  obtain ⟨c1, c2, e, o⟩ := h
  exact ⟨c1, c2, o, by rw [gput_id e]; exact Sub.refl G⟩
theorem BT.bag {b : Addr} {G0 G : Gp} (h : BT b G0 G) : Bag G b := by
  obtain ⟨c1, c2, o, s⟩ := h
  exact ⟨c1, c2, s b _ gput_same, o⟩
theorem BT.to {b : Addr} {G0 G G' : Gp} (h : BT b G0 G) (t : BagTo b G G') : BT b G0 G' := by
  obtain ⟨c1, c2, o, s⟩ := h
  obtain ⟨d1, d2, o', rfl⟩ := t
  refine ⟨d1, d2, o', fun a u e => ?_⟩
  by_cases ha : a = b
  · subst ha; rw [gput_same] at e ⊢; exact e
  · rw [gput_ne ha] at e ⊢
    exact s a u (by rw [gput_ne ha]; exact e)
theorem BT.new {b p : Addr} {G0 G : Gp} {o : GO} (h : BT b G0 G) (hp : G p = none) : BT b G0 (gput G p o) := by
  obtain ⟨c1, c2, ok, s⟩ := h
  exact ⟨c1, c2, ok, s.new hp⟩
theorem BT.get {b a : Addr} {G0 G : Gp} {o : GO} (h : BT b G0 G) (ha : a ≠ b) (e : G0 a = some o) : G a = some o := by
  obtain ⟨c1, c2, ok, s⟩ := h
  exact s a o (by rw [gput_ne ha]; exact e)
theorem BT.ret {b : Addr} {G0 G : Gp} {Q : TK} {t : T} (h : BT b G0 G) (k : ∀ G', BagTo b G0 G' → Q t G') : Ret Q t G := by
  obtain ⟨c1, c2, o, s⟩ := h
  exact ⟨_, s, k _ ⟨c1, c2, o, rfl⟩⟩
theorem BagTo.bt {b : Addr} {G G' : Gp} (hb : Bag G b) (t : BagTo b G G') : BT b G G' := (BT.start hb).to t
theorem bag_new {b : Addr} {G : Gp} (h : Bag G b) {p : Addr} (hp : G p = none) : b ≠ p := by
  obtain ⟨c1, c2, e, _⟩ := h
  exact gne e hp
theorem BagTo.ne {a b : Addr} {G G' : Gp} (t : BagTo b G G') (h : a ≠ b) : G' a = G a := by
  obtain ⟨c1, c2, _, rfl⟩ := t
  exact gput_ne h
/-! ### lowest terms -/
theorem low_le {t b : Int} (h0 : 0 ≤ t) (hb : 0 < b) : 0 ≤ (low t b).1 ∧ (low t b).1 ≤ t ∧ 0 < (low t b).2 ∧ (low t b).2 ≤ b ∧ Int.gcd (low t b).1 (low t b).2 = 1 := by
  have hp : 0 < Int.gcd t b := Int.gcd_pos_of_ne_zero_right t (by omega)
  refine ⟨Int.ediv_nonneg h0 (Int.natCast_nonneg _), Int.ediv_le_self _ h0, low_b0 hb, Int.ediv_le_self _ (Int.le_of_lt hb), ?_⟩
  show Int.gcd (t / _) (b / _) = 1
  rw [Int.gcd_ediv (Int.gcd_dvd_left t b) (Int.gcd_dvd_right t b), Int.natAbs_natCast, Nat.div_self hp]
theorem low_mul {t b : Int} : (low t b).1 * (Int.gcd t b : Int) = t ∧ (low t b).2 * (Int.gcd t b : Int) = b :=
  ⟨Int.ediv_mul_cancel (Int.gcd_dvd_left t b), Int.ediv_mul_cancel (Int.gcd_dvd_right t b)⟩
theorem low_pos {t b : Int} (h0 : 0 < t) (hb : 0 < b) : 0 < (low t b).1 := by
  obtain ⟨h1, _⟩ := low_le (Int.le_of_lt h0) hb
  rcases Int.lt_or_eq_of_le h1 with h | h
  · exact h
  · have := (low_mul (t := t) (b := b)).1
    rw [← h, Int.zero_mul] at this
    omega
theorem low_lt {t b : Int} (h0 : 0 ≤ t) (hb : 0 < b) (h : t < b) : (low t b).1 < (low t b).2 := by
  have hp : 0 < Int.gcd t b := Int.gcd_pos_of_ne_zero_right t (by omega)
  obtain ⟨e1, e2⟩ := low_mul (t := t) (b := b)
  have : (low t b).1 * (Int.gcd t b : Int) < (low t b).2 * (Int.gcd t b : Int) := by rw [e1, e2]; exact h
  exact Int.lt_of_mul_lt_mul_right this (by omega)
theorem low_cross {t b : Int} : (low t b).1 * b = t * (low t b).2 := by
  obtain ⟨e1, e2⟩ := low_mul (t := t) (b := b)
  generalize (low t b).1 = x at *
  generalize (low t b).2 = y at *
  generalize (Int.gcd t b : Int) = g at *
  subst e1 e2
  grind
theorem dvd_cop {a b d : Int} (h : b ∣ a * d) (g : Int.gcd a b = 1) : b ∣ d := by
  have h' : b.natAbs ∣ a.natAbs * d.natAbs := by
    rw [← Int.natAbs_mul]
    exact Int.natAbs_dvd_natAbs.mpr h
  have c : Nat.Coprime b.natAbs a.natAbs := by
    show Nat.gcd b.natAbs a.natAbs = 1
    rw [Nat.gcd_comm]
    exact g
  exact Int.natAbs_dvd_natAbs.mp (c.dvd_of_dvd_mul_left h')
/-- a fraction in lowest terms is the only one of its value -/
theorem red_eq {a b c d : Int} (hb : 0 < b) (hd : 0 < d) (g1 : Int.gcd a b = 1) (g2 : Int.gcd c d = 1) (h : a * d = c * b) : a = c ∧ b = d := by
  have h1 : b ∣ d := by
    have : b ∣ a * d := ⟨c, by rw [h, Int.mul_comm]⟩
    exact dvd_cop this g1
  have h2 : d ∣ b := by
    have : d ∣ c * b := ⟨a, by rw [← h, Int.mul_comm]⟩
    exact dvd_cop this g2
  have e : b = d := Int.dvd_antisymm (Int.le_of_lt hb) (Int.le_of_lt hd) h1 h2
  subst e
  exact ⟨Int.eq_of_mul_eq_mul_right (by omega) h, rfl⟩
theorem low_eq {a b c d : Int} (ha : 0 ≤ a) (hc : 0 ≤ c) (hb : 0 < b) (hd : 0 < d) (h : a * d = c * b) : low a b = low c d := by
  obtain ⟨_, _, p1, _, g1⟩ := low_le ha hb
  obtain ⟨_, _, p2, _, g2⟩ := low_le hc hd
  have e1 := low_cross (t := a) (b := b)
  have e2 := low_cross (t := c) (b := d)
  have : (low a b).1 * (low c d).2 = (low c d).1 * (low a b).2 := by
    have hz : (low a b).1 * (low c d).2 * (b * d) = (low c d).1 * (low a b).2 * (b * d) := by
      generalize (low a b).1 = x1 at *
      generalize (low a b).2 = x2 at *
      generalize (low c d).1 = y1 at *
      generalize (low c d).2 = y2 at *
      have q1 : x1 * y2 * (b * d) = (x1 * b) * y2 * d := by grind
      have q2 : y1 * x2 * (b * d) = (y1 * d) * x2 * b := by grind
      rw [q1, q2, e1, e2]
      have q3 : a * x2 * y2 * d = (a * d) * x2 * y2 := by grind
      have q4 : c * y2 * x2 * b = (c * b) * x2 * y2 := by grind
      rw [q3, q4, h]
    exact Int.eq_of_mul_eq_mul_right (by have := Int.mul_pos hb hd; omega) hz
  obtain ⟨q1, q2⟩ := red_eq p1 p2 g1 g2 this
  exact Prod.ext q1 q2
theorem low_red {t b : Int} (g : Int.gcd t b = 1) : low t b = (t, b) := by
  unfold low
  rw [g]
  simp
/-! ### things of any kind -/
mutual
def AnyT (G : Gp) : T → Prop
  | .tup ts => AnyTs G ts
  | .ref a => ∃ xs, G a = some (.lst xs)
  | .ty _ => False
  | .scr _ => False
  | _ => True
def AnyTs (G : Gp) : List T → Prop
  | [] => True
  | t :: ts => AnyT G t ∧ AnyTs G ts
end
def isWhole : T → Bool
  | .int _ => true
  | _ => false
def isWithin (x : T) (a b : Int) : Bool := match x with
  | .int i => decide (a ≤ i) && decide (i ≤ b)
  | _ => false
def isPart (x : T) (mt mb : Int) : Bool := match x with
  | .tup [a, b] => isWithin a 0 mt && isWithin b 1 mb && (match a, b with | .int t, .int c => decide (low t c = (t, c)) | _, _ => false)
  | _ => false
def below : T → Bool
  | .tup [.int t, .int c] => decide (0 < t) && decide (t < c)
  | _ => false
def areRules : T → Bool
  | .tup [a, b, c] => isPart a 20 20 && below a && isPart b 1000 20 && isWithin c 1 6
  | _ => false
def isSize (x : T) : Bool := isPart x 1000000 1000 && (match x with | .tup (.int t :: _) => decide (0 < t) | _ => false)
theorem ite_bl {c : Bool} {A B : Prop} (h1 : c = true → A) (h2 : c = false → B) : (c = true → A) ∧ (c = false → B) := ⟨h1, h2⟩
theorem isPart_fr {t c mt mb : Int} (h : isPart (.tup [.int t, .int c]) mt mb = true) : 0 ≤ t ∧ t ≤ mt ∧ 1 ≤ c ∧ c ≤ mb ∧ low t c = (t, c) := by
  simp only [isPart, isWithin, Bool.and_eq_true, decide_eq_true_eq] at h
  exact ⟨h.1.1.1, h.1.1.2, h.1.2.1, h.1.2.2, h.2⟩
/-! ### fractions as rationals -/
def rv (p : Int × Int) : Rat := (p.1 : Rat) / (p.2 : Rat)
theorem cast_pos {a : Int} (h : 0 < a) : (0 : Rat) < (a : Rat) := by exact_mod_cast h
theorem div_lt {a b c d : Int} (hb : 0 < b) (hd : 0 < d) : a * d < c * b ↔ (a : Rat) / (b : Rat) < (c : Rat) / (d : Rat) := by
  have hb' := cast_pos hb
  have hd' := cast_pos hd
  rw [Rat.div_lt_iff hb']
  have e : (c : Rat) / d * b = (c * b : Rat) / d := by grind
  rw [e, Rat.lt_div_iff hd']
  exact_mod_cast Iff.rfl
theorem rv_lt {p q : Int × Int} (hp : 0 < p.2) (hq : 0 < q.2) : p.1 * q.2 < q.1 * p.2 ↔ rv p < rv q := div_lt hp hq
theorem rv_low {t b : Int} (hb : 0 < b) : rv (low t b) = (t : Rat) / (b : Rat) := by
  have h1 := low_cross (t := t) (b := b)
  have h2 : 0 < (low t b).2 := low_b0 hb
  have hb' := cast_pos hb
  have h2' := cast_pos h2
  have h3 : ((low t b).1 : Rat) * (b : Rat) = (t : Rat) * ((low t b).2 : Rat) := by exact_mod_cast h1
  unfold rv
  generalize ((low t b).1 : Rat) = x at *
  generalize ((low t b).2 : Rat) = y at *
  have hy : y ≠ 0 := by grind
  have hb2 : (b : Rat) ≠ 0 := by grind
  grind
theorem rv_inj {p q : Int × Int} (hp : 0 < p.2) (hq : 0 < q.2) (g1 : Int.gcd p.1 p.2 = 1) (g2 : Int.gcd q.1 q.2 = 1) (h : rv p = rv q) : p = q := by
  have h1 := cast_pos hp
  have h2 := cast_pos hq
  have e : (p.1 : Rat) * (q.2 : Rat) = (q.1 : Rat) * (p.2 : Rat) := by
    unfold rv at h
    grind
  have e' : p.1 * q.2 = q.1 * p.2 := by exact_mod_cast e
  obtain ⟨a, b⟩ := red_eq hp hq g1 g2 e'
  exact Prod.ext a b
theorem rv_cast {r : Ru} {s : Int × Int} {n : Int} (hr : RuOk r) (hs : 0 < s.2) : rv (cast r s n) = (rv s + (n : Rat) * rv r.2.1) * rv r.1 := by
  have hd : 0 < s.2 * r.2.1.2 * r.1.2 := Int.mul_pos (Int.mul_pos hs hr.w2) (Int.lt_trans hr.s0 hr.s1)
  unfold cast
  rw [rv_low hd]
  have a := cast_pos hs
  have b := cast_pos hr.w2
  have c := cast_pos (Int.lt_trans hr.s0 hr.s1)
  unfold rv
  simp only [Rat.intCast_mul, Rat.intCast_add]
  generalize (s.2 : Rat) = x at *
  generalize (r.2.1.2 : Rat) = y at *
  generalize (r.1.2 : Rat) = z at *
  have hx : x ≠ 0 := by grind
  have hy : y ≠ 0 := by grind
  have hz : z ≠ 0 := by grind
  grind
/-- in lowest terms, bottom from 1 on -/
structure Red (p : Int × Int) : Prop where
  b0 : 0 < p.2
  g : Int.gcd p.1 p.2 = 1
theorem SzOk.red {s : Int × Int} (h : SzOk s) : Red s := ⟨h.b0, h.g⟩
theorem red_low {t b : Int} (h0 : 0 ≤ t) (hb : 0 < b) : Red (low t b) := ⟨(low_le h0 hb).2.2.1, (low_le h0 hb).2.2.2.2⟩
theorem Red.inj {p q : Int × Int} (h : Red p) (k : Red q) (e : rv p = rv q) : p = q := rv_inj h.b0 k.b0 h.g k.g e
theorem SzOk.fb {s : Int × Int} (hs : SzOk s) : Fb 20 s :=
  ⟨Int.le_of_lt hs.t0, hs.b0, by have := hs.t0; have := hs.t1; have : (2 : Nat) ^ 20 = 1048576 := rfl; omega, by have := hs.b0; have := hs.b1; have : (2 : Nat) ^ 20 = 1048576 := rfl; omega⟩
/-- the piece of a line -/
def pc (r : Ru) (s : Int × Int) (l : List Int) : Int × Int := l.foldl (cast r) s
theorem pc_snoc {r : Ru} {s : Int × Int} {l : List Int} {n : Int} : pc r s (l ++ [n]) = cast r (pc r s l) n := by unfold pc; rw [List.foldl_append]; rfl
theorem pc_app {r : Ru} {s : Int × Int} {l m : List Int} : pc r s (l ++ m) = pc r (pc r s l) m := by unfold pc; rw [List.foldl_append]
/-- numbers of castings in bounds -/
def LnOk (l : List Int) : Prop := ∀ n ∈ l, 0 ≤ n ∧ n ≤ 5
theorem pc_fb {r : Ru} (hr : RuOk r) : ∀ (l : List Int) (k : Nat) (s : Int × Int), Fb k s → LnOk l → Fb (k + 19 * l.length) (pc r s l)
  | [], k, s, h, _ => h
  | a :: l, k, s, h, hl => by
    have := pc_fb hr l (k + 19) (cast r s a) (cast_b hr h (hl a (by simp)).1 (hl a (by simp)).2) fun n hn => hl n (by simp [hn])
    rw [List.length_cons, show k + 19 * (l.length + 1) = k + 19 + 19 * l.length by omega]
    exact this
theorem cast_red {r : Ru} (hr : RuOk r) {s : Int × Int} {n : Int} {k : Nat} (hs : Fb k s) (h0 : 0 ≤ n) (h1 : n ≤ 5) : Red (cast r s n) := by
  have c := castB hr hs h0 h1
  exact red_low c.t0 c.b0
theorem pc_red {r : Ru} (hr : RuOk r) : ∀ (l : List Int) (k : Nat) (s : Int × Int), Fb k s → Red s → LnOk l → Red (pc r s l)
  | [], k, s, _, h, _ => h
  | a :: l, k, s, h, _, hl => pc_red hr l (k + 19) (cast r s a) (cast_b hr h (hl a (by simp)).1 (hl a (by simp)).2) (cast_red hr h (hl a (by simp)).1 (hl a (by simp)).2) fun n hn => hl n (by simp [hn])
theorem rv_sh {r : Ru} (hr : RuOk r) : 0 < rv r.1 ∧ rv r.1 < 1 := by
  have a := cast_pos hr.s0
  have b := cast_pos (Int.lt_trans hr.s0 hr.s1)
  have c : (r.1.1 : Rat) < (r.1.2 : Rat) := by exact_mod_cast hr.s1
  unfold rv
  refine ⟨by rw [Rat.lt_div_iff b]; grind, ?_⟩
  rw [Rat.div_lt_iff b]
  grind
theorem rv_w {r : Ru} (hr : RuOk r) : 0 ≤ rv r.2.1 := by
  have b := cast_pos hr.w2
  have a : (0 : Rat) ≤ (r.2.1.1 : Rat) := by exact_mod_cast hr.w0
  unfold rv
  refine Rat.not_lt.mp fun h => ?_
  rw [Rat.div_lt_iff b] at h
  grind
theorem rv_mono {r : Ru} (hr : RuOk r) {s t : Int × Int} {n m : Int} (h1 : 0 < s.2) (h2 : 0 < t.2) (h : rv s ≤ rv t) (hn : n ≤ m) : rv (cast r s n) ≤ rv (cast r t m) := by
  rw [rv_cast hr h1, rv_cast hr h2]
  have hs := (rv_sh hr).1
  have hw := rv_w hr
  have hn' : (n : Rat) ≤ (m : Rat) := by exact_mod_cast hn
  have z := Rat.mul_le_mul_of_nonneg_right hn' hw
  exact Rat.mul_le_mul_of_nonneg_right (by grind) (Rat.le_of_lt hs)
theorem rv_strict {r : Ru} (hr : RuOk r) {s t : Int × Int} {n m : Int} (h1 : 0 < s.2) (h2 : 0 < t.2) (h : rv s < rv t) (hn : n ≤ m) : rv (cast r s n) < rv (cast r t m) := by
  rw [rv_cast hr h1, rv_cast hr h2]
  have hs := (rv_sh hr).1
  have hw := rv_w hr
  have hn' : (n : Rat) ≤ (m : Rat) := by exact_mod_cast hn
  have z := Rat.mul_le_mul_of_nonneg_right hn' hw
  exact Rat.mul_lt_mul_of_pos_right (by grind) hs
/-- number by number no greater -/
inductive Le2 : List Int → List Int → Prop
  | nil : Le2 [] []
  | cons {n m : Int} {l k : List Int} : n ≤ m → Le2 l k → Le2 (n :: l) (m :: k)
theorem Le2.len {l k : List Int} (h : Le2 l k) : l.length = k.length := by
  induction h with
  | nil => rfl
  | cons _ _ ih => simp [ih]
theorem Le2.snoc {l k : List Int} {n m : Int} (h : Le2 l k) (hn : n ≤ m) : Le2 (l ++ [n]) (k ++ [m]) := by
  induction h with
  | nil => exact .cons hn .nil
  | cons h _ ih => exact .cons h ih
theorem Le2.refl : ∀ l : List Int, Le2 l l
  | [] => .nil
  | n :: l => .cons (Int.le_refl n) (Le2.refl l)
theorem Le2.low : ∀ {l : List Int}, (∀ n ∈ l, 0 ≤ n) → Le2 (List.replicate l.length 0) l
  | [], _ => .nil
  | n :: l, h => .cons (h n (by simp)) (Le2.low fun m hm => h m (by simp [hm]))
theorem Le2.high {a : Int} : ∀ {l : List Int}, (∀ n ∈ l, n ≤ a) → Le2 l (List.replicate l.length a)
  | [], _ => .nil
  | n :: l, h => .cons (h n (by simp)) (Le2.high fun m hm => h m (by simp [hm]))
theorem fb_cast {r : Ru} (hr : RuOk r) {s : Int × Int} {n : Int} {k : Nat} (hs : Fb k s) (hn : 0 ≤ n ∧ n ≤ 5) : Fb (k + 19) (cast r s n) := cast_b hr hs hn.1 hn.2
theorem pc_mono {r : Ru} (hr : RuOk r) {l m : List Int} (h : Le2 l m) : ∀ {s t : Int × Int} {k : Nat}, LnOk l → LnOk m → Fb k s → Fb k t → rv s ≤ rv t → rv (pc r s l) ≤ rv (pc r t m) := by
  induction h with
  | nil => intro s t k _ _ _ _ e; exact e
  | @cons n m l k hn _ ih =>
    intro s t j h1 h2 hs ht e
    exact ih (fun x hx => h1 x (by simp [hx])) (fun x hx => h2 x (by simp [hx])) (fb_cast hr hs (h1 n (by simp))) (fb_cast hr ht (h2 m (by simp))) (rv_mono hr hs.b0 ht.b0 e hn)
theorem pc_strict {r : Ru} (hr : RuOk r) {l m : List Int} (h : Le2 l m) : ∀ {s t : Int × Int} {k : Nat}, LnOk l → LnOk m → Fb k s → Fb k t → rv s < rv t → rv (pc r s l) < rv (pc r t m) := by
  induction h with
  | nil => intro s t k _ _ _ _ e; exact e
  | @cons n m l k hn _ ih =>
    intro s t j h1 h2 hs ht e
    exact ih (fun x hx => h1 x (by simp [hx])) (fun x hx => h2 x (by simp [hx])) (fb_cast hr hs (h1 n (by simp))) (fb_cast hr ht (h2 m (by simp))) (rv_strict hr hs.b0 ht.b0 e hn)
theorem pc_strict2 {r : Ru} (hr : RuOk r) (hw : 0 < rv r.2.1) {l m : List Int} (h : Le2 l m) : ∀ {s t : Int × Int} {k : Nat}, LnOk l → LnOk m → Fb k s → Fb k t → rv s ≤ rv t → l ≠ m → rv (pc r s l) < rv (pc r t m) := by
  induction h with
  | nil => intro s t k _ _ _ _ _ e; exact absurd rfl e
  | @cons n m l k hn hlk ih =>
    intro s t j h1 h2 hs ht e hne
    have f1 := fb_cast hr hs (h1 n (by simp))
    have f2 := fb_cast hr ht (h2 m (by simp))
    have g1 : LnOk l := fun x hx => h1 x (by simp [hx])
    have g2 : LnOk k := fun x hx => h2 x (by simp [hx])
    by_cases hnm : n = m
    · subst hnm
      exact ih g1 g2 f1 f2 (rv_mono hr hs.b0 ht.b0 e (Int.le_refl n)) fun z => hne (by rw [z])
    · refine pc_strict hr hlk g1 g2 f1 f2 ?_
      rw [rv_cast hr hs.b0, rv_cast hr ht.b0]
      have hlt : (n : Rat) < (m : Rat) := by exact_mod_cast (show n < m by omega)
      have z := Rat.mul_lt_mul_of_pos_right hlt hw
      exact Rat.mul_lt_mul_of_pos_right (by grind) (rv_sh hr).1
/-- no wear: the numbers don't matter -/
theorem pc_flat {r : Ru} (hw : r.2.1.1 = 0) : ∀ {l m : List Int} {s : Int × Int}, l.length = m.length → pc r s l = pc r s m
  | [], [], _, _ => rfl
  | [], _ :: _, _, h => by simp at h
  | _ :: _, [], _, h => by simp at h
  | a :: l, b :: m, s, h => by
    have e : cast r s a = cast r s b := by unfold cast; rw [hw]; simp
    show pc r (cast r s a) l = pc r (cast r s b) m
    rw [e]
    exact pc_flat hw (by simpa using h)
theorem dead {c : Bool} {A : Prop} (h : c = false) (z : c = true) : A := absurd (h.symm.trans z) Bool.false_ne_true
theorem dead' {c : Bool} {A : Prop} (h : c = true) (z : c = false) : A := absurd (z.symm.trans h) Bool.false_ne_true

/-! ### data of any kind, lists within it: no list of av -/
def Dat (av : List Addr) (G : Gp) (k : Nat) : Nat → T → Prop
  | _, .non => True
  | _, .bl _ => True
  | _, .int i => i.natAbs < 2 ^ (120 + k)
  | _, .str x => x.length + 100 ≤ 150 * 3 ^ k
  | n + 1, .tup ts => ts.length ≤ 400 + k ∧ ∀ t ∈ ts, Dat av G k n t
  | n + 1, .ref a => a ∉ av ∧ ∃ ts, G a = some (.lst ts) ∧ ts.length ≤ 400 + k ∧ ∀ t ∈ ts, Dat av G k n t
  | _, _ => False
theorem pow3_up {k j : Nat} (h : k ≤ j) : 150 * 3 ^ k ≤ 150 * 3 ^ j := Nat.mul_le_mul_left _ (Nat.pow_le_pow_right (by decide) h)
/-- more room, another heap that keeps what is not of av, fewer kept off -/
theorem Dat.mono {av av' : List Addr} {G G' : Gp} {k k' : Nat} (hk : k ≤ k') (hav : ∀ a, a ∈ av' → a ∈ av) (hG : ∀ a o, a ∉ av → G a = some o → G' a = some o) : ∀ {n n' : Nat} {t : T}, n ≤ n' → Dat av G k n t → Dat av' G' k' n' t
  | _, _, .non, _, _ => by cases ‹Nat› <;> trivial
  | _, _, .bl _, _, _ => by cases ‹Nat› <;> trivial
  | n, n', .int i, _, h => by
    have h' : i.natAbs < 2 ^ (120 + k) := by cases n <;> exact h
    have : i.natAbs < 2 ^ (120 + k') := Nat.lt_of_lt_of_le h' (Nat.pow_le_pow_right (by decide) (by omega))
    cases n' <;> exact this
  | n, n', .str x, _, h => by
    have h' : x.length + 100 ≤ 150 * 3 ^ k := by cases n <;> exact h
    have : x.length + 100 ≤ 150 * 3 ^ k' := Nat.le_trans h' (pow3_up hk)
    cases n' <;> exact this
  | n + 1, n' + 1, .tup ts, hn, ⟨h1, h2⟩ => ⟨by omega, fun t ht => Dat.mono hk hav hG (by omega) (h2 t ht)⟩
  | n + 1, n' + 1, .ref a, hn, ⟨h0, ts, h1, h2, h3⟩ => ⟨fun z => h0 (hav a z), ts, hG a _ h0 h1, by omega, fun t ht => Dat.mono hk hav hG (by omega) (h3 t ht)⟩
  | 0, _, .tup _, _, h => h.elim
  | 0, _, .ref _, _, h => h.elim
  | n + 1, 0, .tup _, h, _ => absurd h (by omega)
  | n + 1, 0, .ref _, h, _ => absurd h (by omega)
  | 0, _, .ty _, _, h => h.elim
  | 0, _, .scr _, _, h => h.elim
  | _ + 1, _, .ty _, _, h => h.elim
  | _ + 1, _, .scr _, _, h => h.elim
theorem Dat.int {av : List Addr} {G : Gp} {k n : Nat} {i : Int} : Dat av G k n (.int i) ↔ i.natAbs < 2 ^ (120 + k) := by cases n <;> exact Iff.rfl
theorem Dat.str {av : List Addr} {G : Gp} {k n : Nat} {x : Str} : Dat av G k n (.str x) ↔ x.length + 100 ≤ 150 * 3 ^ k := by cases n <;> exact Iff.rfl
theorem Dat.bl {av : List Addr} {G : Gp} {k n : Nat} {b : Bool} : Dat av G k n (.bl b) := by cases n <;> trivial
theorem Dat.non {av : List Addr} {G : Gp} {k n : Nat} : Dat av G k n .non := by cases n <;> trivial
theorem Dat.ints {av : List Addr} {G : Gp} {k n : Nat} {l : List Int} (h : ∀ i ∈ l, i.natAbs < 2 ^ (120 + k)) : ∀ t ∈ l.map T.int, Dat av G k n t := fun t ht => by
  obtain ⟨i, hi, rfl⟩ := List.mem_map.mp ht
  exact Dat.int.mpr (h i hi)
theorem anyTs_of {G : Gp} : ∀ {ts : List T}, (∀ t ∈ ts, AnyT G t) → AnyTs G ts
  | [], _ => trivial
  | t :: ts, h => ⟨h t List.mem_cons_self, anyTs_of fun u hu => h u (List.mem_cons_of_mem _ hu)⟩
theorem Dat.any {av : List Addr} {G : Gp} {k : Nat} : ∀ {n : Nat} {t : T}, Dat av G k n t → AnyT G t
  | _, .non, _ => trivial
  | _, .bl _, _ => trivial
  | _, .int i, _ => trivial
  | _, .str x, _ => trivial
  | n + 1, .tup ts, ⟨_, h⟩ => anyTs_of fun t ht => Dat.any (h t ht)
  | n + 1, .ref a, ⟨_, ts, h, _, _⟩ => ⟨ts, h⟩
  | 0, .tup _, h => h.elim
  | 0, .ref _, h => h.elim
  | 0, .ty _, h => h.elim
  | 0, .scr _, h => h.elim
  | _ + 1, .ty _, h => h.elim
  | _ + 1, .scr _, h => h.elim
/-- from G0 to G nothing but what av holds has changed -/
def Off (av : List Addr) (G G' : Gp) : Prop := ∀ a o, a ∉ av → G a = some o → G' a = some o
theorem Off.refl (av : List Addr) (G : Gp) : Off av G G := fun _ _ _ h => h
theorem Off.trans {av : List Addr} {G G1 G2 : Gp} (h : Off av G G1) (k : Off av G1 G2) : Off av G G2 := fun a o n e => k a o n (h a o n e)
theorem Off.sub {av : List Addr} {G G' : Gp} (h : Sub G G') : Off av G G' := fun a o _ e => h a o e
theorem Off.more {av av' : List Addr} {G G' : Gp} (h : Off av G G') (s : ∀ a ∈ av, a ∈ av') : Off av' G G' := fun a o n e => h a o (fun z => n (s a z)) e
theorem Off.bt {av : List Addr} {b : Addr} {G G' : Gp} (hb : b ∈ av) (h : BT b G G') : Off av G G' := fun a o n e => h.get (fun z => n (by rw [z]; exact hb)) e
theorem Off.put {av : List Addr} {p : Addr} {G G' : Gp} {o : GO} (hp : p ∈ av) (h : Off av G G') : Off av G (gput G' p o) := fun a u n e => by
  rw [gput_ne (fun z => n (by rw [z]; exact hp))]
  exact h a u n e
theorem Off.new {av : List Addr} {p : Addr} {G G' : Gp} {o : GO} (hp : G' p = none) (h : Off av G G') : Off av G (gput G' p o) := fun a u n e => by
  have := h a u n e
  rw [gput_ne (gne this hp)]
  exact this
theorem Dat.off {av : List Addr} {G G' : Gp} {k n : Nat} {t : T} (h : Dat av G k n t) (f : Off av G G') : Dat av G' k n t := h.mono (Nat.le_refl _) (fun _ z => z) f (Nat.le_refl _)
/-- the lists kept off stand in the heap -/
def Known (av : List Addr) (G : Gp) : Prop := ∀ a ∈ av, ∃ o, G a = some o
theorem Known.new {av : List Addr} {G : Gp} {p : Addr} (h : Known av G) (hp : G p = none) : p ∉ av := fun z => by
  obtain ⟨o, e⟩ := h p z
  rw [hp] at e; cases e
theorem BT.trans {b : Addr} {G0 G1 G2 : Gp} (h : BT b G0 G1) (k : BT b G1 G2) : BT b G0 G2 := by
  obtain ⟨c1, c2, o, s⟩ := h
  obtain ⟨d1, d2, o', s'⟩ := k
  refine ⟨d1, d2, o', fun a u e => ?_⟩
  by_cases ha : a = b
  · subst ha; rw [gput_same] at e; exact s' a u (by rw [gput_same]; exact e)
  · rw [gput_ne ha] at e
    exact s' a u (by rw [gput_ne ha]; exact s a u (by rw [gput_ne ha]; exact e))
theorem Known.bt {av : List Addr} {b : Addr} {G G' : Gp} (h : Known av G) (k : BT b G G') : Known av G' := fun a ha => by
  by_cases e : a = b
  · subst e
    obtain ⟨c1, c2, z, _⟩ := k.bag
    exact ⟨_, z⟩
  · obtain ⟨o, z⟩ := h a ha
    exact ⟨o, k.get e z⟩
theorem Known.sub {av : List Addr} {G G' : Gp} (h : Known av G) (s : Sub G G') : Known av G' := fun a ha => by
  obtain ⟨o, z⟩ := h a ha
  exact ⟨o, s a o z⟩
theorem Known.put {av : List Addr} {G : Gp} {p : Addr} {o : GO} (h : Known av G) : Known av (gput G p o) := fun a ha => by
  by_cases e : a = p
  · subst e; exact ⟨_, gput_same⟩
  · obtain ⟨u, z⟩ := h a ha
    exact ⟨u, by rw [gput_ne e]; exact z⟩
theorem Known.cons {av : List Addr} {G : Gp} {p : Addr} {o : GO} (h : Known av G) (e : G p = some o) : Known (p :: av) G := fun a ha => by
  rcases List.mem_cons.mp ha with z | z
  · rw [z]; exact ⟨_, e⟩
  · exact h a z
/-- one of some things, picked by a drawn number -/
theorem pick_at {ts : List T} {i : Int} (h0 : 0 ≤ i) (h1 : i < ts.length) : ∃ n t, ixN ts.length i = some n ∧ ts[n]? = some t ∧ t ∈ ts ∧ n = i.toNat := by
  have hx : i.toNat < ts.length := by omega
  have hi := ixN_nat (n := i.toNat) (len := ts.length) hx
  rw [show Int.ofNat i.toNat = i by show ((i.toNat : Nat) : Int) = i; omega] at hi
  exact ⟨_, _, hi, List.getElem?_eq_getElem hx, List.getElem_mem hx, rfl⟩
theorem cut_take {α : Type} {ts : List α} {i : Int} (h : 0 ≤ i) : cutT ts none (some i) = ts.take i.toNat := by
  unfold cutT
  rw [HT.sIx_none, List.drop_zero, Nat.sub_zero]
  obtain ⟨n, rfl⟩ : ∃ n : Nat, i = n := ⟨i.toNat, by omega⟩
  rw [HT.sIx_nat, Int.toNat_natCast]
  exact List.take_eq_take_min.symm
theorem cut_drop {α : Type} {ts : List α} {i : Int} (h : 0 ≤ i) : cutT ts (some i) none = ts.drop i.toNat := by
  unfold cutT
  rw [HT.sIx_none]
  obtain ⟨n, rfl⟩ : ∃ n : Nat, i = n := ⟨i.toNat, by omega⟩
  rw [HT.sIx_nat, Int.toNat_natCast]
  by_cases c : n ≤ ts.length
  · rw [Nat.min_eq_left c, List.take_of_length_le]
    rw [List.length_drop]; exact Nat.le_refl _
  · rw [Nat.min_eq_right (by omega), Nat.sub_self, List.take_zero, List.drop_of_length_le (by omega)]
theorem cut_len {α : Type} {ts : List α} {lo hi : Option Int} : (cutT ts lo hi).length ≤ ts.length := by
  unfold cutT
  rw [List.length_take, List.length_drop]; omega
theorem cut_mem {α : Type} {ts : List α} {lo hi : Option Int} {x : α} (h : x ∈ cutT ts lo hi) : x ∈ ts := List.mem_of_mem_drop (List.mem_of_mem_take h)
theorem dat_num {av : List Addr} {G : Gp} {k n : Nat} {i : Int} (h : i.natAbs ≤ 2 ^ (120 + k) + 1000) : Dat av G (k + 1) n (.int i) := Dat.int.mpr (by
  have e : 2 ^ (120 + (k + 1)) = 2 ^ (120 + k) * 2 := Nat.pow_succ 2 (120 + k)
  have : 2 ^ 120 ≤ 2 ^ (120 + k) := Nat.pow_le_pow_right (by decide) (by omega)
  have : 1001 ≤ 2 ^ 120 := by decide
  omega)
theorem dat_str {av : List Addr} {G : Gp} {k n : Nat} {x : Str} {l : Nat} (h : x.length ≤ 3 * l + 200) (hl : l + 100 ≤ 150 * 3 ^ k) : Dat av G (k + 1) n (.str x) := Dat.str.mpr (by
  rw [Nat.pow_succ]
  omega)
theorem str_int_len {i : Int} {k : Nat} (h : i.natAbs < 2 ^ (120 + k)) (hk : k ≤ 5) : i.natAbs.log2 < 1920 ∧ (Str.ofString (toString i)).length ≤ 200 := by
  have h1 : i.natAbs.log2 < 126 := by
    by_cases c : i.natAbs = 0
    · rw [c]; decide
    · exact (Nat.log2_lt c).mpr (Nat.lt_of_lt_of_le h (Nat.pow_le_pow_right (by decide) (by omega)))
  refine ⟨by omega, ?_⟩
  rw [PySem.ofString_length]
  have := PySem.int_text_length_le (k := 126) (by decide) h1
  omega
theorem Dat.fresh {av : List Addr} {G : Gp} {k : Nat} {p : Addr} {o : GO} (hp : G p = none) : ∀ {n : Nat} {t : T}, Dat av G k n t → Dat (p :: av) (gput G p o) k n t
  | _, .non, _ => Dat.non
  | _, .bl _, _ => Dat.bl
  | _, .int i, h => Dat.int.mpr (Dat.int.mp h)
  | _, .str x, h => Dat.str.mpr (Dat.str.mp h)
  | n + 1, .tup ts, ⟨h1, h2⟩ => ⟨h1, fun t ht => Dat.fresh hp (h2 t ht)⟩
  | n + 1, .ref a, ⟨h0, ts, h1, h2, h3⟩ => ⟨fun z => by
      rcases List.mem_cons.mp z with z | z
      · rw [z, hp] at h1; cases h1
      · exact h0 z, ts, (by rw [gput_ne (gne h1 hp)]; exact h1), h2, fun t ht => Dat.fresh hp (h3 t ht)⟩
  | 0, .tup _, h => h.elim
  | 0, .ref _, h => h.elim
  | 0, .ty _, h => h.elim
  | 0, .scr _, h => h.elim
  | _ + 1, .ty _, h => h.elim
  | _ + 1, .scr _, h => h.elim
/-- kept off is kept off -/
theorem Dat.less {av : List Addr} {G : Gp} {k n : Nat} {p : Addr} {o : GO} {t : T} (h : Dat (p :: av) G k n t) : Dat av (gput G p o) k n t :=
  h.mono (Nat.le_refl _) (fun a z => List.mem_cons_of_mem _ z) (Off.put List.mem_cons_self (Off.refl _ _)) (Nat.le_refl _)

/-- a line of such rules -/
def isLine (life : Int) : T → Bool
  | .tup us => decide (us.length ≤ 40) && us.all fun x => isWithin x 0 (life - 1)
  | _ => false
theorem anyTs_mem {G : Gp} : ∀ {ts : List T}, AnyTs G ts → ∀ t ∈ ts, AnyT G t
  | [], _, t, h => by cases h
  | u :: ts, ⟨h1, h2⟩, t, h => by
    rcases List.mem_cons.mp h with e | e
    · rw [e]; exact h1
    · exact anyTs_mem h2 t e
mutual
theorem AnyT.sub {G G' : Gp} (s : Sub G G') : ∀ t : T, AnyT G t → AnyT G' t
  | .non, _ => trivial
  | .bl _, _ => trivial
  | .int _, _ => trivial
  | .str _, _ => trivial
  | .tup ts, h => AnyTs.sub s ts h
  | .ref a, ⟨xs, h⟩ => ⟨xs, s a _ h⟩
  | .ty _, h => h.elim
  | .scr _, h => h.elim
theorem AnyTs.sub {G G' : Gp} (s : Sub G G') : ∀ ts : List T, AnyTs G ts → AnyTs G' ts
  | [], _ => trivial
  | t :: ts, ⟨h1, h2⟩ => ⟨AnyT.sub s t h1, AnyTs.sub s ts h2⟩
end

theorem filt1 {α : Type} {p : α → Bool} {x : α} (h : p x = true) : [x].filter p = [x] := by simp [h]
theorem filt0 {α : Type} {p : α → Bool} {x : α} (h : p x = false) : [x].filter p = [] := by simp [h]
theorem sub_put {G0 G : Gp} {p : Addr} {o : GO} (s : Sub G0 G) (h : G p = some o) : Sub (gput G0 p o) G := fun a u e => by
  by_cases ha : a = p
  · subst ha; rw [gput_same] at e; cases e; exact h
  · rw [gput_ne ha] at e; exact s a u e
/-! ### all lines -/
def nxt (life : Nat) (here : List (List Int)) : List (List Int) := here.flatMap fun l => (List.range life).map fun n : Nat => l ++ [(n : Int)]
def lv (life : Nat) : Nat → List (List Int)
  | 0 => [[]]
  | n + 1 => nxt life (lv life n)
def allL (life : Nat) : Nat → List (List Int)
  | 0 => [[]]
  | n + 1 => allL life n ++ lv life (n + 1)
theorem nxt_len (life : Nat) : ∀ here : List (List Int), (nxt life here).length = here.length * life
  | [] => by simp [nxt]
  | l :: here => by
    have : nxt life (l :: here) = ((List.range life).map fun n : Nat => l ++ [(n : Int)]) ++ nxt life here := by simp [nxt]
    rw [this, List.length_append, nxt_len life here, List.length_map, List.length_range, List.length_cons, Nat.add_mul]; omega
theorem nxt_snoc {life : Nat} {here : List (List Int)} {i : Nat} {x : List Int} (h : here[i]? = some x) : nxt life (here.take (i + 1)) = nxt life (here.take i) ++ (List.range life).map fun n : Nat => x ++ [(n : Int)] := by
  rw [take_one h]
  unfold nxt
  rw [List.flatMap_append]; simp
theorem lv_len (life : Nat) : ∀ n, (lv life n).length = life ^ n
  | 0 => by simp [lv]
  | n + 1 => by show (nxt life (lv life n)).length = _; rw [nxt_len, lv_len life n, Nat.pow_succ]
theorem nxt_ok {life : Nat} {here : List (List Int)} {k : Nat} (h : ∀ l ∈ here, l.length = k ∧ ∀ n ∈ l, 0 ≤ n ∧ n < (life : Int)) : ∀ l ∈ nxt life here, l.length = k + 1 ∧ ∀ n ∈ l, 0 ≤ n ∧ n < (life : Int) := by
  intro l hl
  obtain ⟨a, ha, hl⟩ := List.mem_flatMap.mp hl
  obtain ⟨n, hn, rfl⟩ := List.mem_map.mp hl
  obtain ⟨h1, h2⟩ := h a ha
  refine ⟨by simp [h1], fun m hm => ?_⟩
  rcases List.mem_append.mp hm with z | z
  · exact h2 m z
  · rw [List.mem_singleton.mp z]
    have := List.mem_range.mp hn
    omega
theorem lv_ok {life : Nat} : ∀ n, ∀ l ∈ lv life n, l.length = n ∧ ∀ m ∈ l, 0 ≤ m ∧ m < (life : Int)
  | 0 => fun l hl => by
    have : l = [] := by simpa [lv] using hl
    subst this
    exact ⟨rfl, fun _ z => by cases z⟩
  | n + 1 => nxt_ok (lv_ok n)
theorem allL_ok {life : Nat} : ∀ n, ∀ l ∈ allL life n, l.length ≤ n ∧ ∀ m ∈ l, 0 ≤ m ∧ m < (life : Int)
  | 0 => fun l hl => by
    have : l = [] := by simpa [allL] using hl
    subst this
    exact ⟨Nat.le_refl _, fun _ z => by cases z⟩
  | n + 1 => fun l hl => by
    rcases List.mem_append.mp (show l ∈ allL life n ++ lv life (n + 1) from hl) with z | z
    · obtain ⟨a, b⟩ := allL_ok n l z
      exact ⟨by omega, b⟩
    · obtain ⟨a, b⟩ := lv_ok (n + 1) l z
      exact ⟨by omega, b⟩
theorem pow_le6 {life n : Nat} (h : life ≤ 6) (hn : n ≤ 4) : life ^ n ≤ 1296 := by
  have a := Nat.pow_le_pow_left h n
  have b := Nat.pow_le_pow_right (show 0 < 6 by decide) hn
  have : 6 ^ 4 = 1296 := rfl
  omega
theorem allL_len {life : Nat} (h : life ≤ 6) : ∀ n, n ≤ 4 → (allL life n).length ≤ 1 + n * 1296
  | 0, _ => by simp [allL]
  | n + 1, hn => by
    have a := allL_len h n (by omega)
    have b := lv_len life (n + 1)
    have c := pow_le6 h hn
    show (allL life n ++ lv life (n + 1)).length ≤ _
    rw [List.length_append, b]
    omega
theorem fr_teq {p q : Int × Int} : teq (fr p) (fr q) = decide (p = q) := by
  by_cases h : p = q
  · subst h; simp [fr, teq, teqs]
  · rw [decide_eq_false h]
    cases e : teq (fr p) (fr q) with
    | false => rfl
    | true =>
      simp only [fr, teq, teqs, Bool.and_true, Bool.and_eq_true, decide_eq_true_eq] at e
      exact absurd (Prod.ext e.1 e.2) h
theorem okTs_ints : ∀ l : List Int, okTs (l.map T.int) = true
  | [] => rfl
  | n :: l => by show (okT (.int n) && okTs (l.map T.int)) = true; rw [okTs_ints l]; rfl
theorem dpTs_ints : ∀ l : List Int, dpTs (l.map T.int) = 0
  | [] => rfl
  | n :: l => by show max (dpT (.int n)) (dpTs (l.map T.int)) = 0; rw [dpTs_ints l]; rfl
theorem lnT_ok (l : List Int) : okT (lnT l) = true ∧ dpT (lnT l) = 1 := ⟨okTs_ints l, by show dpTs _ + 1 = 1; rw [dpTs_ints l]⟩
theorem cmpbs_ints : ∀ l m : List Int, cmpbs (pdTs (l.map T.int)) (pdTs (m.map T.int)) = true
  | [], m => by cases m <;> rfl
  | _ :: _, [] => rfl
  | a :: l, b :: m => by show (cmpb (.int a) (.int b) && cmpbs (pdTs (l.map T.int)) (pdTs (m.map T.int))) = true; rw [cmpbs_ints l m]; rfl
theorem srtOk_lines {xs : List T} (h : ∀ x ∈ xs, ∃ l : List Int, x = lnT l) : SrtOk xs where
  ok := fun x hx => by
    obtain ⟨l, rfl⟩ := h x hx
    exact ⟨(lnT_ok l).1, by rw [(lnT_ok l).2]; decide⟩
  cm := fun x hx y hy => by
    obtain ⟨l, rfl⟩ := h x hx
    obtain ⟨m, rfl⟩ := h y hy
    exact cmpbs_ints l m
theorem okTs_of : ∀ {xs : List T}, (∀ x ∈ xs, okT x = true) → okTs xs = true
  | [], _ => rfl
  | x :: xs, h => by
    show (okT x && okTs xs) = true
    rw [h x List.mem_cons_self, okTs_of fun y m => h y (List.mem_cons_of_mem _ m)]; rfl
theorem dpTs_of {n : Nat} : ∀ {xs : List T}, (∀ x ∈ xs, dpT x ≤ n) → dpTs xs ≤ n
  | [], _ => Nat.zero_le _
  | x :: xs, h => by
    show max (dpT x) (dpTs xs) ≤ n
    exact Nat.max_le.mpr ⟨h x List.mem_cons_self, dpTs_of fun y m => h y (List.mem_cons_of_mem _ m)⟩
theorem eqOks_of {xs : List T} (h : ∀ x ∈ xs, okT x = true ∧ dpT x ≤ 50) : eqOks xs = true := by
  unfold eqOks
  rw [okTs_of fun x m => (h x m).1, decide_eq_true (dpTs_of fun x m => (h x m).2)]; rfl
mutual
theorem teq_refl : ∀ x : T, okT x = true → teq x x = true
  | .non, _ => rfl
  | .bl b, _ => by simp [teq]
  | .int i, _ => by simp [teq]
  | .str x, _ => by simp [teq]
  | .tup ts, h => by simp only [teq]; exact teqs_refl ts h
  | .ref _, h => by cases h
  | .ty _, h => by cases h
  | .scr _, h => by cases h
theorem teqs_refl : ∀ xs : List T, okTs xs = true → teqs xs xs = true
  | [], _ => rfl
  | x :: xs, h => by
    have h' : (okT x && okTs xs) = true := h
    rw [Bool.and_eq_true] at h'
    show (teq x x && teqs xs xs) = true
    rw [teq_refl x h'.1, teqs_refl xs h'.2]; rfl
end

/-! ### names -/
abbrev strsT (l : List Str) : T := .tup (l.map T.str)
theorem at_map {α : Type} {f : α → T} {l : List α} {i : Nat} {x : α} (h : l[i]? = some x) : (l.map f)[i]? = some (f x) := by rw [List.getElem?_map, h]; rfl
theorem ix_at {n i : Nat} (h : i < n) : ixN n (i : Int) = some i := ixN_nat h
theorem gput_none {G : Gp} {a b : Addr} {o : GO} (h : gput G a o b = none) : b ≠ a ∧ G b = none := by
  by_cases e : b = a
  · subst e; rw [gput_same] at h; cases h
  · rw [gput_ne e] at h; exact ⟨e, h⟩
theorem perm_map {α β : Type} {f : α → β} : ∀ {l : List α} {m : List β}, m.Perm (l.map f) → ∃ l' : List α, m = l'.map f ∧ l'.Perm l := by
  intro l m h
  have h' := h.symm
  clear h
  generalize e : l.map f = k at h'
  induction h' generalizing l with
  | nil => cases l with
    | nil => exact ⟨[], rfl, .refl _⟩
    | cons _ _ => cases e
  | cons x p ih =>
    cases l with
    | nil => cases e
    | cons a l =>
      simp only [List.map_cons, List.cons.injEq] at e
      obtain ⟨rfl, rfl⟩ := e
      obtain ⟨l', rfl, q⟩ := ih rfl
      exact ⟨a :: l', rfl, q.cons a⟩
  | swap x y t =>
    cases l with
    | nil => cases e
    | cons a l =>
      cases l with
      | nil => simp at e
      | cons b l =>
        simp only [List.map_cons, List.cons.injEq] at e
        obtain ⟨rfl, rfl, rfl⟩ := e
        exact ⟨b :: a :: l, rfl, .swap a b l⟩
  | trans p q ih1 ih2 =>
    obtain ⟨l1, rfl, q1⟩ := ih1 e
    obtain ⟨l2, rfl, q2⟩ := ih2 rfl
    exact ⟨l2, rfl, q2.trans q1⟩
def nameOk (x : Str) : Bool := decide (1 ≤ x.length) && decide (x.length ≤ 8) && x.cps.toList.all fun c => decide (97 ≤ c) && decide (c ≤ 122)
theorem nameOk_str {x : Str} (h : nameOk x = true) : okT (.str x) = true := by
  unfold nameOk at h
  simp only [Bool.and_eq_true, List.all_eq_true, decide_eq_true_eq] at h
  show PyData.strOk x = true
  unfold PyData.strOk
  rw [← Array.all_toList, List.all_eq_true]
  intro c hc
  have := h.2 c hc
  exact decide_eq_true (by omega)
theorem srtOk_strs {xs : List T} (h : ∀ x ∈ xs, ∃ s : Str, x = .str s ∧ nameOk s = true) : SrtOk xs where
  ok := fun x hx => by
    obtain ⟨l, rfl, hl⟩ := h x hx
    exact ⟨nameOk_str hl, by show 0 ≤ 50; decide⟩
  cm := fun x hx y hy => by
    obtain ⟨l, rfl, _⟩ := h x hx
    obtain ⟨m, rfl, _⟩ := h y hy
    rfl
def SrtS (l : List Str) : Prop := (l.map T.str).Pairwise fun x y => tlt y x = false
theorem sorted_strs {l : List Str} {ys : List T} (p : ys.Perm (l.map T.str)) (w : ys.Pairwise fun x y => tlt y x = false) : ∃ m : List Str, ys = m.map T.str ∧ m.Perm l ∧ SrtS m := by
  obtain ⟨m, rfl, q⟩ := perm_map p
  exact ⟨m, rfl, q, w⟩
theorem eqOks_nats (l : List Nat) : eqOks (l.map fun k : Nat => T.int k) = true := eqOks_of fun x hx => by
  obtain ⟨k, _, rfl⟩ := List.mem_map.mp hx
  exact ⟨rfl, by show 0 ≤ 50; decide⟩
theorem any_nats {j : Nat} : ∀ l : List Nat, ((l.map fun k : Nat => T.int k).any fun t => teq t (.int j)) = decide (j ∈ l)
  | [] => by simp
  | k :: l => by
    rw [List.map_cons, List.any_cons, any_nats l]
    by_cases c : k = j
    · subst c; simp [teq]
    · have c' : ¬ j = k := fun z => c z.symm
      have c2 : ¬ (k : Int) = (j : Int) := by omega
      simp [teq, c', c2]
theorem letters {c : Nat} (h : 97 ≤ c) (h2 : c ≤ 122) : c ∈ (("abcdefghijklmnopqrstuvwxyz" : Str).cps.toList) := by
  obtain ⟨k, rfl⟩ : ∃ k : Nat, c = 97 + k := ⟨c - 97, by omega⟩
  have : ∀ k : Fin 26, 97 + k.1 ∈ (("abcdefghijklmnopqrstuvwxyz" : Str).cps.toList) := by decide +kernel
  exact this ⟨k, by omega⟩
theorem ltCps_cd : ∀ a b : List Nat, ltCps a b = HT.lexLt (cdS a) (cdS b)
  | [], [] => by show false = HT.lexLt [0] [0]; rw [HT.lexLt_cons, if_pos rfl]; rfl
  | [], b :: t => by show true = HT.lexLt [0] (1 :: (b : Int) :: cdS t); rw [HT.lexLt_cons, if_neg (by decide)]; rfl
  | a :: r, [] => by show false = HT.lexLt (1 :: (a : Int) :: cdS r) [0]; rw [HT.lexLt_cons, if_neg (by decide)]; rfl
  | a :: r, b :: t => by
    show (decide (a < b) || (a == b && ltCps r t)) = HT.lexLt (1 :: (a : Int) :: cdS r) (1 :: (b : Int) :: cdS t)
    rw [HT.lexLt_cons, if_pos rfl, HT.lexLt_cons, ltCps_cd r t]
    by_cases c : a = b
    · subst c; simp
    · have c' : ¬ (a : Int) = b := by omega
      rw [if_neg c']
      by_cases d : a < b
      · have : (a : Int) < b := by omega
        simp [d, this]
      · have : ¬ (a : Int) < b := by omega
        simp [d, this, c]
theorem rising_srt : ∀ (r : List Str) (p : Str), risingS p r = true → (∀ x ∈ r, tlt (.str x) (.str p) = false) ∧ (r.map T.str).Pairwise fun x y => tlt y x = false
  | [], p, _ => ⟨fun x hx => (by cases hx), List.Pairwise.nil⟩
  | x :: r, p, h => by
    simp only [risingS, Bool.and_eq_true, Bool.not_eq_true'] at h
    obtain ⟨h1, h2⟩ := h
    rw [ltCps_cd] at h1
    obtain ⟨a, b⟩ := rising_srt r x h2
    refine ⟨fun y hy => ?_, ?_⟩
    · rcases List.mem_cons.mp hy with e | e
      · rw [e]; exact h1
      · exact (NtL.swo_lexL (fun x : Str => cdS x.cps.toList)).tr p x y h1 (a y e)
    · refine List.pairwise_cons.mpr ⟨fun t ht => ?_, b⟩
      obtain ⟨y, hy, rfl⟩ := List.mem_map.mp ht
      exact a y hy
theorem sorted_srt {l : List Str} (h : sortedS l = true) : SrtS l := by
  cases l with
  | nil => exact List.Pairwise.nil
  | cons x r =>
    obtain ⟨a, b⟩ := rising_srt r x h
    refine List.pairwise_cons.mpr ⟨fun t ht => ?_, b⟩
    obtain ⟨y, hy, rfl⟩ := List.mem_map.mp ht
    exact a y hy
theorem SrtS.uniq {l m k : List Str} (h : ∀ x ∈ k, nameOk x = true) (p1 : l.Perm k) (p2 : m.Perm k) (s1 : SrtS l) (s2 : SrtS m) : l = m := by
  have so : SrtOk (k.map T.str) := srtOk_strs fun x hx => by
    obtain ⟨s, hs, rfl⟩ := List.mem_map.mp hx
    exact ⟨s, rfl, h s hs⟩
  have e := so.uniq (p1.map T.str) (p2.map T.str) s1 s2
  exact List.map_inj_right (fun a b z => by cases z; rfl) |>.mp e
theorem SrtS.filter {l : List Str} (h : SrtS l) (f : Str → Bool) : SrtS (l.filter f) := by
  unfold SrtS at *
  exact List.Pairwise.sublist (List.Sublist.map T.str List.filter_sublist) h
theorem eqOks_names {l : List Str} (h : ∀ x ∈ l, nameOk x = true) : eqOks (l.map T.str) = true := eqOks_of fun x hx => by
  obtain ⟨s, hs, rfl⟩ := List.mem_map.mp hx
  exact ⟨nameOk_str (h s hs), by show 0 ≤ 50; decide⟩
theorem any_strs {x : Str} : ∀ l : List Str, ((l.map T.str).any fun t => teq t (.str x)) = decide (x ∈ l)
  | [] => by simp
  | k :: l => by
    rw [List.map_cons, List.any_cons, any_strs l]
    by_cases c : k = x
    · subst c; simp [teq]
    · have c' : ¬ x = k := fun z => c z.symm
      simp [teq, c', c]
theorem eqOk_name {x : Str} (h : nameOk x = true) : eqOk (.str x) = true := by
  have := nameOk_str h
  unfold eqOk
  rw [this]; rfl
theorem okTs_strs {l : List Str} (h : ∀ y ∈ l, nameOk y = true) : okTs (l.map T.str) = true := okTs_of fun x hx => by
  obtain ⟨s, hs, rfl⟩ := List.mem_map.mp hx
  exact nameOk_str (h s hs)
theorem dpTs_strs : ∀ l : List Str, dpTs (l.map T.str) = 0
  | [] => rfl
  | n :: l => by show max (dpT (.str n)) (dpTs (l.map T.str)) = 0; rw [dpTs_strs l]; rfl

/-! ### short lines: all of them, by going on -/
def wt (l : List Int) : Int := (l.map (· + 1)).sum
theorem wt_snoc (l : List Int) (n : Int) : wt (l ++ [n]) = wt l + n + 1 := by
  unfold wt
  rw [List.map_append, List.sum_append]
  simp
  omega
/-- a line of numbers below life, at no more castings than most -/
structure VL (life most : Int) (l : List Int) : Prop where
  b : ∀ n ∈ l, 0 ≤ n ∧ n < life
  w : wt l ≤ most
theorem wt_len {l : List Int} (h : ∀ n ∈ l, 0 ≤ n) : (l.length : Int) ≤ wt l := by
  induction l with
  | nil => simp [wt]
  | cons a r ih =>
    have := ih fun n hn => h n (List.mem_cons_of_mem _ hn)
    have h0 := h a List.mem_cons_self
    unfold wt at *
    rw [List.map_cons, List.sum_cons, List.length_cons]
    omega
theorem VL.len {life most : Int} {l : List Int} (h : VL life most l) : (l.length : Int) ≤ most := Int.le_trans (wt_len fun n hn => (h.b n hn).1) h.w
theorem VL.snoc {life most : Int} {l : List Int} {n : Int} : VL life most (l ++ [n]) ↔ VL life most l ∧ 0 ≤ n ∧ n < life ∧ wt l + n + 1 ≤ most := by
  constructor
  · intro h
    have hn := h.b n (by simp)
    have hw := h.w
    rw [wt_snoc] at hw
    exact ⟨⟨fun m hm => h.b m (List.mem_append_left _ hm), by omega⟩, hn.1, hn.2, by omega⟩
  · rintro ⟨h, h0, h1, h2⟩
    refine ⟨fun m hm => ?_, by rw [wt_snoc]; omega⟩
    rcases List.mem_append.mp hm with z | z
    · exact h.b m z
    · rw [List.mem_singleton.mp z]; exact ⟨h0, h1⟩
def rst (most : Int) (l : List Int) : Nat := (most - wt l).toNat
def load (most : Int) (S : List (List Int)) : Nat := (S.map fun l => 2 ^ rst most l - 1).sum
def mass (most : Int) (S : List (List Int)) : Nat := (S.map fun l => 2 ^ rst most l).sum
/-- what goes on from a line -/
def kids (l : List Int) (k : Nat) : List (List Int) := (List.range k).map fun n : Nat => l ++ [(n : Int)]
structure WkI (life most : Int) (F S : List (List Int)) : Prop where
  f : ∀ l ∈ F, VL life most l
  s : ∀ l ∈ S, l ∈ F
  nl : [] ∈ F
  cl : ∀ l ∈ F, l ∈ S ∨ ∀ n : Int, 0 ≤ n → n < life → wt l + n + 1 ≤ most → l ++ [n] ∈ F
  ln : F.length + load most S ≤ 2 ^ most.toNat
theorem WkI.start {life most : Int} (h : 0 ≤ most) : WkI life most [[]] [[]] := by
  refine ⟨fun l hl => ?_, fun l hl => hl, by simp, fun l hl => .inl hl, ?_⟩
  · rw [List.mem_singleton.mp hl]
    exact ⟨fun n hn => (by cases hn), by unfold wt; simpa using h⟩
  · unfold load rst wt
    have : 1 ≤ 2 ^ most.toNat := Nat.one_le_two_pow
    simp
    omega
theorem WkI.congr {life most : Int} {F F' S S' : List (List Int)} (h : WkI life most F S) (e : ∀ l, l ∈ F' ↔ l ∈ F) (n : F'.length = F.length) (es : ∀ l, l ∈ S' ↔ l ∈ S) (ls : load most S' = load most S) : WkI life most F' S' := by
  refine ⟨fun l hl => h.f l ((e l).mp hl), fun l hl => (e l).mpr (h.s l ((es l).mp hl)), (e []).mpr h.nl, fun l hl => ?_, by rw [n, ls]; exact h.ln⟩
  rcases h.cl l ((e l).mp hl) with z | z
  · exact .inl ((es l).mpr z)
  · exact .inr fun m a b c => (e _).mpr (z m a b c)
theorem pows {m : Nat} : ∀ k, k ≤ m → ((List.range k).map fun n => 2 ^ (m - 1 - n)).sum + 2 ^ (m - k) = 2 ^ m
  | 0, _ => by simp
  | k + 1, h => by
    rw [List.range_succ, List.map_append, List.sum_append]
    have ih := pows (m := m) k (by omega)
    have e : 2 ^ (m - k) = 2 ^ (m - (k + 1)) + 2 ^ (m - (k + 1)) := by
      rw [show m - k = (m - (k + 1)) + 1 by omega, Nat.pow_succ]; omega
    simp only [List.map_cons, List.map_nil, List.sum_cons, List.sum_nil, Nat.add_zero]
    rw [show m - 1 - k = m - (k + 1) by omega]
    omega
theorem rst_kid {most : Int} {l : List Int} {n : Nat} (h : wt l + n + 1 ≤ most) : rst most (l ++ [(n : Int)]) = rst most l - 1 - n := by
  unfold rst
  rw [wt_snoc]; omega
theorem kids_mass {most : Int} {l : List Int} {k : Nat} (hk : k ≤ rst most l) (hw : wt l ≤ most) : mass most (kids l k) = ((List.range k).map fun n => 2 ^ (rst most l - 1 - n)).sum := by
  unfold mass kids
  rw [List.map_map]
  congr 1
  refine List.map_congr_left fun n hn => ?_
  have := List.mem_range.mp hn
  show 2 ^ rst most (l ++ [(n : Int)]) = _
  rw [rst_kid]
  unfold rst at hk
  omega
theorem kids_lt {most : Int} {l : List Int} {k : Nat} (hk : k ≤ rst most l) (hw : wt l ≤ most) : mass most (kids l k) < 2 ^ rst most l := by
  rw [kids_mass hk hw]
  have := pows (m := rst most l) k hk
  have : 1 ≤ 2 ^ (rst most l - k) := Nat.one_le_two_pow
  omega
theorem load_mass {most : Int} : ∀ S : List (List Int), load most S + S.length = mass most S
  | [] => rfl
  | l :: S => by
    have ih := load_mass (most := most) S
    have : 1 ≤ 2 ^ rst most l := Nat.one_le_two_pow
    unfold load mass at *
    rw [List.map_cons, List.map_cons, List.sum_cons, List.sum_cons, List.length_cons]
    omega
theorem load_app {most : Int} (S U : List (List Int)) : load most (S ++ U) = load most S + load most U := by unfold load; rw [List.map_append, List.sum_append]
theorem mass_app {most : Int} (S U : List (List Int)) : mass most (S ++ U) = mass most S + mass most U := by unfold mass; rw [List.map_append, List.sum_append]
theorem mem_kids {l m : List Int} {k : Nat} : m ∈ kids l k ↔ ∃ n : Nat, n < k ∧ m = l ++ [(n : Int)] := by
  unfold kids
  rw [List.mem_map]
  constructor
  · rintro ⟨n, hn, rfl⟩; exact ⟨n, List.mem_range.mp hn, rfl⟩
  · rintro ⟨n, hn, rfl⟩; exact ⟨n, List.mem_range.mpr hn, rfl⟩
/-- a line goes, what goes on from it comes -/
theorem WkI.step {life most : Int} {F S : List (List Int)} {l : List Int} {k : Nat} (h : WkI life most F (S ++ [l])) (hk : (k : Int) = min life (most - wt l)) : WkI life most (F ++ kids l k) (S ++ kids l k) := by
  have hv := h.f l (h.s l (by simp))
  have hw := hv.w
  have hkr : k ≤ rst most l := by unfold rst; omega
  refine ⟨fun m hm => ?_, fun m hm => ?_, List.mem_append_left _ h.nl, fun m hm => ?_, ?_⟩
  · rcases List.mem_append.mp hm with z | z
    · exact h.f m z
    · obtain ⟨n, hn, rfl⟩ := mem_kids.mp z
      exact VL.snoc.mpr ⟨hv, by omega, by omega, by omega⟩
  · rcases List.mem_append.mp hm with z | z
    · exact List.mem_append_left _ (h.s m (List.mem_append_left _ z))
    · exact List.mem_append_right _ z
  · rcases List.mem_append.mp hm with z | z
    · by_cases e : m = l
      · subst e
        refine .inr fun n h0 h1 h2 => List.mem_append_right _ (mem_kids.mpr ⟨n.toNat, by omega, ?_⟩)
        rw [show ((n.toNat : Nat) : Int) = n by omega]
      · rcases h.cl m z with q | q
        · rcases List.mem_append.mp q with q | q
          · exact .inl (List.mem_append_left _ q)
          · exact absurd (List.mem_singleton.mp q) e
        · exact .inr fun n a b c => List.mem_append_left _ (q n a b c)
    · exact .inl (List.mem_append_right _ z)
  · have h1 := h.ln
    rw [load_app] at h1
    rw [load_app, List.length_append]
    have h2 := kids_lt hkr hw
    have h3 := load_mass (most := most) (kids l k)
    have h4 : (kids l k).length = k := by unfold kids; simp
    have h5 : load most [l] = 2 ^ rst most l - 1 := by unfold load; simp
    omega
/-- nothing left: all lines are found -/
theorem WkI.all {life most : Int} {F : List (List Int)} (h : WkI life most F []) (l : List Int) : l ∈ F ↔ VL life most l := by
  refine ⟨h.f l, ?_⟩
  have : ∀ (k : Nat) (l : List Int), l.length = k → VL life most l → l ∈ F := fun k => by
    induction k with
    | zero => intro l hl _; rw [List.eq_nil_of_length_eq_zero hl]; exact h.nl
    | succ k ih =>
      intro l hl hv
      have hne : l ≠ [] := fun z => by rw [z] at hl; cases hl
      rw [← List.dropLast_concat_getLast hne] at hv ⊢
      obtain ⟨h1, h2, h3, h4⟩ := VL.snoc.mp hv
      have hm := ih l.dropLast (by rw [List.length_dropLast]; omega) h1
      rcases h.cl _ hm with z | z
      · cases z
      · exact z _ h2 h3 h4
  exact this _ l rfl
theorem WkI.few {life most : Int} {F S : List (List Int)} (h : WkI life most F S) (hm : most ≤ 7) : F.length ≤ 128 := by
  have := h.ln
  have e : 2 ^ most.toNat ≤ 2 ^ 7 := Nat.pow_le_pow_right (by decide) (by omega)
  have : (2 : Nat) ^ 7 = 128 := rfl
  omega
theorem WkI.fewS {life most : Int} {F S : List (List Int)} (h : WkI life most F S) (hm : most ≤ 7) : mass most S ≤ 128 + S.length := by
  have := h.ln
  have e : 2 ^ most.toNat ≤ 2 ^ 7 := Nat.pow_le_pow_right (by decide) (by omega)
  have : (2 : Nat) ^ 7 = 128 := rfl
  have := load_mass (most := most) S
  omega
abbrev szT (r : Ru) (s : Int × Int) (l : List Int) : T := .tup [lnT l, fr (pc r s l)]
abbrev stT (r : Ru) (s : Int × Int) (most : Int) (l : List Int) : T := .tup [lnT l, fr (pc r s l), .int (most - wt l)]
theorem fr_ok (p : Int × Int) : okT (fr p) = true ∧ dpT (fr p) = 1 := ⟨rfl, rfl⟩
theorem cmp_fr (p q : Int × Int) : cmpb (pdT (fr p)) (pdT (fr q)) = true := rfl
theorem srtOk_sz {r : Ru} {s : Int × Int} (L : List (List Int)) : SrtOk (L.map (szT r s)) where
  ok := fun x hx => by
    obtain ⟨l, _, rfl⟩ := List.mem_map.mp hx
    obtain ⟨a, b⟩ := lnT_ok l
    constructor
    · show (okT (lnT l) && (okT (fr (pc r s l)) && true)) = true
      rw [a, (fr_ok _).1]; rfl
    · show max (dpT (lnT l)) (max (dpT (fr (pc r s l))) 0) + 1 ≤ 50
      rw [b, (fr_ok _).2]; decide
  cm := fun x hx y hy => by
    obtain ⟨l, _, rfl⟩ := List.mem_map.mp hx
    obtain ⟨m, _, rfl⟩ := List.mem_map.mp hy
    show (cmpb (pdT (inT l)) (pdT (inT m)) && (cmpb (pdT (fr (pc r s l))) (pdT (fr (pc r s m))) && true)) = true
    rw [cmp_inT, cmp_fr]; rfl
theorem kids_snoc (l : List Int) (j : Nat) : kids l (j + 1) = kids l j ++ [l ++ [(j : Int)]] := by
  unfold kids
  rw [List.range_succ, List.map_append]; rfl
theorem VL.ln {life most : Int} {l : List Int} (h : VL life most l) (hl : life ≤ 6) : LnOk l := fun n hn => by
  have := h.b n hn
  omega
/-! ### castings wanted by lines -/
/-- a line's beginnings, each with the number behind it -/
def prl (l : List Int) : List (List Int × Int) := l.zipIdx.map fun p => (l.take p.2, p.1)
def prP (ls : List (List Int)) : List (List Int × Int) := ls.flatMap prl
theorem prl_len (l : List Int) : (prl l).length = l.length := by unfold prl; rw [List.length_map, List.length_zipIdx]
theorem prl_at {l : List Int} {j : Nat} {n : Int} (h : l[j]? = some n) : (prl l)[j]? = some (l.take j, n) := by
  unfold prl
  rw [List.getElem?_map, List.getElem?_zipIdx, h]
  simp
theorem mem_prl {l b : List Int} {n : Int} : (b, n) ∈ prl l ↔ b.length < l.length ∧ l.take b.length = b ∧ l[b.length]? = some n := by
  constructor
  · intro h
    obtain ⟨j, hj⟩ := List.mem_iff_getElem?.mp h
    cases e : l[j]? with
    | none =>
      have : (prl l).length ≤ j := by rw [prl_len]; exact List.getElem?_eq_none_iff.mp e
      rw [List.getElem?_eq_none this] at hj; cases hj
    | some m =>
      rw [prl_at e] at hj
      cases hj
      have hl := (List.getElem?_eq_some_iff.mp e).1
      have : (l.take j).length = j := by rw [List.length_take]; omega
      rw [this]
      exact ⟨hl, rfl, e⟩
  · rintro ⟨_, h2, h3⟩
    have := prl_at h3
    rw [h2] at this
    exact List.mem_of_getElem? this
theorem mem_prP {ls : List (List Int)} {b : List Int} {n : Int} : (b, n) ∈ prP ls ↔ ∃ l ∈ ls, b.length < l.length ∧ l.take b.length = b ∧ l[b.length]? = some n := by
  unfold prP
  rw [List.mem_flatMap]
  constructor
  · rintro ⟨l, hl, h⟩; exact ⟨l, hl, mem_prl.mp h⟩
  · rintro ⟨l, hl, h⟩; exact ⟨l, hl, mem_prl.mpr h⟩
theorem prP_snoc (ls : List (List Int)) (l : List Int) : prP (ls ++ [l]) = prP ls ++ prl l := by unfold prP; simp
/-- the greatest number behind a beginning, and one more -/
def mxP (P : List (List Int × Int)) (b : List Int) : Int := P.foldl (fun m p => if p.1 = b then max m (p.2 + 1) else m) 0
theorem mxP_snoc (P : List (List Int × Int)) (b : List Int) (n : Int) (x : List Int) : mxP (P ++ [(b, n)]) x = if b = x then max (mxP P x) (n + 1) else mxP P x := by
  unfold mxP
  rw [List.foldl_append]; rfl
theorem mxP_none {b : List Int} : ∀ {P : List (List Int × Int)}, (∀ n, (b, n) ∉ P) → mxP P b = 0 := fun {P} h => by
  unfold mxP
  have : ∀ (P : List (List Int × Int)) (m : Int), (∀ n, (b, n) ∉ P) → P.foldl (fun m p => if p.1 = b then max m (p.2 + 1) else m) m = m := fun P => by
    induction P with
    | nil => intro m _; rfl
    | cons p P ih =>
      intro m h
      have hp : ¬ p.1 = b := fun e => h p.2 (by rw [← e]; exact List.mem_cons_self)
      rw [List.foldl_cons, if_neg hp]
      exact ih m fun n hn => h n (List.mem_cons_of_mem _ hn)
  exact this P 0 h
theorem mxP_eq {P : List (List Int × Int)} {b : List Int} {m : Int} (h : (b, m) ∈ P) (hm : ∀ n, (b, n) ∈ P → n ≤ m) (h0 : 0 ≤ m) : mxP P b = m + 1 := by
  have : ∀ (P : List (List Int × Int)) (a : Int), a ≤ m + 1 → (∀ n, (b, n) ∈ P → n ≤ m) → ((b, m) ∈ P ∨ a = m + 1) → P.foldl (fun m p => if p.1 = b then max m (p.2 + 1) else m) a = m + 1 := fun P => by
    induction P with
    | nil => intro a _ _ h; exact h.elim (fun z => by cases z) id
    | cons p P ih =>
      intro a ha hm hor
      rw [List.foldl_cons]
      by_cases e : p.1 = b
      · have hp : p.2 ≤ m := hm p.2 (by rw [← e]; exact List.mem_cons_self)
        rw [if_pos e]
        refine ih _ (by omega) (fun n hn => hm n (List.mem_cons_of_mem _ hn)) ?_
        rcases hor with z | z
        · rcases List.mem_cons.mp z with q | q
          · right
            rw [← q]
            show max a (m + 1) = m + 1
            omega
          · exact .inl q
        · right; omega
      · rw [if_neg e]
        refine ih _ ha (fun n hn => hm n (List.mem_cons_of_mem _ hn)) ?_
        rcases hor with z | z
        · rcases List.mem_cons.mp z with q | q
          · exact absurd (by rw [← q]) e
          · exact .inl q
        · exact .inr z
  exact this P 0 (by omega) hm (.inl h)
structure KsOf (P : List (List Int × Int)) (ks : List (List Int)) : Prop where
  nd : ks.Nodup
  mem : ∀ b, b ∈ ks ↔ ∃ n, (b, n) ∈ P
theorem KsOf.len {P : List (List Int × Int)} {ks : List (List Int)} (h : KsOf P ks) : ks.length ≤ P.length := by
  have := List.Nodup.length_le_of_subset h.nd (l₂ := P.map (·.1)) fun b hb => by
    obtain ⟨n, hn⟩ := (h.mem b).mp hb
    exact List.mem_map.mpr ⟨_, hn, rfl⟩
  rwa [List.length_map] at this
def addB (ks : List (List Int)) (b : List Int) : List (List Int) := if b ∈ ks then ks else ks ++ [b]
theorem KsOf.add {P : List (List Int × Int)} {ks : List (List Int)} (h : KsOf P ks) (b : List Int) (n : Int) : KsOf (P ++ [(b, n)]) (addB ks b) := by
  constructor
  · unfold addB
    split
    · exact h.nd
    · rename_i c
      exact List.nodup_append.mpr ⟨h.nd, by simp, fun x hx y hy e => c (by rw [← List.mem_singleton.mp hy, ← e]; exact hx)⟩
  · intro x
    have e : x ∈ addB ks b ↔ x ∈ ks ∨ x = b := by
      unfold addB
      split
      · rename_i c; exact ⟨.inl, fun z => z.elim id fun e => e ▸ c⟩
      · simp
    rw [e, h.mem x]
    constructor
    · rintro (⟨m, hm⟩ | rfl)
      · exact ⟨m, List.mem_append_left _ hm⟩
      · exact ⟨n, by simp⟩
    · rintro ⟨m, hm⟩
      rcases List.mem_append.mp hm with z | z
      · exact .inl ⟨m, z⟩
      · right
        have := List.mem_singleton.mp z
        exact (Prod.mk.inj this).1
/-- a dict keyed by lines -/
def kvG (ks : List (List Int)) (f : List Int → Int) : List (List Key × T) := ks.map fun b => (b.map Sum.inl, T.int (f b))
theorem key_inj {a b : List Int} (h : (a.map Sum.inl : List Key) = b.map Sum.inl) : a = b := (List.map_inj_right fun _ _ z => Sum.inl.inj z).mp h
theorem tk_ints : ∀ l : List Int, tkT (l.map T.int) = some (l.map Sum.inl)
  | [] => rfl
  | i :: l => by simp [tkT, keyT, tk_ints l]
theorem kvG_at {ks : List (List Int)} {f : List Int → Int} {b : List Int} (h : b ∈ ks) : valT (kvG ks f) (b.map Sum.inl) = some (.int (f b)) := by
  unfold kvG valT
  induction ks with
  | nil => cases h
  | cons a r ih =>
    by_cases e : a = b
    · subst e; simp
    · have ne : ¬ (a.map Sum.inl : List Key) = b.map Sum.inl := fun z => e (key_inj z)
      have hm : b ∈ r := by
        rcases List.mem_cons.mp h with z | z
        · exact absurd z.symm e
        · exact z
      have := ih hm
      simp only [List.map_cons, List.find?_cons, ne, decide_false] at this ⊢
      exact this
theorem kvG_none {ks : List (List Int)} {f : List Int → Int} {b : List Int} (h : b ∉ ks) : valT (kvG ks f) (b.map Sum.inl) = none := by
  unfold valT
  rw [List.find?_eq_none.mpr]
  · rfl
  · intro x hx z
    obtain ⟨y, hy, rfl⟩ := List.mem_map.mp hx
    exact h (key_inj (of_decide_eq_true z) ▸ hy)
theorem kvG_put {ks : List (List Int)} {f : List Int → Int} {b : List Int} {t : Int} : putT (kvG ks f) (b.map Sum.inl) (.int t) = kvG (addB ks b) fun x => if b = x then t else f x := by
  unfold putT addB
  by_cases c : b ∈ ks
  · have an : ((kvG ks f).any fun kv => decide (kv.1 = b.map Sum.inl)) = true := List.any_eq_true.mpr ⟨_, List.mem_map.mpr ⟨b, c, rfl⟩, decide_eq_true rfl⟩
    rw [if_pos an, if_pos c]
    unfold kvG
    rw [List.map_map]
    refine List.map_congr_left fun x _ => ?_
    by_cases hx : b = x
    · subst hx; simp
    · have : ¬ (x.map Sum.inl : List Key) = b.map Sum.inl := fun z => hx (key_inj z).symm
      simp only [Function.comp_def, if_neg this, if_neg hx]
  · have an : ¬ ((kvG ks f).any fun kv => decide (kv.1 = b.map Sum.inl)) = true := fun z => by
      rw [List.any_eq_true] at z
      obtain ⟨y, hy, z⟩ := z
      obtain ⟨x, hx, rfl⟩ := List.mem_map.mp hy
      exact c (by rw [← key_inj (of_decide_eq_true z)]; exact hx)
    rw [if_neg an, if_neg c]
    unfold kvG
    rw [List.map_append]
    congr 1
    · refine List.map_congr_left fun x hx => ?_
      have : ¬ b = x := fun z => c (z ▸ hx)
      simp only [if_neg this]
    · simp
theorem kvG_congr {ks : List (List Int)} {f g : List Int → Int} (h : ∀ b ∈ ks, f b = g b) : kvG ks f = kvG ks g := List.map_congr_left fun b hb => by rw [h b hb]
def ded : List (List Int) → List (List Int)
  | [] => []
  | x :: r => if x ∈ r then ded r else x :: ded r
theorem mem_ded {x : List Int} : ∀ {l : List (List Int)}, x ∈ ded l ↔ x ∈ l
  | [] => Iff.rfl
  | a :: r => by
    unfold ded
    split
    · rename_i c
      rw [mem_ded, List.mem_cons]
      exact ⟨.inr, fun z => z.elim (fun e => e ▸ c) id⟩
    · rw [List.mem_cons, List.mem_cons, mem_ded]
theorem ded_nd : ∀ l : List (List Int), (ded l).Nodup
  | [] => List.nodup_nil
  | a :: r => by
    unfold ded
    split
    · exact ded_nd r
    · rename_i c
      exact List.nodup_cons.mpr ⟨fun z => c (mem_ded.mp z), ded_nd r⟩
/-- the castings wanted -/
def W (ls : List (List Int)) : Int := ((ded ((prP ls).map (·.1))).map (mxP (prP ls))).sum
theorem perm_sum {l m : List Int} (h : l.Perm m) : l.sum = m.sum := by
  induction h with
  | nil => rfl
  | cons x _ ih => rw [List.sum_cons, List.sum_cons, ih]
  | swap x y l => simp only [List.sum_cons]; omega
  | trans _ _ a b => exact a.trans b
theorem W_eq {ls ks : List (List Int)} (h : KsOf (prP ls) ks) : (ks.map (mxP (prP ls))).sum = W ls := by
  unfold W
  refine perm_sum (List.Perm.map _ ((List.perm_ext_iff_of_nodup h.nd (ded_nd _)).mpr fun b => ?_))
  rw [h.mem b, mem_ded, List.mem_map]
  constructor
  · rintro ⟨n, hn⟩; exact ⟨_, hn, rfl⟩
  · rintro ⟨p, hp, rfl⟩; exact ⟨p.2, hp⟩
def fillB (s : Int × Int) (w : (Int × Int) × (Int × Int)) : Bool := decide (w.1.1 * s.2 ≤ s.1 * w.1.2) && decide (s.1 * w.2.2 ≤ w.2.1 * s.2)
abbrev wsT (w : (Int × Int) × (Int × Int)) : T := .tup [fr w.1, fr w.2]
/-- numbers of at most so many bits -/
structure Wd2 (w : (Int × Int) × (Int × Int)) : Prop where
  a : Fb 200 w.1
  b : Fb 200 w.2
theorem ln_teq (l m : List Int) : teq (lnT l) (lnT m) = decide (l = m) := by
  show teqs (l.map T.int) (m.map T.int) = _
  induction l generalizing m with
  | nil => cases m with
    | nil => rfl
    | cons b m => rfl
  | cons a l ih => cases m with
    | nil => rfl
    | cons b m =>
      show (teq (.int a) (.int b) && teqs (l.map T.int) (m.map T.int)) = _
      rw [ih]
      by_cases c : a = b
      · subst c
        by_cases d : l = m
        · subst d; simp [teq]
        · simp [teq, d]
      · simp [teq, c]
theorem lnT_eqOk (l : List Int) : eqOk (lnT l) = true := by
  obtain ⟨a, b⟩ := lnT_ok l
  unfold eqOk
  rw [a, b]; rfl
/-! ### rows of lines, ranked -/
abbrev rowT (row : List (List Int)) : T := .tup (row.map lnT)
abbrev rkT (w : Int) (row : List (List Int)) : T := .tup [.int w, rowT row]
theorem rowT_ok (row : List (List Int)) : okT (rowT row) = true ∧ dpT (rowT row) ≤ 10 := by
  constructor
  · refine okTs_of (xs := row.map lnT) fun x hx => ?_
    obtain ⟨l, _, rfl⟩ := List.mem_map.mp hx
    exact (lnT_ok l).1
  · show dpTs (row.map lnT) + 1 ≤ 10
    have : dpTs (row.map lnT) ≤ 1 := dpTs_of fun x hx => by
      obtain ⟨l, _, rfl⟩ := List.mem_map.mp hx
      rw [(lnT_ok l).2]; exact Nat.le_refl _
    omega
theorem pdTs_map {α : Type} (f : α → T) : ∀ l : List α, pdTs (l.map f) = l.map fun x => pdT (f x)
  | [] => rfl
  | x :: l => by
    show pdT (f x) :: pdTs (l.map f) = _
    rw [pdTs_map f l]; rfl
theorem cmp_rows : ∀ a b : List (List Int), cmpbs (a.map fun l => pdT (lnT l)) (b.map fun l => pdT (lnT l)) = true
  | [], b => by cases b <;> rfl
  | x :: a, [] => rfl
  | x :: a, y :: b => by
    show (cmpb (pdT (inT x)) (pdT (inT y)) && cmpbs (a.map fun l => pdT (lnT l)) (b.map fun l => pdT (lnT l))) = true
    rw [cmp_inT, cmp_rows a b]; rfl
theorem rk_ok (w : Int) (row : List (List Int)) : okT (rkT w row) = true ∧ dpT (rkT w row) ≤ 50 := by
  obtain ⟨a, b⟩ := rowT_ok row
  constructor
  · show (true && (okT (rowT row) && true)) = true
    rw [a]; rfl
  · show max 0 (max (dpT (rowT row)) 0) + 1 ≤ 50
    omega
theorem rk_cmp (w v : Int) (a b : List (List Int)) : cmpb (pdT (rkT w a)) (pdT (rkT v b)) = true := by
  show (true && (cmpbs (pdTs (a.map lnT)) (pdTs (b.map lnT)) && true)) = true
  rw [pdTs_map, pdTs_map, cmp_rows]; rfl
theorem rk_eqOk (w : Int) (row : List (List Int)) : eqOk (rkT w row) = true := by
  obtain ⟨a, b⟩ := rk_ok w row
  unfold eqOk
  rw [a, decide_eq_true b]; rfl
theorem rk_lt {w v : Int} {a b : List (List Int)} (h : w ≠ v) : tlt (rkT w a) (rkT v b) = decide (w < v) := by
  show HT.lexLt (1 :: w :: _) (1 :: v :: _) = _
  rw [HT.lexLt_cons, if_pos rfl, HT.lexLt_cons, if_neg h]
theorem lnT_inj {l m : List Int} (h : lnT l = lnT m) : l = m := (List.map_inj_right fun _ _ z => T.int.inj z).mp (T.tup.inj h)
theorem rk_inj {w v : Int} {a b : List (List Int)} (h1 : tlt (rkT w a) (rkT v b) = false) (h2 : tlt (rkT v b) (rkT w a) = false) : rkT w a = rkT v b :=
  pdT_inj _ _ (rk_ok w a).1 (rk_ok v b).1 (cd_inj (rk_cmp w v a b) (lex_tot _ _ h1 h2))
abbrev Wish := (Int × Int) × (Int × Int)
/-- rows of lines, one for each of the first wishes -/
structure RowI (r : Ru) (s : Int × Int) (ws : List Wish) (most : Int) (i : Nat) (row : List (List Int)) : Prop where
  len : row.length = i
  ok : ∀ (j : Nat) (l : List Int) (w : Wish), row[j]? = some l → ws[j]? = some w → VL r.2.2 most l ∧ fillB (pc r s l) w = true
def IsMin (r : Ru) (s : Int × Int) (ws : List Wish) (most : Int) (t : T) : Prop :=
  (t = .non ∧ ∀ row, RowI r s ws most ws.length row → most < W row) ∨
  ∃ row, RowI r s ws most ws.length row ∧ t = rkT (W row) row ∧ W row ≤ most ∧ ∀ row', RowI r s ws most ws.length row' → tlt (rkT (W row') row') (rkT (W row) row) = false
theorem IsMin.uniq {r : Ru} {s : Int × Int} {ws : List Wish} {most : Int} {t u : T} (h : IsMin r s ws most t) (k : IsMin r s ws most u) : t = u := by
  rcases h with ⟨rfl, h⟩ | ⟨a, ha, rfl, h1, h2⟩
  · rcases k with ⟨rfl, _⟩ | ⟨b, hb, rfl, k1, _⟩
    · rfl
    · exact absurd (h b hb) (by omega)
  · rcases k with ⟨rfl, k⟩ | ⟨b, hb, rfl, k1, k2⟩
    · exact absurd (k a ha) (by omega)
    · exact rk_inj (k2 a ha) (h2 b hb)
theorem IsMin.eqOk {r : Ru} {s : Int × Int} {ws : List Wish} {most : Int} {t : T} (h : IsMin r s ws most t) : t = .non ∨ ∃ w row, t = rkT w row := by
  rcases h with ⟨rfl, _⟩ | ⟨a, _, rfl, _⟩
  · exact .inl rfl
  · exact .inr ⟨_, _, rfl⟩
theorem RowI.snoc {r : Ru} {s : Int × Int} {ws : List Wish} {most : Int} {i : Nat} {row : List (List Int)} {l : List Int} {w : Wish} (hw : ws[i]? = some w) : RowI r s ws most (i + 1) (row ++ [l]) ↔ RowI r s ws most i row ∧ VL r.2.2 most l ∧ fillB (pc r s l) w = true := by
  constructor
  · intro h
    have hl : row.length = i := by have := h.len; rw [List.length_append] at this; simpa using this
    refine ⟨⟨hl, fun j m v hj hv => h.ok j m v ?_ hv⟩, h.ok i l w ?_ hw⟩
    · rw [List.getElem?_append_left (List.getElem?_eq_some_iff.mp hj).1]; exact hj
    · rw [← hl]; simp
  · rintro ⟨h, h2, h3⟩
    refine ⟨by rw [List.length_append, h.len]; rfl, fun j m v hj hv => ?_⟩
    by_cases c : j < row.length
    · rw [List.getElem?_append_left c] at hj
      exact h.ok j m v hj hv
    · have hj2 := (List.getElem?_eq_some_iff.mp hj).1
      rw [List.length_append, List.length_singleton] at hj2
      have e : j = row.length := by omega
      subst e
      simp at hj
      subst hj
      rw [h.len, hw] at hv
      cases hv
      exact ⟨h2, h3⟩
theorem RowI.nil {r : Ru} {s : Int × Int} {ws : List Wish} {most : Int} {row : List (List Int)} : RowI r s ws most 0 row ↔ row = [] := by
  constructor
  · intro h; exact List.eq_nil_of_length_eq_zero h.len
  · rintro rfl; exact ⟨rfl, fun j m v hj _ => by simp at hj⟩
/-- the least of all ranks, with one more for none, gives the least row -/
theorem IsMin.of_least {r : Ru} {s : Int × Int} {ws : List Wish} {most : Int} {R : List (List (List Int))} (hR : ∀ row, row ∈ R ↔ RowI r s ws most ws.length row) {y : T} (hy : y ∈ R.map (fun row => rkT (W row) row) ++ [rkT (most + 1) []])
    (hm : ∀ z ∈ R.map (fun row => rkT (W row) row) ++ [rkT (most + 1) []], tlt z y = false) : ∃ w row, y = rkT w row ∧ (w ≤ most → IsMin r s ws most y) ∧ (most < w → IsMin r s ws most .non) := by
  have mR : ∀ row, RowI r s ws most ws.length row → tlt (rkT (W row) row) y = false := fun row h => hm _ (List.mem_append_left _ (List.mem_map.mpr ⟨row, (hR row).mpr h, rfl⟩))
  rcases List.mem_append.mp hy with h | h
  · obtain ⟨row, hrow, rfl⟩ := List.mem_map.mp h
    refine ⟨W row, row, rfl, fun c => .inr ⟨row, (hR row).mp hrow, rfl, c, mR⟩, fun c => .inl ⟨rfl, fun row' h' => ?_⟩⟩
    have := mR row' h'
    by_cases e : W row' = W row
    · omega
    · rw [rk_lt e] at this
      have := of_decide_eq_false this
      omega
  · rw [List.mem_singleton] at h
    subst h
    refine ⟨most + 1, [], rfl, fun c => by omega, fun _ => .inl ⟨rfl, fun row' h' => ?_⟩⟩
    have := mR row' h'
    by_cases e : W row' = most + 1
    · omega
    · rw [rk_lt e] at this
      have := of_decide_eq_false this
      omega
/-- the least of the rows gone through, of those at most so dear -/
def BestOf (most : Int) (P : List (List (List Int))) (t : T) : Prop :=
  (t = .non ∧ ∀ row ∈ P, most < W row) ∨ ∃ row ∈ P, t = rkT (W row) row ∧ W row ≤ most ∧ ∀ row' ∈ P, tlt (rkT (W row') row') (rkT (W row) row) = false
theorem rk_dear {most : Int} {a b : List (List Int)} (h : W a ≤ most) (k : most < W b) : tlt (rkT (W b) b) (rkT (W a) a) = false := by
  rw [rk_lt (by omega)]
  exact decide_eq_false (by omega)
theorem BestOf.dear {most : Int} {P : List (List (List Int))} {t : T} {row : List (List Int)} (h : BestOf most P t) (hr : most < W row) : BestOf most (P ++ [row]) t := by
  rcases h with ⟨rfl, h⟩ | ⟨a, ha, rfl, h1, h2⟩
  · refine .inl ⟨rfl, fun x hx => ?_⟩
    rcases List.mem_append.mp hx with z | z
    · exact h x z
    · rw [List.mem_singleton.mp z]; exact hr
  · refine .inr ⟨a, List.mem_append_left _ ha, rfl, h1, fun x hx => ?_⟩
    rcases List.mem_append.mp hx with z | z
    · exact h2 x z
    · rw [List.mem_singleton.mp z]; exact rk_dear h1 hr
theorem BestOf.first {most : Int} {P : List (List (List Int))} {row : List (List Int)} (h : BestOf most P .non) (hr : W row ≤ most) : BestOf most (P ++ [row]) (rkT (W row) row) := by
  rcases h with ⟨_, h⟩ | ⟨a, ha, e, _⟩
  · refine .inr ⟨row, by simp, rfl, hr, fun x hx => ?_⟩
    rcases List.mem_append.mp hx with z | z
    · exact rk_dear hr (h x z)
    · rw [List.mem_singleton.mp z]; exact (NtL.swo_lexL fun t : T => cdT t).refl _
  · cases e
theorem BestOf.less {most : Int} {P : List (List (List Int))} {t : T} {row : List (List Int)} (h : BestOf most P t) (hn : t ≠ .non) (hr : W row ≤ most) (hl : tlt (rkT (W row) row) t = true) : BestOf most (P ++ [row]) (rkT (W row) row) := by
  rcases h with ⟨rfl, h⟩ | ⟨a, ha, rfl, h1, h2⟩
  · exact absurd rfl hn
  · have O := NtL.swo_lexL fun t : T => cdT t
    refine .inr ⟨row, by simp, rfl, hr, fun x hx => ?_⟩
    rcases List.mem_append.mp hx with z | z
    · exact O.tr _ _ _ (O.asym _ _ hl) (h2 x z)
    · rw [List.mem_singleton.mp z]; exact O.refl _
theorem BestOf.keep {most : Int} {P : List (List (List Int))} {t : T} {row : List (List Int)} (h : BestOf most P t) (hn : t ≠ .non) (hl : tlt (rkT (W row) row) t = false) : BestOf most (P ++ [row]) t := by
  rcases h with ⟨rfl, h⟩ | ⟨a, ha, rfl, h1, h2⟩
  · exact absurd rfl hn
  · refine .inr ⟨a, List.mem_append_left _ ha, rfl, h1, fun x hx => ?_⟩
    rcases List.mem_append.mp hx with z | z
    · exact h2 x z
    · rw [List.mem_singleton.mp z]; exact hl
theorem BestOf.min {r : Ru} {s : Int × Int} {ws : List Wish} {most : Int} {P : List (List (List Int))} {t : T} (h : BestOf most P t) (hP : ∀ row, row ∈ P ↔ RowI r s ws most ws.length row) : IsMin r s ws most t := by
  rcases h with ⟨rfl, h⟩ | ⟨a, ha, rfl, h1, h2⟩
  · exact .inl ⟨rfl, fun row hr => h row ((hP row).mpr hr)⟩
  · exact .inr ⟨a, (hP a).mp ha, rfl, h1, fun row hr => h2 row ((hP row).mpr hr)⟩
theorem BestOf.tup {most : Int} {P : List (List (List Int))} {t : T} (h : BestOf most P t) : t = .non ∨ ∃ w row, t = rkT w row := by
  rcases h with ⟨rfl, _⟩ | ⟨a, _, rfl, _⟩
  · exact .inl rfl
  · exact .inr ⟨_, _, rfl⟩

--USE data isl lines names few LW30

def sp_lowest : QSp := fun ts G Q _ => match ts with
  | [.int t, .int b] => (0 ≤ t ∧ 0 < b ∧ b.natAbs < 2 ^ 8999) ∧ Q (fr (low t b)) G
  | _ => False
def sp_casting : QSp := fun ts G Q _ => ∃ (r : Ru) (s : Int × Int) (n : Int) (k : Nat), ts = [ruT r, fr s, .int n] ∧ RuOk r ∧ Fb k s ∧ k ≤ 8000 ∧ 0 ≤ n ∧ n ≤ 5 ∧ Q (fr (cast r s n)) G
def sp_short_lines : QSp := fun ts G Q _ => ∃ (r : Ru) (s : Int × Int) (most : Int), ts = [ruT r, fr s, .int most] ∧ RuOk r ∧ SzOk s ∧ 0 ≤ most ∧ most ≤ 7 ∧
  ∀ (L : List (List Int)) p G', (∀ l, l ∈ L ↔ VL r.2.2 most l) → L.length ≤ 128 → Sub G G' → G' p = some (.lst (L.map (szT r s))) → Q (.ref p) G'
def sp_wanted : QSp := fun ts G Q _ => ∃ ls : List (List Int), ts = [.tup (ls.map lnT)] ∧ ls.length ≤ 100 ∧ (∀ l ∈ ls, l.length ≤ 100) ∧ ∀ G', Sub G G' → Q (.int (W ls)) G'
def sp_fills : QSp := fun ts G Q _ => ∃ (s : Int × Int) (w : (Int × Int) × (Int × Int)), ts = [fr s, wsT w] ∧ Fb 200 s ∧ Wd2 w ∧ Q (.bl (fillB s w)) G
def sp_fewest : QSp := fun ts G Q _ => ∃ (r : Ru) (s : Int × Int) (ws : List Wish) (most : Int), ts = [ruT r, fr s, .tup (ws.map wsT), .int most] ∧ RuOk r ∧ SzOk s ∧ 0 ≤ most ∧ most ≤ 7 ∧ ws.length ≤ 2 ∧ (∀ w ∈ ws, Wd2 w) ∧ ∀ t G', IsMin r s ws most t → Sub G G' → Q t G'
def sp_law_bag : QSp := fun ts G Q _ => match ts with
  | [.scr ns, .int k] => (0 ≤ k ∧ k ≤ 100 ∧ ns.length ≤ 63) ∧ ∀ p c1 c2, G p = none → BOk c1 c2 → Q (.ref p) (gput G p (bagO c1 c2))
  | _ => False
def sp_law_take : QSp := fun ts G Q _ => match ts with
  | [.ref b, .int m] => (Bag G b ∧ 0 < m ∧ m ≤ 2000000) ∧ ∀ r G', 0 ≤ r → r < m → BagTo b G G' → Q (.int r) G'
  | _ => False
def sp_law_lowest : QSp := fun ts G Q _ => match ts with
  | [.int t, .int b] => (0 ≤ t ∧ 0 < b ∧ b.natAbs < 2 ^ 8999) ∧ Q (fr (low t b)) G
  | _ => False
def sp_law_rules : QSp := fun ts G Q _ => match ts with
  | [.ref b] => Bag G b ∧ ∀ r G', RuOk r → BagTo b G G' → Q (ruT r) G'
  | _ => False
def sp_law_size : QSp := fun ts G Q _ => match ts with
  | [.ref b] => Bag G b ∧ ∀ s G', SzOk s → BagTo b G G' → Q (fr s) G'
  | _ => False
theorem pick3 {x a b c : Int} (h0 : 0 ≤ x) (h1 : x < 3) : ∃ m : Int, (m = a ∨ m = b ∨ m = c) ∧ ∃ n, ixN 3 x = some n ∧ ([.int a, .int b, .int c] : List T)[n]? = some (.int m) := by
  obtain rfl | rfl | rfl : x = 0 ∨ x = 1 ∨ x = 2 := by omega
  · exact ⟨a, .inl rfl, 0, rfl, rfl⟩
  · exact ⟨b, .inr (.inl rfl), 1, rfl, rfl⟩
  · exact ⟨c, .inr (.inr rfl), 2, rfl, rfl⟩
def sp_law_line : QSp := fun ts G Q _ => ∃ (b : Addr) (r : Ru) (most : Int), ts = [.ref b, ruT r, .int most] ∧ (Bag G b ∧ 1 ≤ r.2.2 ∧ r.2.2 ≤ 6 ∧ 0 ≤ most ∧ most ≤ 1000) ∧
  ∀ (l : List Int) G', (∀ n ∈ l, 0 ≤ n ∧ n < r.2.2) → (l.length : Int) ≤ most → BagTo b G G' → Q (lnT l) G'
def sp_law_sized : QSp := fun ts G Q _ => ∃ (r : Ru) (s : Int × Int) (line : List Int), ts = [ruT r, fr s, lnT line] ∧ RuOk r ∧ SzOk s ∧ line.length ≤ 40 ∧ (∀ n ∈ line, 0 ≤ n ∧ n ≤ 5) ∧ Q (fr (pc r s line)) G
/-- the same value: crosswise -/
def Xs (p q : Int × Int) : Prop := p.1 * q.2 = q.1 * p.2
theorem pow_b {x : Int} (h0 : 0 ≤ x) (h1 : x ≤ 20) : ∀ n : Nat, 0 ≤ x ^ n ∧ (x ^ n).natAbs < 2 ^ (5 * n + 1)
  | 0 => by simp
  | n + 1 => by
    obtain ⟨a, b⟩ := pow_b h0 h1 n
    rw [Int.pow_succ]
    refine ⟨Int.mul_nonneg a h0, ?_⟩
    have : x.natAbs < 2 ^ 5 := by omega
    have z := mul_lt_pow b this
    rw [show 5 * (n + 1) + 1 = 5 * n + 1 + 5 by omega]
    exact z
theorem pow_p {x : Int} (h : 0 < x) : ∀ n : Nat, 0 < x ^ n
  | 0 => by simp
  | n + 1 => by rw [Int.pow_succ]; exact Int.mul_pos (pow_p h n) h
theorem cast_cross {r : Ru} {v : Int × Int} {n : Int} : (cast r v n).1 * (v.2 * r.2.1.2 * r.1.2) = ((v.1 * r.2.1.2 + n * r.2.1.1 * v.2) * r.1.1) * (cast r v n).2 := low_cross
/-- one more number: t, b the sum so far, v the piece so far, m numbers to come behind this one -/
theorem sum_step {r : Ru} {v : Int × Int} {t b n : Int} {m : Nat} (hv : 0 < v.2) (hw : 0 < r.2.1.2) (hs : 0 < r.1.2) (h : t * (v.2 * r.1.2 ^ (m + 1)) = (v.1 * r.1.1 ^ (m + 1)) * b) :
    (t * (r.2.1.2 * r.1.2 ^ (m + 1)) + (n * r.2.1.1 * r.1.1 ^ (m + 1)) * b) * ((cast r v n).2 * r.1.2 ^ m) = ((cast r v n).1 * r.1.1 ^ m) * (b * (r.2.1.2 * r.1.2 ^ (m + 1))) := by
  have hc := cast_cross (r := r) (v := v) (n := n)
  rw [Int.pow_succ, Int.pow_succ] at *
  generalize (cast r v n).1 = x at *
  generalize (cast r v n).2 = y at *
  generalize r.1.2 ^ m = q at *
  generalize r.1.1 ^ m = p at *
  generalize r.1.2 = h1 at *
  generalize r.1.1 = h0 at *
  generalize r.2.1.1 = w0 at *
  generalize r.2.1.2 = w1 at *
  generalize v.1 = v1 at *
  generalize v.2 = v2 at *
  have hd : v2 * w1 * h1 ≠ 0 := by
    have := Int.mul_pos (Int.mul_pos hv hw) hs
    omega
  refine Int.eq_of_mul_eq_mul_left hd ?_
  grind
def sp_law_less : QSp := fun ts G Q _ => ∃ (p q : Int × Int) (k : Nat), ts = [fr p, fr q] ∧ p.1.natAbs < 2 ^ k ∧ p.2.natAbs < 2 ^ k ∧ q.1.natAbs < 2 ^ k ∧ q.2.natAbs < 2 ^ k ∧ k ≤ 400000 ∧ Q (.bl (decide (p.1 * q.2 < q.1 * p.2))) G
abbrev spT (most : Int) (l : List Int) : T := .tup [lnT l, .int (most - wt l)]
def sp_law_few_lines : QSp := fun ts G Q _ => ∃ (life most : Int), ts = [.int life, .int most] ∧ 1 ≤ life ∧ life ≤ 6 ∧ 0 ≤ most ∧ most ≤ 7 ∧
  ∀ (L : List (List Int)) p G', (∀ l, l ∈ L ↔ VL life most l) → L.length ≤ 128 → Sub G G' → G' p = some (.lst (L.map lnT)) → Q (.ref p) G'
def sp_law_wanted : QSp := fun ts G Q _ => ∃ ls : List (List Int), ts = [.tup (ls.map lnT)] ∧ ls.length ≤ 2 ∧ (∀ l ∈ ls, l.length ≤ 7 ∧ ∀ n ∈ l, 0 ≤ n) ∧ ∀ G', Sub G G' → Q (.int (W ls)) G'
def sp_law_fills : QSp := fun ts G Q _ => ∃ (s : Int × Int) (w : (Int × Int) × (Int × Int)), ts = [fr s, wsT w] ∧ Fb 200 s ∧ Wd2 w ∧ Q (.bl (fillB s w)) G
def sp_law_wish : QSp := fun ts G Q _ => ∃ (b : Addr) (r : Ru) (s : Int × Int), ts = [.ref b, ruT r, fr s] ∧ RuOk r ∧ SzOk s ∧ Bag G b ∧ ∀ w G', Wd2 w → BT b G G' → Q (wsT w) G'
def sp_law_fewest : QSp := fun ts G Q _ => ∃ (r : Ru) (s : Int × Int) (ws : List Wish) (most : Int), ts = [ruT r, fr s, .tup (ws.map wsT), .int most] ∧ RuOk r ∧ SzOk s ∧ 0 ≤ most ∧ most ≤ 7 ∧ 1 ≤ ws.length ∧ ws.length ≤ 2 ∧ (∀ w ∈ ws, Wd2 w) ∧ ∀ t G', IsMin r s ws most t → Sub G G' → Q t G'
abbrev s_lowest : Stmt := topS 1
abbrev N_lowest : List Str := ["top", "bottom", "one", "other"]
theorem sc_lowest : FnScope N_lowest ["top", "bottom"] (defScope s_lowest) := ⟨rfl, rfl, rfl, by decide +kernel, rfl, by decide +kernel, by decide +kernel⟩
set_option maxHeartbeats 4000000 in
theorem ok_lowest {P : Program} {w : World} {K : PySem.W.Frag} {mg : Str → Option Value} {base : Heap} (F : FunAt K mg "lowest" "lowest" s_lowest ["top", "bottom"]) (TX : Txt K mg)  :
    DefOk P w K mg base 1 "lowest" ["top", "bottom"] sp_lowest := by
  refine okd F sc_lowest (fun ts G Q E h => ?len) (fun f cdv A outer s H E hr => ss_cons (s_par (i := 2) (j := 3) rfl sc_lowest.nd rfl rfl  (by decide)  rfl rfl  (a_cons (e_var 0) (a_cons (e_var 1) a_nil)) rfl)
    (ss_cons (s_while PassesOwn.never (t_cmp o_gt (e_var 3) (e_int) (nomark _)) (ss_one (s_par (i := 2) (j := 3) rfl sc_lowest.nd rfl rfl  (by decide)  rfl rfl  (a_cons (e_var 3) (a_cons (e_op o_mod (e_var 2) (e_var 3)) a_nil)) rfl)))
    (ss_one (s_ret (e_tup (a_cons (e_op o_div (e_var 0) (e_var 2)) (a_cons (e_op o_div (e_var 1) (e_var 2)) a_nil)))))))
    (fun ts G Q E h => ?run)
  case len => unfold sp_lowest at h; split at h <;> first | rfl | exact h.elim
  case run =>
    unfold sp_lowest at h
    split at h
    · rename_i t b
      obtain ⟨⟨h0, h1, h2⟩, hQ⟩ := h
      refine ⟨fun m ρ G' => ∃ x y : Int, ρ = [some (.int t), some (.int b), some (.int x), some (.int y)] ∧ G' = G ∧ 0 ≤ x ∧ 0 ≤ y ∧ Int.gcd x y = Int.gcd t b ∧ m = y.toNat, ⟨_, t, b, rfl, rfl, h0, by omega, rfl, rfl⟩, ?_⟩
      rintro m ρ G' ⟨x, y, rfl, rfl, hx, hy, hg, rfl⟩
      refine ⟨fun c => ?_, fun c => ?_⟩
      · have hy0 : 0 < y := of_decide_eq_true c
        have hm := Int.emod_lt_of_pos x hy0
        have hm0 := Int.emod_nonneg x (show y ≠ 0 by omega)
        exact ⟨hy0, Wk.of ⟨(x % y).toNat, by omega, y, x % y, rfl, rfl, by omega, hm0, by rw [gcd_step hx hy0]; exact hg, rfl⟩⟩
      · have hy0 : ¬ 0 < y := of_decide_eq_false c
        have e : y = 0 := by omega
        subst e
        have hxe : x = (Int.gcd t b : Int) := by
          rw [← hg, Int.gcd_zero_right]
          omega
        have hp : 0 < Int.gcd t b := Int.gcd_pos_of_ne_zero_right t (by omega)
        have hle : Int.gcd t b ≤ b.natAbs := Nat.le_of_dvd (by omega) (Int.gcd_dvd_natAbs_right t b)
        have ok : DivOk x := divOk 8999 (by omega) (by rw [hxe]; omega) (by omega)
        refine ⟨ok, ok, ?_⟩
        rw [hxe]
        exact Ret.of hQ
    · exact h.elim
abbrev s_casting : Stmt := topS 2
abbrev N_casting : List Str := ["rules", "size", "number", "shrink", "wear", "life", "top"]
theorem sc_casting : FnScope N_casting ["rules", "size", "number"] (defScope s_casting) := ⟨rfl, rfl, rfl, by decide +kernel, rfl, by decide +kernel, by decide +kernel⟩
set_option maxHeartbeats 4000000 in
theorem ok_casting {P : Program} {w : World} {K : PySem.W.Frag} {mg : Str → Option Value} {base : Heap} (F : FunAt K mg "casting" "casting" s_casting ["rules", "size", "number"]) (TX : Txt K mg) (D_lowest : DefOk P w K mg base 1 "lowest" ["top", "bottom"] sp_lowest) :
    DefOk P w K mg base 2 "casting" ["rules", "size", "number"] sp_casting := by
  refine okd F sc_casting (fun ts G Q E h => ?len) (fun f cdv A outer s H E hr => ss_cons (s_asg (own := [3, 4, 5]) (e_var 0) (g_tup (n := 3) rfl (gs_cons (g_name (i := 3) sc_casting.nd rfl (by first | exact Or.inl rfl | exact Or.inr rfl)) (gs_cons (g_name (i := 4) sc_casting.nd rfl (by first | exact Or.inl rfl | exact Or.inr rfl)) (gs_cons (g_name (i := 5) sc_casting.nd rfl (by first | exact Or.inl rfl | exact Or.inr rfl)) (gs_nil))))))
    (ss_cons (s_set (i := 6) sc_casting.nd rfl (by first | exact Or.inl rfl | exact Or.inr rfl) (e_op o_mul (e_op o_add (e_op o_mul (e_ix i_ixC (e_var 1) (e_int) (fun _ _ => rfl)) (e_ix i_ixC (e_var 4) (e_int) (fun _ _ => rfl))) (e_op o_mul (e_op o_mul (e_var 2) (e_ix i_ixC (e_var 4) (e_int) (fun _ _ => rfl))) (e_ix i_ixC (e_var 1) (e_int) (fun _ _ => rfl)))) (e_ix i_ixC (e_var 3) (e_int) (fun _ _ => rfl))))
    (ss_one (s_ret (e_callD D_lowest hr (by rfl) (a_cons (e_var 6) (a_cons (e_op o_mul (e_op o_mul (e_ix i_ixC (e_var 1) (e_int) (fun _ _ => rfl)) (e_ix i_ixC (e_var 4) (e_int) (fun _ _ => rfl))) (e_ix i_ixC (e_var 3) (e_int) (fun _ _ => rfl))) a_nil)))))))
    (fun ts G Q E h => ?run)
  case len => obtain ⟨r, s, n, k, rfl, _⟩ := h; rfl
  case run =>
    obtain ⟨r, s, n, k, rfl, hr, hs, hk, h0, h1, hQ⟩ := h
    have c := castB hr hs h0 h1
    have w2 : r.2.1.2.natAbs < 2 ^ 5 := by have := hr.w2; have := hr.w3; have : (2 : Nat) ^ 5 = 32 := rfl; omega
    have w1 : r.2.1.1.natAbs < 2 ^ 10 := by have := hr.w0; have := hr.w1; have : (2 : Nat) ^ 10 = 1024 := rfl; omega
    have s1 : r.1.1.natAbs < 2 ^ 5 := by have := hr.s0; have := hr.s1; have := hr.s2; have : (2 : Nat) ^ 5 = 32 := rfl; omega
    have s2 : r.1.2.natAbs < 2 ^ 5 := by have := hr.s0; have := hr.s1; have := hr.s2; have : (2 : Nat) ^ 5 = 32 := rfl; omega
    have n1 : n.natAbs < 2 ^ 3 := by have : (2 : Nat) ^ 3 = 8 := rfl; omega
    refine ⟨mulOk _ _ hs.t1 w2 (by omega), mulOk _ _ n1 w1 (by omega), mulOk _ _ c.a2 hs.b1 (by omega), mulOk _ _ c.a4 s1 (by omega), ?_⟩
    refine ⟨mulOk _ _ hs.b1 w2 (by omega), mulOk _ _ c.b1 s2 (by omega), ?_⟩
    refine ⟨⟨c.t0, c.b0, Nat.lt_of_lt_of_le c.b2 (Nat.pow_le_pow_right (by decide) (by omega))⟩, ?_⟩
    exact Ret.of hQ
abbrev s_short_lines : Stmt := topS 4
abbrev N_short_lines : List Str := ["rules", "size", "most", "found", "left", "line", "one", "rest", "number", "there"]
theorem sc_short_lines : FnScope N_short_lines ["rules", "size", "most"] (defScope s_short_lines) := ⟨rfl, rfl, rfl, by decide +kernel, rfl, by decide +kernel, by decide +kernel⟩
set_option maxHeartbeats 4000000 in
theorem ok_short_lines {P : Program} {w : World} {K : PySem.W.Frag} {mg : Str → Option Value} {base : Heap} (F : FunAt K mg "short_lines" "short_lines" s_short_lines ["rules", "size", "most"]) (TX : Txt K mg) (D_casting : DefOk P w K mg base 2 "casting" ["rules", "size", "number"] sp_casting) :
    DefOk P w K mg base 3 "short_lines" ["rules", "size", "most"] sp_short_lines := by
  refine okd F sc_short_lines (fun ts G Q E h => ?len) (fun f cdv A outer s H E hr => ss_cons (s_set (i := 3) sc_short_lines.nd rfl (by first | exact Or.inl rfl | exact Or.inr rfl) (e_lst (a_cons (e_tup (a_cons (e_tup (a_nil)) (a_cons (e_var 1) a_nil))) a_nil)))
    (ss_cons (s_set (i := 4) sc_short_lines.nd rfl (by first | exact Or.inl rfl | exact Or.inr rfl) (e_lst (a_cons (e_tup (a_cons (e_tup (a_nil)) (a_cons (e_var 1) (a_cons (e_var 2) a_nil)))) a_nil)))
    (ss_cons (s_while PassesOwn.never (t_cmp (o_neL hr.units) (e_var 4) (e_lst (a_nil)) (nomark _)) (ss_cons (s_asg (own := [5, 6, 7]) (e_bm0 PySem.F.plainAttrs_list PySem.F.slot_list_pop PySem.F.type_list_pop m_pop (e_var 4)) (g_tup (n := 3) rfl (gs_cons (g_name (i := 5) sc_short_lines.nd rfl (by first | exact Or.inl rfl | exact Or.inr rfl)) (gs_cons (g_name (i := 6) sc_short_lines.nd rfl (by first | exact Or.inl rfl | exact Or.inr rfl)) (gs_cons (g_name (i := 7) sc_short_lines.nd rfl (by first | exact Or.inl rfl | exact Or.inr rfl)) (gs_nil))))))
    (ss_one (s_for (own := [8]) PassesOwn.never rfl (i_rng1 (by rfl) TX.n_range (a_cons (e_callB (b_min2 rfl) (by rfl) TX.n_min (by decide +kernel) (a_cons (e_ix i_ixC (e_var 0) (e_int) (fun _ _ => rfl)) (a_cons (e_var 7) a_nil))) a_nil)) (g_name (i := 8) sc_short_lines.nd rfl (by first | exact Or.inl rfl | exact Or.inr rfl)) (ss_cons (s_set (i := 9) sc_short_lines.nd rfl (by first | exact Or.inl rfl | exact Or.inr rfl) (e_callD D_casting hr (by rfl) (a_cons (e_var 0) (a_cons (e_var 6) (a_cons (e_var 8) a_nil)))))
    (ss_cons (s_expr (e_bm PySem.F.plainAttrs_list PySem.F.slot_list_append PySem.F.type_list_append m_append (e_var 3) (a_cons (e_tup (a_cons (e_op o_add (e_var 5) (e_tup (a_cons (e_var 8) a_nil))) (a_cons (e_var 9) a_nil))) a_nil)))
    (ss_one (s_expr (e_bm PySem.F.plainAttrs_list PySem.F.slot_list_append PySem.F.type_list_append m_append (e_var 4) (a_cons (e_tup (a_cons (e_op o_add (e_var 5) (e_tup (a_cons (e_var 8) a_nil))) (a_cons (e_var 9) (a_cons (e_op o_sub (e_op o_sub (e_var 7) (e_var 8)) (e_int)) a_nil)))) a_nil))))))))))
    (ss_one (s_ret (e_callB (b_sorted (un66 hr)) (by rfl) TX.n_sorted (by decide +kernel) (a_cons (e_var 3) a_nil)))))))
    (fun ts G Q E h => ?run)
  case len => obtain ⟨r, s, m, rfl, _⟩ := h; rfl
  case run =>
    obtain ⟨r, s, most, rfl, hr, hs, m0, m7, hQ⟩ := h
    have l0 := hr.l0
    have l1 := hr.l1
    intro p1 hp1
    have s1 := (Sub.refl G).new (o := .lst [szT r s []]) hp1
    intro p2 hp2
    have hp2G : G p2 = none := (gput_none hp2).2
    have n12 : p1 ≠ p2 := gne gput_same hp2
    have s2 := s1.new (o := .lst [stT r s most []]) hp2
    have e0 : most - wt [] = most := by unfold wt; simp
    refine ⟨fun m ρ G' => ∃ F S, ρ = [some (ruT r), some (fr s), some (.int most), some (.ref p1), some (.ref p2), none, none, none, none, none] ∧ WkI r.2.2 most F S ∧ Sub G G' ∧ G' p1 = some (.lst (F.map (szT r s))) ∧ G' p2 = some (.lst (S.map (stT r s most))) ∧ m = mass most S ∧ mass most S ≤ 128, ⟨_, [[]], [[]], rfl, WkI.start m0, ?_, ?_, ?_, rfl, ?_⟩, ?_⟩
    · have := s2
      unfold stT at this
      rw [e0] at this
      exact this
    · exact (gput_ne n12).trans gput_same
    · rw [gput_same]
      show _ = some (GO.lst [stT r s most []])
      unfold stT
      rw [e0]
      rfl
    · have e : 2 ^ rst most [] ≤ 2 ^ 7 := Nat.pow_le_pow_right (by decide) (by unfold rst; omega)
      have : (2 : Nat) ^ 7 = 128 := rfl
      unfold mass
      simp only [List.map_cons, List.map_nil, List.sum_cons, List.sum_nil]
      omega
    rintro m ρ G' ⟨F, S, rfl, hW, sG, h1, h2, rfl, hms⟩
    intro p3 hp3
    have s3 := (Sub.refl G').new (o := .lst []) hp3
    have ne : (true != teqs (S.map (stT r s most)) []) = !S.isEmpty := by cases S <;> rfl
    refine ⟨_, _, s3 _ _ h2, gput_same, fun z => ?_, ?_⟩
    · have z0 : S = [] := by cases S with
        | nil => rfl
        | cons a r => cases z
      subst z0
      exact ⟨rfl, rfl⟩
    rw [ne]
    replace h1 := s3 _ _ h1
    replace h2 := s3 _ _ h2
    replace sG := sG.trans s3
    generalize gput G' p3 (.lst []) = G1 at sG h1 h2 ⊢
    clear s3 hp3 ne
    refine ⟨fun c => ?_, fun c => ?_⟩
    · have hne : S ≠ [] := fun z => by subst z; cases c
      obtain ⟨S', l, rfl⟩ : ∃ S' l, S = S' ++ [l] := ⟨S.dropLast, S.getLast hne, (List.dropLast_concat_getLast hne).symm⟩
      have hv := hW.f l (hW.s l (by simp))
      have hw := hv.w
      have hlen := hv.len
      have hln := hv.ln (by omega)
      rw [List.map_append] at h2
      refine ⟨⟨_, h2⟩, _, _, h2, ?_⟩
      have h1' : gput G1 p2 (.lst (S'.map (stT r s most))) p1 = some (.lst (F.map (szT r s))) := (gput_ne n12).trans h1
      have h2' : gput G1 p2 (.lst (S'.map (stT r s most))) p2 = some (.lst (S'.map (stT r s most))) := gput_same
      have sG' : Sub G (gput G1 p2 (.lst (S'.map (stT r s most)))) := sG.mut hp2G
      generalize gput G1 p2 (.lst (S'.map (stT r s most))) = G2 at sG' h1' h2' ⊢
      obtain ⟨k, hk⟩ : ∃ k : Nat, (k : Int) = min r.2.2 (most - wt l) := ⟨(min r.2.2 (most - wt l)).toNat, by omega⟩
      have ek : (if most - wt l < r.2.2 then most - wt l else r.2.2) = (k : Int) := by rw [hk]; split <;> omega
      have hkr : k ≤ rst most l := by unfold rst; omega
      have hfew := hW.few m7
      have hfs := hW.step hk
      have hfew2 := hfs.few m7
      have hS2 := hW.ln
      have hm0 := load_mass (most := most) (S' ++ [l])
      rw [List.length_append] at hm0
      have hlen2 : S'.length ≤ 128 := by omega
      refine ⟨by rw [ek]; omega, ?_⟩
      rw [ek]
      refine ⟨fun j ρ G' => ρ = [some (ruT r), some (fr s), some (.int most), some (.ref p1), some (.ref p2), some (lnT l), some (fr (pc r s l)), some (.int (most - wt l)), none, none] ∧ Sub G G' ∧ G' p1 = some (.lst ((F ++ kids l j).map (szT r s))) ∧ G' p2 = some (.lst ((S' ++ kids l j).map (stT r s most))), ⟨rfl, sG', ?_, ?_⟩, fun _ _ _ _ _ => trivial, ?_, ?_⟩
      · unfold kids; simpa using h1'
      · unfold kids; simpa using h2'
      · rintro j t ρ G3 ht ⟨rfl, sG3, f1, f2⟩
        obtain ⟨hj, rfl⟩ := rngT_at ht
        have hj : j < k := by omega
        have hkl : ∀ j, (kids l j).length = j := fun j => by unfold kids; simp
        refine ⟨r, pc r s l, j, 20 + 19 * l.length, rfl, hr, pc_fb hr l 20 s hs.fb hln, by omega, by omega, by omega, ?_⟩
        rw [← pc_snoc]
        refine ⟨⟨_, f1⟩, by rw [List.length_map]; show l.length + 1 ≤ 100000; omega, _, f1, by rw [List.length_map, List.length_append, hkl]; omega, ?_⟩
        have g2 := (gput_ne (G := G3) (o := .lst ((F ++ kids l j).map (szT r s) ++ [.tup [.tup (l.map T.int ++ [.int j]), fr (pc r s (l ++ [(j : Int)]))]])) n12.symm).trans f2
        refine ⟨⟨_, g2⟩, by rw [List.length_map]; show l.length + 1 ≤ 100000; omega, _, g2, by rw [List.length_map, List.length_append, hkl]; omega, ?_⟩
        have hp1G : G p1 = none := hp1
        refine ⟨_, _, .keep _ (.keep _ (.keep _ (.keep _ (.keep _ (.keep _ (.keep _ (.keep _ (.drop _ (.drop _ .nil))))))))), Sub.refl _, rfl, (sG3.mut hp1G).mut hp2G, ?_, ?_⟩
        · rw [gput_ne n12, gput_same, kids_snoc, ← List.append_assoc, List.map_append (l₁ := F ++ kids l j)]
          simp [szT]
        · rw [gput_same, kids_snoc, ← List.append_assoc, List.map_append (l₁ := S' ++ kids l j)]
          have : most - wt (l ++ [(j : Int)]) = most - wt l - j - 1 := by rw [wt_snoc]; omega
          simp [stT, this]
      · rintro ρ G3 ⟨rfl, sG3, f1, f2⟩
        rw [rngT_len] at f1 f2
        have ekn : ((k : Int)).toNat = k := by omega
        rw [ekn] at f1 f2
        refine ⟨_, _, .keep _ (.keep _ (.keep _ (.keep _ (.keep _ (.drop _ (.drop _ (.drop _ (.drop _ (.drop _ .nil))))))))), Sub.refl _, mass most (S' ++ kids l k), ?_, F ++ kids l k, S' ++ kids l k, rfl, hfs, sG3, f1, f2, rfl, ?_⟩
        all_goals
          rw [mass_app] at hms
          rw [mass_app]
          try rw [mass_app]
          have := kids_lt hkr hw
          have : mass most [l] = 2 ^ rst most l := by unfold mass; simp
          omega
    · have hS : S = [] := by cases S with
        | nil => rfl
        | cons a r => cases c
      subst hS
      refine ⟨_, h1, srtOk_sz F, fun ys py wy q hq => ?_⟩
      obtain ⟨L, rfl, pL⟩ := perm_map py
      exact Ret.of (hQ L q _ (fun l => pL.mem_iff.trans (hW.all l)) (by rw [pL.length_eq]; exact hW.few m7) (sG.new hq) gput_same)
abbrev s_wanted : Stmt := topS 5
abbrev N_wanted : List Str := ["lines", "found", "line", "at", "number"]
theorem sc_wanted : FnScope N_wanted ["lines"] (defScope s_wanted) := ⟨rfl, rfl, rfl, by decide +kernel, rfl, by decide +kernel, by decide +kernel⟩
set_option maxHeartbeats 4000000 in
theorem ok_wanted {P : Program} {w : World} {K : PySem.W.Frag} {mg : Str → Option Value} {base : Heap} (F : FunAt K mg "wanted" "wanted" s_wanted ["lines"]) (TX : Txt K mg)  :
    DefOk P w K mg base 1 "wanted" ["lines"] sp_wanted := by
  refine okd F sc_wanted (fun ts G Q E h => ?len) (fun f cdv A outer s H E hr => ss_cons (s_set (i := 1) sc_wanted.nd rfl (by first | exact Or.inl rfl | exact Or.inr rfl) (e_d0T))
    (ss_cons (s_for (own := [2]) PassesOwn.never rfl (i_seq (e_var 0)) (g_name (i := 2) sc_wanted.nd rfl (by first | exact Or.inl rfl | exact Or.inr rfl)) (ss_one (s_for (own := [3, 4]) PassesOwn.never rfl (i_enum (by rfl) TX.n_enumerate (a_cons (e_var 2) a_nil)) (g_tup (n := 2) rfl (gs_cons (g_name (i := 3) sc_wanted.nd rfl (by first | exact Or.inl rfl | exact Or.inr rfl)) (gs_cons (g_name (i := 4) sc_wanted.nd rfl (by first | exact Or.inl rfl | exact Or.inr rfl)) (gs_nil)))) (ss_one (s_tput (un1 hr) (e_var 1) (e_slice sl_seq (e_var 2) (o_none) (o_some (e_var 3))) (e_callB (b_max2 rfl) (by rfl) TX.n_max (by decide +kernel) (a_cons (e_getT2 (un1 hr) (e_var 1) (e_slice sl_seq (e_var 2) (o_none) (o_some (e_var 3))) (e_int) ⟨rfl, rfl, rfl, rfl⟩) (a_cons (e_op o_add (e_var 4) (e_int)) a_nil))))))))
    (ss_one (s_ret (e_sumVals rfl (by rfl) TX.n_sum (e_var 1))))))
    (fun ts G Q E h => ?run)
  case len => obtain ⟨r, rfl, _⟩ := h; rfl
  case run =>
    obtain ⟨ls, rfl, hz, hl, hQ⟩ := h
    intro d hd
    have ec : ∀ (l : List Int) (j : Nat), cutT (l.map T.int) none (some (j : Int)) = (l.take j).map T.int := fun l j => by rw [cut_take (by omega), show ((j : Int)).toNat = j by omega, List.map_take]
    refine ⟨fun i ρ G' => ∃ ks, ρ = [some (.tup (ls.map lnT)), some (.ref d), none, none, none] ∧ Sub G G' ∧ G' d = some (.dT (kvG ks (mxP (prP (ls.take i))))) ∧ KsOf (prP (ls.take i)) ks ∧ ks.length ≤ 100 * i, ⟨[], rfl, (Sub.refl _).new hd, by rw [gput_same]; rfl, ⟨List.nodup_nil, fun b => by simp [prP]⟩, Nat.zero_le _⟩, fun _ _ _ _ _ => trivial, ?_, ?_⟩
    · rintro i t ρ G' ht ⟨ks, rfl, s, hd', hk, hkz⟩
      obtain ⟨l, hl', rfl⟩ := map_at ht
      have hi := (List.getElem?_eq_some_iff.mp hl').1
      have hll := hl l (List.mem_of_getElem? hl')
      refine ⟨fun j ρ G' => ∃ ks, ρ = [some (.tup (ls.map lnT)), some (.ref d), some (lnT l), none, none] ∧ Sub G G' ∧ G' d = some (.dT (kvG ks (mxP (prP (ls.take i) ++ (prl l).take j)))) ∧ KsOf (prP (ls.take i) ++ (prl l).take j) ks ∧ ks.length ≤ 100 * i + j, ⟨ks, rfl, s, by rw [List.take_zero, List.append_nil]; exact hd', by rw [List.take_zero, List.append_nil]; exact hk, hkz⟩, fun _ _ _ _ _ => trivial, ?_, ?_⟩
      · rintro j t ρ G' ht ⟨ks, rfl, s, hd', hk, hkz⟩
        obtain ⟨u, hu, rfl⟩ := enumT_get ht
        obtain ⟨n, hn, rfl⟩ := map_at hu
        have hj := (List.getElem?_eq_some_iff.mp hn).1
        have hP : (prl l).take (j + 1) = (prl l).take j ++ [(l.take j, n)] := take_one (prl_at hn)
        have hv : (valT (kvG ks (mxP (prP (ls.take i) ++ (prl l).take j))) ((l.take j).map Sum.inl)).getD (.int 0) = .int (mxP (prP (ls.take i) ++ (prl l).take j) (l.take j)) := by
          by_cases c : l.take j ∈ ks
          · rw [kvG_at c]; rfl
          · rw [kvG_none c, mxP_none fun n hn => c ((hk.mem _).mpr ⟨n, hn⟩)]; rfl
        refine ⟨⟨_, hd'⟩, _, _, by rw [ec]; exact tk_ints _, hd', ?_⟩
        rw [hv]
        have hm : (if n + 1 > mxP (prP (ls.take i) ++ (prl l).take j) (l.take j) then n + 1 else mxP (prP (ls.take i) ++ (prl l).take j) (l.take j)) = max (mxP (prP (ls.take i) ++ (prl l).take j) (l.take j)) (n + 1) := by split <;> omega
        have hz2 : (kvG ks (mxP (prP (ls.take i) ++ (prl l).take j))).length = ks.length := by unfold kvG; rw [List.length_map]
        refine ⟨_, _, by rw [ec]; exact tk_ints _, hd', by rw [hz2]; omega, ?_⟩
        rw [hm, kvG_put]
        have ha : (addB ks (l.take j)).length ≤ ks.length + 1 := by
          unfold addB
          split
          · omega
          · simp
        refine ⟨_, _, .keep _ (.keep _ (.keep _ (.drop _ (.drop _ .nil)))), Sub.refl _, addB ks (l.take j), rfl, s.mut hd, ?_, ?_, by omega⟩
        · rw [gput_same, hP, ← List.append_assoc]
          congr 2
          refine kvG_congr fun b _ => ?_
          rw [mxP_snoc]
          by_cases e : l.take j = b
          · rw [if_pos e, if_pos e, e]
          · rw [if_neg e, if_neg e]
        · rw [hP, ← List.append_assoc]
          exact hk.add _ n
      · rintro ρ G' ⟨ks, rfl, s, hd', hk, hkz⟩
        have en : (enumT (l.map T.int)).length = l.length := by rw [enumT_len, List.length_map]
        rw [en, ← prl_len l, List.take_length] at hd' hk
        rw [en] at hkz
        refine ⟨_, _, .keep _ (.keep _ (.drop _ (.drop _ (.drop _ .nil)))), Sub.refl _, ks, rfl, s, ?_, ?_, by omega⟩
        · rw [take_one hl', prP_snoc]; exact hd'
        · rw [take_one hl', prP_snoc]; exact hk
    · rintro ρ G' ⟨ks, rfl, s, hd', hk, hkz⟩
      rw [List.length_map, List.take_length] at hd' hk
      refine ⟨_, ks.map (mxP (prP ls)), hd', by unfold kvG; rw [List.map_map, List.map_map]; rfl, ?_⟩
      rw [W_eq hk]
      exact Ret.of (hQ _ s)
abbrev s_fills : Stmt := topS 6
abbrev N_fills : List Str := ["size", "wish", "low", "high"]
theorem sc_fills : FnScope N_fills ["size", "wish"] (defScope s_fills) := ⟨rfl, rfl, rfl, by decide +kernel, rfl, by decide +kernel, by decide +kernel⟩
set_option maxHeartbeats 4000000 in
theorem ok_fills {P : Program} {w : World} {K : PySem.W.Frag} {mg : Str → Option Value} {base : Heap} (F : FunAt K mg "fills" "fills" s_fills ["size", "wish"]) (TX : Txt K mg)  :
    DefOk P w K mg base 1 "fills" ["size", "wish"] sp_fills := by
  refine okd F sc_fills (fun ts G Q E h => ?len) (fun f cdv A outer s H E hr => ss_cons (s_asg (own := [2, 3]) (e_var 1) (g_tup (n := 2) rfl (gs_cons (g_name (i := 2) sc_fills.nd rfl (by first | exact Or.inl rfl | exact Or.inr rfl)) (gs_cons (g_name (i := 3) sc_fills.nd rfl (by first | exact Or.inl rfl | exact Or.inr rfl)) (gs_nil)))))
    (ss_one (s_ret (e_and (e_cmp o_le (e_op o_mul (e_ix i_ixC (e_var 2) (e_int) (fun _ _ => rfl)) (e_ix i_ixC (e_var 0) (e_int) (fun _ _ => rfl))) (e_op o_mul (e_ix i_ixC (e_var 0) (e_int) (fun _ _ => rfl)) (e_ix i_ixC (e_var 2) (e_int) (fun _ _ => rfl))) (nomark _)) (pe_one (e_cmp o_le (e_op o_mul (e_ix i_ixC (e_var 0) (e_int) (fun _ _ => rfl)) (e_ix i_ixC (e_var 3) (e_int) (fun _ _ => rfl))) (e_op o_mul (e_ix i_ixC (e_var 3) (e_int) (fun _ _ => rfl)) (e_ix i_ixC (e_var 0) (e_int) (fun _ _ => rfl))) (nomark _)))))))
    (fun ts G Q E h => ?run)
  case len => obtain ⟨s, w, rfl, _⟩ := h; rfl
  case run =>
    obtain ⟨s, w, rfl, hs, hw, hQ⟩ := h
    have m1 : MulOk w.1.1 s.2 := mulOk 200 200 hw.a.t1 hs.b1 (by omega)
    have m2 : MulOk s.1 w.1.2 := mulOk 200 200 hs.t1 hw.a.b1 (by omega)
    have m3 : MulOk s.1 w.2.2 := mulOk 200 200 hs.t1 hw.b.b1 (by omega)
    have m4 : MulOk w.2.1 s.2 := mulOk 200 200 hw.b.t1 hs.b1 (by omega)
    unfold fillB at hQ
    refine ⟨m1, m2, fun c => ?_, fun c => ?_⟩
    · rw [show decide (w.1.1 * s.2 ≤ s.1 * w.1.2) = true from c, Bool.true_and] at hQ
      exact ⟨m3, m4, Ret.of hQ⟩
    · rw [show decide (w.1.1 * s.2 ≤ s.1 * w.1.2) = false from c, Bool.false_and] at hQ
      exact Ret.of hQ
abbrev s_fewest : Stmt := topS 7
abbrev N_fewest : List Str := ["rules", "size", "wishes", "most", "some", "rows", "wish", "good", "longer", "row", "best", "line", "one"]
theorem sc_fewest : FnScope N_fewest ["rules", "size", "wishes", "most"] (defScope s_fewest) := ⟨rfl, rfl, rfl, by decide +kernel, rfl, by decide +kernel, by decide +kernel⟩
set_option maxHeartbeats 4000000 in
theorem ok_fewest {P : Program} {w : World} {K : PySem.W.Frag} {mg : Str → Option Value} {base : Heap} (F : FunAtK K mg "fewest" "fewest" s_fewest ["rules", "size", "wishes", "most"] 3 "most" 7) (TX : Txt K mg) (D_short_lines : DefOk P w K mg base 3 "short_lines" ["rules", "size", "most"] sp_short_lines) (D_fills : DefOk P w K mg base 1 "fills" ["size", "wish"] sp_fills) (D_wanted : DefOk P w K mg base 1 "wanted" ["lines"] sp_wanted) :
    DefOkK P w K mg base 4 "fewest" ["rules", "size", "wishes", "most"] 3 "most" 7 sp_fewest := by
  refine okdK F sc_fewest (fun ts G Q E h => ?len) (fun f cdv A outer s H E hr => ss_cons (s_set (i := 4) sc_fewest.nd rfl (by first | exact Or.inl rfl | exact Or.inr rfl) (e_callD D_short_lines hr (by rfl) (a_cons (e_var 0) (a_cons (e_var 1) (a_cons (e_var 3) a_nil)))))
    (ss_cons (s_set (i := 5) sc_fewest.nd rfl (by first | exact Or.inl rfl | exact Or.inr rfl) (e_lst (a_cons (e_tup (a_nil)) a_nil)))
    (ss_cons (s_for (own := [6]) PassesOwn.never rfl (i_seq (e_var 2)) (g_name (i := 6) sc_fewest.nd rfl (by first | exact Or.inl rfl | exact Or.inr rfl)) (ss_cons (s_setLc (i := 7) (own := [("line", 11), ("one", 12)]) rfl sc_fewest.nd rfl rfl (sw_true rfl rfl rfl (by decide +kernel)) (i_seq (e_var 4)) (blkOk_by (N := N_fewest) (sc := defScope s_fewest) (own := [("line", 11), ("one", 12)]) (by decide +kernel)) (fun _ _ _ _ _ => g_tup (n := 2) rfl (gs_cons (g_name (i := 11) sc_fewest.nd rfl (by first | exact Or.inl rfl | exact Or.inr rfl)) (gs_cons (g_name (i := 12) sc_fewest.nd rfl (by first | exact Or.inl rfl | exact Or.inr rfl)) (gs_nil)))) (fun _ _ _ _ _ => ts_one (t_tr (e_callD D_fills (hr.mono (by decide)) (by rfl) (a_cons (e_var 12) (a_cons (e_var 6) a_nil))))) (fun _ _ _ _ _ => e_var 11))
    (ss_cons (s_set (i := 8) sc_fewest.nd rfl (by first | exact Or.inl rfl | exact Or.inr rfl) (e_lst (a_nil)))
    (ss_cons (s_for (own := [9]) PassesOwn.never rfl (i_seq (e_var 5)) (g_name (i := 9) sc_fewest.nd rfl (by first | exact Or.inl rfl | exact Or.inr rfl)) (ss_one (s_set (i := 8) sc_fewest.nd rfl (by first | exact Or.inl rfl | exact Or.inr rfl) (e_op o_add (e_var 8) (e_lc (own := [("line", 11)]) rfl sc_fewest.nd (i_seq (e_var 7)) (blkOk_by (N := N_fewest) (sc := defScope s_fewest) (own := [("line", 11)]) (by decide +kernel)) (fun _ _ _ _ _ => g_name (i := 11) sc_fewest.nd rfl (by first | exact Or.inl rfl | exact Or.inr rfl)) (fun _ _ _ _ _ => ts_nil) (fun _ _ _ _ _ => e_op o_add (e_var 9) (e_tup (a_cons (e_var 11) a_nil))))))))
    (ss_one (s_set (i := 5) sc_fewest.nd rfl (by first | exact Or.inl rfl | exact Or.inr rfl) (e_var 8)))))))
    (ss_cons (s_set (i := 10) sc_fewest.nd rfl (by first | exact Or.inl rfl | exact Or.inr rfl) (e_callB (b_minT rfl (un66 hr)) (by rfl) TX.n_min (by decide +kernel) (a_cons (e_op o_add (e_lc (own := [("row", 9)]) rfl sc_fewest.nd (i_seq (e_var 5)) (blkOk_by (N := N_fewest) (sc := defScope s_fewest) (own := [("row", 9)]) (by decide +kernel)) (fun _ _ _ _ _ => g_name (i := 9) sc_fewest.nd rfl (by first | exact Or.inl rfl | exact Or.inr rfl)) (fun _ _ _ _ _ => ts_nil) (fun _ _ _ _ _ => e_tup (a_cons (e_callD D_wanted (hr.mono (by decide)) (by rfl) (a_cons (e_var 9) a_nil)) (a_cons (e_var 9) a_nil)))) (e_lst (a_cons (e_tup (a_cons (e_op o_add (e_var 3) (e_int)) (a_cons (e_tup (a_nil)) a_nil))) a_nil))) a_nil)))
    (ss_one (s_ret (e_if (t_cmp o_le (e_ix i_ixC (e_var 10) (e_int) (fun _ _ => rfl)) (e_var 3) (nomark _)) (e_var 10) (e_non))))))))
    (fun ts G Q E h => ?run)
  case len => obtain ⟨r, s, ws, m, rfl, _⟩ := h; rfl
  case run =>
    obtain ⟨r, s, ws, most, rfl, hr, hs, m0, m7, hz, hw, hQ⟩ := h
    have l0 := hr.l0
    have l1 := hr.l1
    refine ⟨r, s, most, rfl, hr, hs, m0, m7, fun L p G1 hL hLz s1 e1 => ?_⟩
    intro pr hpr
    have s2 := s1.new (o := .lst [rowT []]) hpr
    have e2 := (Sub.refl G1).new (o := .lst [rowT []]) hpr _ _ e1
    have f2 : gput G1 pr (.lst [rowT []]) pr = some (.lst [rowT []]) := gput_same
    change gNm 5 (T.ref pr) _ (gput G1 pr (.lst [rowT []])) _
    generalize gput G1 pr (.lst [rowT []]) = G2 at s2 e2 f2 ⊢
    clear s1 e1 hpr
    have hln : ∀ l ∈ L, LnOk l ∧ l.length ≤ 7 := fun l hl => by
      have hv := (hL l).mp hl
      exact ⟨hv.ln l1, by have := hv.len; omega⟩
    refine ⟨fun i ρ G' => ∃ pr R, ρ = [some (ruT r), some (fr s), some (.tup (ws.map wsT)), some (.int most), some (.ref p), some (.ref pr), none, none, none, none, none, none, none] ∧ Sub G2 G' ∧ G' pr = some (.lst (R.map rowT)) ∧ (∀ row, row ∈ R ↔ RowI r s ws most i row) ∧ R.length ≤ 128 ^ i, ⟨pr, [[]], rfl, Sub.refl _, f2, fun row => by rw [RowI.nil]; simp, by simp⟩, fun _ _ _ _ _ => trivial, ?_, ?_⟩
    · rintro i t ρ G' ht ⟨pr, R, rfl, sb, er, hR, hRz⟩
      obtain ⟨w, hwi, rfl⟩ := map_at ht
      have hi := (List.getElem?_eq_some_iff.mp hwi).1
      have hi1 : i ≤ 1 := by omega
      have hRz2 : R.length ≤ 128 := Nat.le_trans hRz (Nat.le_trans (Nat.pow_le_pow_right (by decide) hi1) (by decide))
      have wd := hw w (List.mem_of_getElem? hwi)
      have eL := sb _ _ e2
      let ok : List Int → Bool := fun l => fillB (pc r s l) w
      refine ⟨_, eL, fun D hD => ⟨by rw [List.length_map]; omega, fun k acc G3 => acc = ((L.take k).filter ok).map lnT ∧ Sub G' G3 ∧ G3 D = some (.lst acc) ∧ acc.length ≤ k, ⟨by simp, (Sub.refl _).new hD, gput_same, by simp⟩, ?_, ?_, ?_⟩⟩
      · rintro k acc G3 hk ⟨rfl, s3, e, z⟩
        exact ⟨s3 _ _ eL, e, z⟩
      · rintro k t acc G3 ht ⟨rfl, s3, e, z⟩
        obtain ⟨l, hl, rfl⟩ := map_at ht
        obtain ⟨ll, lz⟩ := hln l (List.mem_of_getElem? hl)
        refine ⟨pc r s l, w, rfl, (pc_fb hr l 20 s hs.fb ll).mono (by omega), wd, fun c => ?_, fun c => ?_⟩
        · refine ⟨e, _, Sub.refl _, ?_, s3.mut hD, gput_same, by rw [List.length_append]; exact Nat.succ_le_succ z⟩
          rw [take_one hl, List.filter_append, List.map_append, filt1 (p := ok) c]; rfl
        · refine ⟨_, Sub.refl _, ?_, s3, e, by omega⟩
          rw [take_one hl, List.filter_append, filt0 (p := ok) c, List.append_nil]
      · rintro acc G3 ⟨rfl, s3, e, z⟩
        rw [List.length_map, List.take_length] at e
        have gm : ∀ l, l ∈ L.filter ok ↔ VL r.2.2 most l ∧ fillB (pc r s l) w = true := fun l => by rw [List.mem_filter, hL l]
        have gz : (L.filter ok).length ≤ 128 := Nat.le_trans (List.length_filter_le _ _) hLz
        generalize hgd : L.filter ok = gd at e gm gz
        intro pl hpl
        have s4 := s3.new (o := .lst []) hpl
        have ne1 := (Sub.refl G3).new (o := .lst []) hpl
        have er4 := s4 _ _ er
        have eg4 := ne1 _ _ e
        have el4 : gput G3 pl (.lst []) pl = some (.lst []) := gput_same
        generalize gput G3 pl (.lst []) = G4 at s4 er4 eg4 el4 ⊢
        let ext : List (List Int) → List (List (List Int)) := fun row => gd.map fun l => row ++ [l]
        have exz : ∀ row, (ext row).length = gd.length := fun row => by show (gd.map _).length = _; rw [List.length_map]
        have fmz : ∀ U : List (List (List Int)), (U.flatMap ext).length = U.length * gd.length := fun U => by
          induction U with
          | nil => simp
          | cons a U ih => rw [List.flatMap_cons, List.length_append, ih, exz, List.length_cons, Nat.add_mul, Nat.one_mul, Nat.add_comm]
        refine ⟨_, er4, fun j ρ G5 => ∃ pl, ρ = [some (ruT r), some (fr s), some (.tup (ws.map wsT)), some (.int most), some (.ref p), some (.ref pr), some (wsT w), some (.ref D), some (.ref pl), none, none, none, none] ∧ Sub G4 G5 ∧ G5 pl = some (.lst (((R.take j).flatMap ext).map rowT)), ⟨pl, rfl, Sub.refl _, el4⟩, fun _ _ _ _ ⟨_, hI⟩ => hI.2.1 _ _ er4, ?_, ?_⟩
        · rintro j t ρ G5 ht ⟨pl, rfl, s5, e5⟩
          obtain ⟨row, hrow, rfl⟩ := map_at ht
          have hj := (List.getElem?_eq_some_iff.mp hrow).1
          have hrl : row.length ≤ 2 := by
            have := ((hR row).mp (List.mem_of_getElem? hrow)).len
            omega
          have eg5 := s5 _ _ eg4
          refine ⟨_, eg5, fun D2 hD2 => ⟨by rw [List.length_map]; omega, fun k acc G6 => acc = ((gd.take k).map fun l => rowT (row ++ [l])) ∧ Sub G5 G6 ∧ G6 D2 = some (.lst acc) ∧ acc.length ≤ k, ⟨by simp, (Sub.refl _).new hD2, gput_same, by simp⟩, ?_, ?_, ?_⟩⟩
          · rintro k acc G6 hk ⟨rfl, s6, e, z⟩
            exact ⟨s6 _ _ eg5, e, z⟩
          · rintro k t acc G6 ht ⟨rfl, s6, e, z⟩
            obtain ⟨l, hl, rfl⟩ := map_at ht
            refine ⟨fun _ => ?_, fun c => (by cases c)⟩
            refine ⟨by rw [List.length_map]; show row.length + 1 ≤ 100000; omega, e, _, Sub.refl _, ?_, s6.mut hD2, gput_same, by rw [List.length_append]; exact Nat.succ_le_succ z⟩
            rw [take_one hl, List.map_append]
            simp [rowT]
          · rintro acc G6 ⟨rfl, s6, e, z⟩
            rw [List.length_map, List.take_length] at e
            have z1 := fmz (R.take j)
            rw [List.length_take] at z1
            have z2 : min j R.length * gd.length ≤ 128 * 128 := Nat.mul_le_mul (by omega) gz
            refine ⟨_, _, s6 _ _ e5, e, by rw [List.length_map, List.length_map, z1]; omega, fun q hq => ?_⟩
            refine ⟨_, _, .keep _ (.keep _ (.keep _ (.keep _ (.keep _ (.keep _ (.keep _ (.keep _ (.keep _ (.drop _ (.drop _ (.drop _ (.drop _ .nil)))))))))))), Sub.refl _, q, rfl, (s5.trans s6).new hq, ?_⟩
            rw [gput_same, take_one hrow, List.flatMap_append, List.map_append]
            congr 3
            show _ = (([row].flatMap ext).map rowT)
            rw [List.flatMap_cons, List.flatMap_nil, List.append_nil]
            show _ = (gd.map fun l => row ++ [l]).map rowT
            rw [List.map_map]; rfl
        · rintro ρ G5 ⟨pl, rfl, s5, e5⟩
          rw [List.length_map, List.take_length] at e5
          refine ⟨_, _, .keep _ (.keep _ (.keep _ (.keep _ (.keep _ (.keep _ (.drop _ (.drop _ (.drop _ (.drop _ (.drop _ (.drop _ (.drop _ .nil)))))))))))), Sub.refl _, pl, R.flatMap ext, rfl, (sb.trans s4).trans s5, e5, fun row => ?_, ?_⟩
          · rw [List.mem_flatMap]
            constructor
            · rintro ⟨a, ha, hm⟩
              obtain ⟨l, hl, rfl⟩ := List.mem_map.mp (show row ∈ gd.map fun l => a ++ [l] from hm)
              exact (RowI.snoc hwi).mpr ⟨(hR a).mp ha, (gm l).mp hl⟩
            · intro h
              have hne : row ≠ [] := fun z => by have := h.len; rw [z] at this; cases this
              rw [← List.dropLast_concat_getLast hne] at h ⊢
              obtain ⟨h1, h2⟩ := (RowI.snoc hwi).mp h
              exact ⟨_, (hR _).mpr h1, List.mem_map.mpr ⟨_, (gm _).mpr h2, rfl⟩⟩
          · rw [fmz, Nat.pow_succ]
            exact Nat.mul_le_mul hRz gz
    · rintro ρ G' ⟨pr, R, rfl, sb, er, hR, hRz⟩
      rw [List.length_map] at hR hRz
      have hRz2 : R.length ≤ 16384 := Nat.le_trans hRz (Nat.le_trans (Nat.pow_le_pow_right (by decide) hz) (by decide))
      have hrow : ∀ row ∈ R, row.length ≤ 2 ∧ ∀ l ∈ row, l.length ≤ 7 := fun row hm => by
        have h := (hR row).mp hm
        refine ⟨by rw [h.len]; exact hz, fun l hl => ?_⟩
        obtain ⟨j, hj⟩ := List.mem_iff_getElem?.mp hl
        have hj2 := (List.getElem?_eq_some_iff.mp hj).1
        rw [h.len] at hj2
        have := (h.ok j l _ hj (List.getElem?_eq_getElem hj2)).1.len
        omega
      refine ⟨_, er, fun D hD => ⟨by rw [List.length_map]; omega, fun k acc G3 => acc = ((R.take k).map fun row => rkT (W row) row) ∧ Sub G' G3 ∧ G3 D = some (.lst acc) ∧ acc.length ≤ k, ⟨by simp, (Sub.refl _).new hD, gput_same, by simp⟩, ?_, ?_, ?_⟩⟩
      · rintro k acc G3 hk ⟨rfl, s3, e, z⟩
        exact ⟨s3 _ _ er, e, z⟩
      · rintro k t acc G3 ht ⟨rfl, s3, e, z⟩
        obtain ⟨row, hl, rfl⟩ := map_at ht
        obtain ⟨r1, r2⟩ := hrow row (List.mem_of_getElem? hl)
        refine ⟨fun _ => ?_, fun c => (by cases c)⟩
        refine ⟨row, rfl, by omega, fun l hl => by have := r2 l hl; omega, fun G4 s4 => ?_⟩
        refine ⟨s4 _ _ e, _, Sub.refl _, ?_, (s3.trans s4).mut hD, gput_same, by rw [List.length_append]; exact Nat.succ_le_succ z⟩
        rw [take_one hl, List.map_append]; rfl
      · rintro acc G3 ⟨rfl, s3, e, z⟩
        rw [List.length_map, List.take_length] at e
        intro p4 hp4
        have e4 := (Sub.refl G3).new (o := .lst [rkT (most + 1) []]) hp4 _ _ e
        refine ⟨_, _, e4, gput_same, by rw [List.length_map]; show R.length + 1 ≤ 100000; omega, fun q hq => ?_⟩
        have so : SrtOk (R.map (fun row => rkT (W row) row) ++ [rkT (most + 1) []]) := by
          have fm : ∀ x ∈ R.map (fun row => rkT (W row) row) ++ [rkT (most + 1) []], ∃ w row, x = rkT w row := fun x hx => by
            rcases List.mem_append.mp hx with h | h
            · obtain ⟨row, _, rfl⟩ := List.mem_map.mp h
              exact ⟨_, _, rfl⟩
            · exact ⟨_, _, List.mem_singleton.mp h⟩
          refine ⟨fun x hx => ?_, fun x hx y hy => ?_⟩
          · obtain ⟨w, row, rfl⟩ := fm x hx
            exact rk_ok _ _
          · obtain ⟨w, row, rfl⟩ := fm x hx
            obtain ⟨v, row2, rfl⟩ := fm y hy
            exact rk_cmp _ _ _ _
        refine ⟨_, gput_same, by simp, so, fun y hy hm => ?_⟩
        obtain ⟨w, row, rfl, h1, h2⟩ := IsMin.of_least hR hy hm
        have sfin := (((s2.trans sb).trans s3).new (o := .lst [rkT (most + 1) []]) hp4).new (o := .lst (R.map (fun row => rkT (W row) row) ++ [rkT (most + 1) []])) hq
        refine ⟨fun c => ?_, fun c => ?_⟩
        · exact Ret.of (hQ _ _ (h1 (of_decide_eq_true c)) sfin)
        · exact Ret.of (hQ _ _ (h2 (by have := of_decide_eq_false c; omega)) sfin)
abbrev s_law_bag : Stmt := topS 9
abbrev N_law_bag : List Str := ["script", "k", "cell"]
theorem sc_law_bag : FnScope N_law_bag ["script", "k"] (defScope s_law_bag) := ⟨rfl, rfl, rfl, by decide +kernel, rfl, by decide +kernel, by decide +kernel⟩
set_option maxHeartbeats 4000000 in
theorem ok_law_bag {P : Program} {w : World} {K : PySem.W.Frag} {mg : Str → Option Value} {base : Heap} (F : FunAt K mg "_law_bag" "_law_bag" s_law_bag ["script", "k"]) (TX : Txt K mg)  :
    DefOk P w K mg base 1 "_law_bag" ["script", "k"] sp_law_bag := by
  refine okd F sc_law_bag (fun ts G Q E h => ?len) (fun f cdv A outer s H E hr => ss_cons (s_set (i := 2) sc_law_bag.nd rfl (by first | exact Or.inl rfl | exact Or.inr rfl) (e_int))
    (ss_cons (s_if (t_cmp (o_lt2 (un66 hr)) (e_var 1) (e_callB b_len (by rfl) TX.n_len (by decide +kernel) (a_cons (e_var 0) a_nil)) (nomark _)) (ss_one (s_set (i := 2) sc_law_bag.nd rfl (by first | exact Or.inl rfl | exact Or.inr rfl) (e_callB b_abs (by rfl) TX.n_abs (by decide +kernel) (a_cons (e_ix i_ix (e_var 0) (e_var 1) (fun _ _ => rfl)) a_nil)))) (ss_nil))
    (ss_cons (s_if (t_cmp (o_lt2 (un66 hr)) (e_var 2) (e_op o_pow (e_int) (e_int)) (nomark _)) (ss_one (s_ret (e_lst (a_cons (e_int) (a_cons (e_op o_add (e_int) (e_op o_mod (e_op o_add (e_op o_mul (e_var 2) (e_int)) (e_op o_mul (e_int) (e_var 1))) (e_int))) a_nil))))) (ss_nil))
    (ss_one (s_ret (e_lst (a_cons (e_var 2) (a_cons (e_op o_add (e_int) (e_op o_mod (e_op o_add (e_var 2) (e_var 1)) (e_int))) a_nil))))))))
    (fun ts G Q E h => ?run)
  case len => unfold sp_law_bag at h; split at h <;> first | rfl | exact h.elim
  case run =>
    unfold sp_law_bag at h
    split at h
    · rename_i ns k
      obtain ⟨⟨h0, h1, hn⟩, hQ⟩ := h
      -- behind the choice of the cell
      have go : ∀ c : Int, 0 ≤ c → ∀ ρ : REnv, ρ = [some (.scr ns), some (.int k), some (.int c)] → (qIfS (qTB (qOp fLt (qVar 2) (qOp fPow (qC (.int 10)) (qC (.int 18)))))
          (qRet (qLst (qCons (qC (.int 0)) (qCons (qOp fAdd (qC (.int 1)) (qOp fMod (qOp fAdd (qOp fMulT (qVar 2) (qC (.int 7919))) (qOp fMulT (qC (.int 104729)) (qVar 1))) (qC (.int 2147483646)))) qNil)))) qNext)
          { endOf Q with nx := qRet (qLst (qCons (qVar 2) (qCons (qOp fAdd (qC (.int 1)) (qOp fMod (qOp fAdd (qVar 2) (qVar 1)) (qC (.int 2147483646)))) qNil))) (endOf Q) } ρ G := by
        rintro c hc ρ rfl
        refine ⟨⟨by decide, by decide, by decide⟩, fun b => ?_, fun b => ?_⟩
        · have hb : c < 1000000000000000000 := of_decide_eq_true b
          refine ⟨mulOk 64 64 (by omega) (by decide) (by decide), mulOk 64 64 (by decide) (by omega) (by decide), by decide, fun p hp => ?_⟩
          have m0 := Int.emod_nonneg (c * 7919 + 104729 * k) (show (2147483646 : Int) ≠ 0 by decide)
          have m1 := Int.emod_lt_of_pos (c * 7919 + 104729 * k) (show (0 : Int) < 2147483646 by decide)
          exact Ret.of (hQ p 0 _ hp ⟨by omega, by omega, by omega⟩)
        · refine ⟨by decide, fun p hp => ?_⟩
          have m0 := Int.emod_nonneg (c + k) (show (2147483646 : Int) ≠ 0 by decide)
          have m1 := Int.emod_lt_of_pos (c + k) (show (0 : Int) < 2147483646 by decide)
          exact Ret.of (hQ p c _ hp ⟨hc, by omega, by omega⟩)
      refine ⟨fun c => ?_, fun c => ?_⟩
      · have hk : k < ns.length := of_decide_eq_true c
        refine ⟨k.toNat, ns[k.toNat]'(by omega), ?_, List.getElem?_eq_getElem (by omega), ?_⟩
        · have := ixN_nat (n := k.toNat) (len := ns.length) (by omega)
          rw [show Int.ofNat k.toNat = k by show ((k.toNat : Nat) : Int) = k; omega] at this
          exact this
        · refine go _ ?_ _ rfl
          split <;> omega
      · exact go 0 (Int.le_refl 0) _ rfl
    · exact h.elim
abbrev s_law_take : Stmt := topS 10
abbrev N_law_take : List Str := ["bag", "many", "found"]
theorem sc_law_take : FnScope N_law_take ["bag", "many"] (defScope s_law_take) := ⟨rfl, rfl, rfl, by decide +kernel, rfl, by decide +kernel, by decide +kernel⟩
set_option maxHeartbeats 4000000 in
theorem ok_law_take {P : Program} {w : World} {K : PySem.W.Frag} {mg : Str → Option Value} {base : Heap} (F : FunAt K mg "_law_take" "_law_take" s_law_take ["bag", "many"]) (TX : Txt K mg)  :
    DefOk P w K mg base 1 "_law_take" ["bag", "many"] sp_law_take := by
  refine okd F sc_law_take (fun ts G Q E h => ?len) (fun f cdv A outer s H E hr => ss_cons (s_if (t_cmp o_gt (e_ix i_ixC (e_var 0) (e_int) (fun _ _ => rfl)) (e_int) (nomark _)) (ss_cons (s_set (i := 2) sc_law_take.nd rfl (by first | exact Or.inl rfl | exact Or.inr rfl) (e_op o_mod (e_ix i_ixC (e_var 0) (e_int) (fun _ _ => rfl)) (e_var 1)))
    (ss_cons (s_asg (own := []) (e_op o_div (e_ix i_ixC (e_var 0) (e_int) (fun _ _ => rfl)) (e_var 1)) (g_sub (e_var 0) (e_int) set_lst))
    (ss_one (s_ret (e_var 2))))) (ss_nil))
    (ss_cons (s_asg (own := []) (e_op o_mod (e_op o_mul (e_ix i_ixC (e_var 0) (e_int) (fun _ _ => rfl)) (e_int)) (e_int)) (g_sub (e_var 0) (e_int) set_lst))
    (ss_one (s_ret (e_op o_mod (e_op o_div (e_op o_mod (e_op o_mul (e_ix i_ixC (e_var 0) (e_int) (fun _ _ => rfl)) (e_ix i_ixC (e_var 0) (e_int) (fun _ _ => rfl))) (e_int)) (e_int)) (e_var 1))))))
    (fun ts G Q E h => ?run)
  case len => unfold sp_law_take at h; split at h <;> first | rfl | exact h.elim
  case run =>
    unfold sp_law_take at h
    split at h
    · rename_i b m
      obtain ⟨⟨⟨c1, c2, hb, ok⟩, m0, m1⟩, hQ⟩ := h
      have hd : DivOk m := divOk 64 m0 (by omega) (by decide)
      refine ⟨_, hb, fun c => ?_, fun c => ?_⟩
      · have hc : 0 < c1 := of_decide_eq_true c
        refine ⟨_, hb, m0, _, hb, hd, _, 0, hb, rfl, ?_⟩
        exact Ret.of (hQ _ _ (Int.emod_nonneg _ (by omega)) (Int.emod_lt_of_pos _ m0) ⟨c1 / m, c2, ⟨Int.ediv_nonneg ok.h1 (by omega), ok.h2, ok.h3⟩, rfl⟩)
      · have a0 := Int.emod_nonneg (c2 * 48271) (show (2147483647 : Int) ≠ 0 by decide)
        have a1 := Int.emod_lt_of_pos (c2 * 48271) (show (0 : Int) < 2147483647 by decide)
        have n2 : c2.natAbs < 2 ^ 64 := by have := ok.h2; have := ok.h3; omega
        refine ⟨_, hb, mulOk 64 64 n2 (by decide) (by decide), by decide, _, 1, hb, rfl, ?_⟩
        have n3 : (c2 * 48271 % 2147483647).natAbs < 2 ^ 64 := by omega
        refine ⟨_, gput_same, _, gput_same, mulOk 64 64 n3 n3 (by decide), by decide, divOk 7 (by decide) (by decide) (by decide), m0, ?_⟩
        exact Ret.of (hQ _ _ (Int.emod_nonneg _ (by omega)) (Int.emod_lt_of_pos _ m0) ⟨c1, _, ⟨ok.h1, a0, a1⟩, rfl⟩)
    · exact h.elim
abbrev s_law_lowest : Stmt := topS 11
abbrev N_law_lowest : List Str := ["top", "bottom", "one", "other"]
theorem sc_law_lowest : FnScope N_law_lowest ["top", "bottom"] (defScope s_law_lowest) := ⟨rfl, rfl, rfl, by decide +kernel, rfl, by decide +kernel, by decide +kernel⟩
set_option maxHeartbeats 4000000 in
theorem ok_law_lowest {P : Program} {w : World} {K : PySem.W.Frag} {mg : Str → Option Value} {base : Heap} (F : FunAt K mg "_law_lowest" "_law_lowest" s_law_lowest ["top", "bottom"]) (TX : Txt K mg)  :
    DefOk P w K mg base 1 "_law_lowest" ["top", "bottom"] sp_law_lowest := by
  refine okd F sc_law_lowest (fun ts G Q E h => ?len) (fun f cdv A outer s H E hr => ss_cons (s_par (i := 2) (j := 3) rfl sc_law_lowest.nd rfl rfl  (by decide)  rfl rfl  (a_cons (e_var 0) (a_cons (e_var 1) a_nil)) rfl)
    (ss_cons (s_while PassesOwn.never (t_cmp o_gt (e_var 3) (e_int) (nomark _)) (ss_one (s_par (i := 2) (j := 3) rfl sc_law_lowest.nd rfl rfl  (by decide)  rfl rfl  (a_cons (e_var 3) (a_cons (e_op o_mod (e_var 2) (e_var 3)) a_nil)) rfl)))
    (ss_one (s_ret (e_tup (a_cons (e_op o_div (e_var 0) (e_var 2)) (a_cons (e_op o_div (e_var 1) (e_var 2)) a_nil)))))))
    (fun ts G Q E h => ?run)
  case len => unfold sp_law_lowest at h; split at h <;> first | rfl | exact h.elim
  case run =>
    unfold sp_law_lowest at h
    split at h
    · rename_i t b
      obtain ⟨⟨h0, h1, h2⟩, hQ⟩ := h
      refine ⟨fun m ρ G' => ∃ x y : Int, ρ = [some (.int t), some (.int b), some (.int x), some (.int y)] ∧ G' = G ∧ 0 ≤ x ∧ 0 ≤ y ∧ Int.gcd x y = Int.gcd t b ∧ m = y.toNat, ⟨_, t, b, rfl, rfl, h0, by omega, rfl, rfl⟩, ?_⟩
      rintro m ρ G' ⟨x, y, rfl, rfl, hx, hy, hg, rfl⟩
      refine ⟨fun c => ?_, fun c => ?_⟩
      · have hy0 : 0 < y := of_decide_eq_true c
        have hm := Int.emod_lt_of_pos x hy0
        have hm0 := Int.emod_nonneg x (show y ≠ 0 by omega)
        exact ⟨hy0, Wk.of ⟨(x % y).toNat, by omega, y, x % y, rfl, rfl, by omega, hm0, by rw [gcd_step hx hy0]; exact hg, rfl⟩⟩
      · have hy0 : ¬ 0 < y := of_decide_eq_false c
        have e : y = 0 := by omega
        subst e
        have hxe : x = (Int.gcd t b : Int) := by
          rw [← hg, Int.gcd_zero_right]
          omega
        have hp : 0 < Int.gcd t b := Int.gcd_pos_of_ne_zero_right t (by omega)
        have hle : Int.gcd t b ≤ b.natAbs := Nat.le_of_dvd (by omega) (Int.gcd_dvd_natAbs_right t b)
        have ok : DivOk x := divOk 8999 (by omega) (by rw [hxe]; omega) (by omega)
        refine ⟨ok, ok, ?_⟩
        rw [hxe]
        exact Ret.of hQ
    · exact h.elim
abbrev s_law_rules : Stmt := topS 12
abbrev N_law_rules : List Str := ["bag", "bottom", "shrink", "wear"]
theorem sc_law_rules : FnScope N_law_rules ["bag"] (defScope s_law_rules) := ⟨rfl, rfl, rfl, by decide +kernel, rfl, by decide +kernel, by decide +kernel⟩
set_option maxHeartbeats 4000000 in
theorem ok_law_rules {P : Program} {w : World} {K : PySem.W.Frag} {mg : Str → Option Value} {base : Heap} (F : FunAt K mg "_law_rules" "_law_rules" s_law_rules ["bag"]) (TX : Txt K mg) (D_law_take : DefOk P w K mg base 1 "_law_take" ["bag", "many"] sp_law_take) (D_law_lowest : DefOk P w K mg base 1 "_law_lowest" ["top", "bottom"] sp_law_lowest) :
    DefOk P w K mg base 2 "_law_rules" ["bag"] sp_law_rules := by
  refine okd F sc_law_rules (fun ts G Q E h => ?len) (fun f cdv A outer s H E hr => ss_cons (s_set (i := 1) sc_law_rules.nd rfl (by first | exact Or.inl rfl | exact Or.inr rfl) (e_op o_add (e_int) (e_callD D_law_take hr (by rfl) (a_cons (e_var 0) (a_cons (e_int) a_nil)))))
    (ss_cons (s_set (i := 2) sc_law_rules.nd rfl (by first | exact Or.inl rfl | exact Or.inr rfl) (e_callD D_law_lowest hr (by rfl) (a_cons (e_op o_sub (e_op o_sub (e_var 1) (e_int)) (e_callD D_law_take hr (by rfl) (a_cons (e_var 0) (a_cons (e_ix i_ix (e_lst (a_cons (e_int) (a_cons (e_op o_sub (e_var 1) (e_int)) a_nil))) (e_callD D_law_take hr (by rfl) (a_cons (e_var 0) (a_cons (e_int) a_nil))) (fun _ _ => rfl)) a_nil)))) (a_cons (e_var 1) a_nil))))
    (ss_cons (s_set (i := 3) sc_law_rules.nd rfl (by first | exact Or.inl rfl | exact Or.inr rfl) (e_ix i_ix (e_lst (a_cons (e_tup (a_cons (e_int) (a_cons (e_int) a_nil))) (a_cons (e_tup (a_cons (e_int) (a_cons (e_int) a_nil))) (a_cons (e_callD D_law_lowest hr (by rfl) (a_cons (e_callD D_law_take hr (by rfl) (a_cons (e_var 0) (a_cons (e_int) a_nil))) (a_cons (e_op o_add (e_int) (e_callD D_law_take hr (by rfl) (a_cons (e_var 0) (a_cons (e_int) a_nil)))) a_nil))) a_nil)))) (e_callD D_law_take hr (by rfl) (a_cons (e_var 0) (a_cons (e_int) a_nil))) (fun _ _ => rfl)))
    (ss_one (s_ret (e_tup (a_cons (e_var 2) (a_cons (e_var 3) (a_cons (e_op o_add (e_int) (e_callD D_law_take hr (by rfl) (a_cons (e_var 0) (a_cons (e_int) a_nil)))) a_nil)))))))))
    (fun ts G Q E h => ?run)
  case len => unfold sp_law_rules at h; split at h <;> first | rfl | exact h.elim
  case run =>
    unfold sp_law_rules at h
    split at h
    · rename_i b
      obtain ⟨hb, hQ⟩ := h
      have t0 := BT.start hb
      -- bottom
      refine ⟨⟨hb, by decide, by decide⟩, fun x1 G1 l1 u1 g1 => ?_⟩
      have t1 := t0.to g1
      -- shrink
      intro p hp
      have t2 := t1.new (o := .lst [.int 1, .int (2 + x1 - 1)]) hp
      refine ⟨⟨t2.bag, by decide, by decide⟩, fun x2 G3 l2 u2 g3 => ?_⟩
      have t3 := t2.to g3
      have e3 : G3 p = some (.lst [.int 1, .int (2 + x1 - 1)]) := (g3.ne (bag_new t1.bag hp).symm).trans gput_same
      have sel : ∃ m : Int, 0 < m ∧ m ≤ 2 + x1 - 1 ∧ ∃ n, ixN 2 x2 = some n ∧ ([.int 1, .int (2 + x1 - 1)] : List T)[n]? = some (.int m) := by
        obtain rfl | rfl : x2 = 0 ∨ x2 = 1 := by omega
        · exact ⟨1, by decide, by omega, 0, rfl, rfl⟩
        · exact ⟨2 + x1 - 1, by omega, by omega, 1, rfl, rfl⟩
      obtain ⟨m, m0, m1, n, hn, hm⟩ := sel
      refine ⟨_, n, _, e3, hn, hm, ⟨t3.bag, m0, by omega⟩, fun x4 G4 l4 u4 g4 => ?_⟩
      have t4 := t3.to g4
      have b0 : (0 : Int) < 2 + x1 := by omega
      have s0 : (0 : Int) < 2 + x1 - 1 - x4 := by omega
      refine ⟨⟨by omega, b0, Nat.lt_of_lt_of_le (show (2 + x1).natAbs < 2 ^ 5 by omega) (Nat.pow_le_pow_right (by decide) (by decide))⟩, ?_⟩
      obtain ⟨q1, q2, q3, q4, q5⟩ := low_le (Int.le_of_lt s0) b0
      have q6 := low_pos s0 b0
      have q7 := low_lt (Int.le_of_lt s0) b0 (by omega)
      -- wear
      refine ⟨⟨t4.bag, by decide, by decide⟩, fun x5 G5 l5 u5 g5 => ?_⟩
      have t5 := t4.to g5
      refine ⟨⟨t5.bag, by decide, by decide⟩, fun x6 G6 l6 u6 g6 => ?_⟩
      have t6 := t5.to g6
      refine ⟨⟨l5, by omega, Nat.lt_of_lt_of_le (show (1 + x6).natAbs < 2 ^ 5 by omega) (Nat.pow_le_pow_right (by decide) (by decide))⟩, ?_⟩
      obtain ⟨w1, w2, w3, w4, w5⟩ := low_le l5 (show 0 < 1 + x6 by omega)
      intro p2 hp2
      have t7 := t6.new (o := .lst [fr (0, 1), fr (1, 1), fr (low x5 (1 + x6))]) hp2
      refine ⟨⟨t7.bag, by decide, by decide⟩, fun x8 G8 l8 u8 g8 => ?_⟩
      have t8 := t7.to g8
      have e8 : G8 p2 = some (.lst [fr (0, 1), fr (1, 1), fr (low x5 (1 + x6))]) := (g8.ne (bag_new t6.bag hp2).symm).trans gput_same
      have sel : ∃ w : Int × Int, (0 ≤ w.1 ∧ w.1 ≤ 1000 ∧ 0 < w.2 ∧ w.2 ≤ 20 ∧ Int.gcd w.1 w.2 = 1) ∧ ∃ n, ixN 3 x8 = some n ∧ ([fr (0, 1), fr (1, 1), fr (low x5 (1 + x6))] : List T)[n]? = some (fr w) := by
        obtain rfl | rfl | rfl : x8 = 0 ∨ x8 = 1 ∨ x8 = 2 := by omega
        · exact ⟨(0, 1), ⟨by decide, by decide, by decide, by decide, rfl⟩, 0, rfl, rfl⟩
        · exact ⟨(1, 1), ⟨by decide, by decide, by decide, by decide, rfl⟩, 1, rfl, rfl⟩
        · exact ⟨_, ⟨w1, by omega, w3, by omega, w5⟩, 2, rfl, rfl⟩
      obtain ⟨w, ⟨v1, v2, v3, v4, v5⟩, n2, hn2, hw⟩ := sel
      refine ⟨_, n2, _, e8, hn2, hw, ⟨t8.bag, by decide, by decide⟩, fun x9 G9 l9 u9 g9 => ?_⟩
      have t9 := t8.to g9
      refine t9.ret fun G' g' => ?_
      exact hQ (low (2 + x1 - 1 - x4) (2 + x1), w, 1 + x9) G' ⟨q6, q7, by show (low (2 + x1 - 1 - x4) (2 + x1)).2 ≤ 20; omega, q5, v1, v2, v3, v4, v5, by show 1 ≤ 1 + x9; omega, by show 1 + x9 ≤ 6; omega⟩ g'
    · exact h.elim
abbrev s_law_size : Stmt := topS 13
abbrev N_law_size : List Str := ["bag", "top"]
theorem sc_law_size : FnScope N_law_size ["bag"] (defScope s_law_size) := ⟨rfl, rfl, rfl, by decide +kernel, rfl, by decide +kernel, by decide +kernel⟩
set_option maxHeartbeats 4000000 in
theorem ok_law_size {P : Program} {w : World} {K : PySem.W.Frag} {mg : Str → Option Value} {base : Heap} (F : FunAt K mg "_law_size" "_law_size" s_law_size ["bag"]) (TX : Txt K mg) (D_law_take : DefOk P w K mg base 1 "_law_take" ["bag", "many"] sp_law_take) (D_law_lowest : DefOk P w K mg base 1 "_law_lowest" ["top", "bottom"] sp_law_lowest) :
    DefOk P w K mg base 2 "_law_size" ["bag"] sp_law_size := by
  refine okd F sc_law_size (fun ts G Q E h => ?len) (fun f cdv A outer s H E hr => ss_cons (s_set (i := 1) sc_law_size.nd rfl (by first | exact Or.inl rfl | exact Or.inr rfl) (e_op o_add (e_int) (e_callD D_law_take hr (by rfl) (a_cons (e_var 0) (a_cons (e_ix i_ix (e_lst (a_cons (e_int) (a_cons (e_int) (a_cons (e_int) a_nil)))) (e_callD D_law_take hr (by rfl) (a_cons (e_var 0) (a_cons (e_int) a_nil))) (fun _ _ => rfl)) a_nil)))))
    (ss_one (s_ret (e_callD D_law_lowest hr (by rfl) (a_cons (e_var 1) (a_cons (e_op o_add (e_int) (e_callD D_law_take hr (by rfl) (a_cons (e_var 0) (a_cons (e_ix i_ix (e_lst (a_cons (e_int) (a_cons (e_int) (a_cons (e_int) a_nil)))) (e_callD D_law_take hr (by rfl) (a_cons (e_var 0) (a_cons (e_int) a_nil))) (fun _ _ => rfl)) a_nil)))) a_nil))))))
    (fun ts G Q E h => ?run)
  case len => unfold sp_law_size at h; split at h <;> first | rfl | exact h.elim
  case run =>
    unfold sp_law_size at h
    split at h
    · rename_i b
      obtain ⟨hb, hQ⟩ := h
      have t0 := BT.start hb
      intro p hp
      have t1 := t0.new (o := .lst [.int 30, .int 1000, .int 1000000]) hp
      refine ⟨⟨t1.bag, by decide, by decide⟩, fun x1 G1 l1 u1 g1 => ?_⟩
      have t2 := t1.to g1
      have e2 : G1 p = some (.lst [.int 30, .int 1000, .int 1000000]) := (g1.ne (bag_new t0.bag hp).symm).trans gput_same
      obtain ⟨m, hm, n, hn, hm2⟩ := pick3 (a := 30) (b := 1000) (c := 1000000) l1 u1
      refine ⟨_, n, _, e2, hn, hm2, ⟨t2.bag, by omega, by omega⟩, fun x3 G3 l3 u3 g3 => ?_⟩
      have t3 := t2.to g3
      intro p2 hp2
      have t4 := t3.new (o := .lst [.int 1, .int 12, .int 1000]) hp2
      refine ⟨⟨t4.bag, by decide, by decide⟩, fun x5 G5 l5 u5 g5 => ?_⟩
      have t5 := t4.to g5
      have e5 : G5 p2 = some (.lst [.int 1, .int 12, .int 1000]) := (g5.ne (bag_new t3.bag hp2).symm).trans gput_same
      obtain ⟨m', hm', n', hn', hm2'⟩ := pick3 (a := 1) (b := 12) (c := 1000) l5 u5
      refine ⟨_, n', _, e5, hn', hm2', ⟨t5.bag, by omega, by omega⟩, fun x6 G6 l6 u6 g6 => ?_⟩
      have t6 := t5.to g6
      refine ⟨⟨by omega, by omega, Nat.lt_of_lt_of_le (show (1 + x6).natAbs < 2 ^ 10 by omega) (Nat.pow_le_pow_right (by decide) (by decide))⟩, ?_⟩
      obtain ⟨q1, q2, q3, q4, q5⟩ := low_le (show 0 ≤ 1 + x3 by omega) (show 0 < 1 + x6 by omega)
      refine t6.ret fun G' g' => ?_
      exact hQ _ G' ⟨low_pos (by omega) (by omega), by omega, q3, by omega, q5⟩ g'
    · exact h.elim
abbrev s_law_line : Stmt := topS 14
abbrev N_law_line : List Str := ["bag", "rules", "mos1", "turn"]
theorem sc_law_line : FnScope N_law_line ["bag", "rules", "mos1"] (defScope s_law_line) := ⟨rfl, rfl, rfl, by decide +kernel, rfl, by decide +kernel, by decide +kernel⟩
set_option maxHeartbeats 4000000 in
theorem ok_law_line {P : Program} {w : World} {K : PySem.W.Frag} {mg : Str → Option Value} {base : Heap} (F : FunAt K mg "_law_line" "_law_line" s_law_line ["bag", "rules", "mos1"]) (TX : Txt K mg) (D_law_take : DefOk P w K mg base 1 "_law_take" ["bag", "many"] sp_law_take) :
    DefOk P w K mg base 2 "_law_line" ["bag", "rules", "mos1"] sp_law_line := by
  refine okd F sc_law_line (fun ts G Q E h => ?len) (fun f cdv A outer s H E hr => ss_one (s_ret (e_callTy b_tuple (by rfl) TX.n_tuple (by decide +kernel) (a_cons (e_lc (own := [("turn", 3)]) rfl sc_law_line.nd (i_rng1 (by rfl) TX.n_range (a_cons (e_callD D_law_take hr (by rfl) (a_cons (e_var 0) (a_cons (e_op o_add (e_var 2) (e_int)) a_nil))) a_nil)) (blkOk_by (N := N_law_line) (sc := defScope s_law_line) (own := [("turn", 3)]) (by decide +kernel)) (fun _ _ _ _ _ => g_name (i := 3) sc_law_line.nd rfl (by first | exact Or.inl rfl | exact Or.inr rfl)) (fun _ _ _ _ _ => ts_nil) (fun _ _ _ _ _ => e_callD D_law_take hr (by rfl) (a_cons (e_var 0) (a_cons (e_ix i_ixC (e_var 1) (e_int) (fun _ _ => rfl)) a_nil)))) a_nil))))
    (fun ts G Q E h => ?run)
  case len => obtain ⟨b, r, most, rfl, _⟩ := h; rfl
  case run =>
    obtain ⟨b, r, most, rfl, ⟨hb, r1, r2, m0, m1⟩, hQ⟩ := h
    have t0 := BT.start hb
    refine ⟨⟨hb, by omega, by omega⟩, fun x1 G1 l1 u1 g1 => ?_⟩
    have t1 := t0.to g1
    refine ⟨by omega, fun D hD => ⟨by rw [rngT_len]; omega, ?_⟩⟩
    refine ⟨fun i acc G' => ∃ l : List Int, acc = l.map T.int ∧ l.length = i ∧ (∀ n ∈ l, 0 ≤ n ∧ n < r.2.2) ∧ BT b G G' ∧ G' D = some (.lst acc),
      ⟨[], rfl, rfl, fun _ z => (by cases z), t1.new hD, gput_same⟩, ?_, ?_, ?_⟩
    · rintro i acc G' hi ⟨l, rfl, rfl, hl, t, e⟩
      exact ⟨trivial, e, by rw [List.length_map]; exact Nat.le_refl _⟩
    · rintro i t acc G' ht ⟨l, rfl, rfl, hl, tt, e⟩
      refine ⟨fun _ => ?_, fun z => by cases z⟩
      refine ⟨⟨tt.bag, by omega, by omega⟩, fun x G2 l2 u2 g2 => ?_⟩
      have hne : D ≠ b := (bag_new t1.bag hD).symm
      have e2 : G2 D = some (.lst (l.map T.int)) := by rw [g2.ne hne]; exact e
      refine ⟨e2, _, Sub.refl _, l ++ [x], by simp, by simp, ?_, ?_, gput_same⟩
      · intro n hn
        rcases List.mem_append.mp hn with z | z
        · exact hl n z
        · rw [List.mem_singleton.mp z]; exact ⟨l2, u2⟩
      · have t2 := tt.to g2
        obtain ⟨c1, c2, ok, s⟩ := t2
        refine ⟨c1, c2, ok, s.mut ?_⟩
        rw [gput_ne hne]
        have := t0.to g1
        obtain ⟨d1, d2, _, s1⟩ := t1
        have z := s1.free hD
        rw [gput_ne hne] at z
        exact z
    · rintro acc G' ⟨l, rfl, hl1, hl, t, e⟩
      rw [rngT_len] at hl1
      refine ⟨_, e, ?_⟩
      exact t.ret fun G'' g'' => hQ l G'' hl (by omega) g''
abbrev s_law_sized : Stmt := topS 15
abbrev N_law_sized : List Str := ["rules", "size", "line", "shrink", "wear", "life", "many", "top", "bottom", "turn", "at", "number", "more", "under"]
theorem sc_law_sized : FnScope N_law_sized ["rules", "size", "line"] (defScope s_law_sized) := ⟨rfl, rfl, rfl, by decide +kernel, rfl, by decide +kernel, by decide +kernel⟩
set_option maxHeartbeats 4000000 in
theorem ok_law_sized {P : Program} {w : World} {K : PySem.W.Frag} {mg : Str → Option Value} {base : Heap} (F : FunAt K mg "_law_sized" "_law_sized" s_law_sized ["rules", "size", "line"]) (TX : Txt K mg) (D_law_lowest : DefOk P w K mg base 1 "_law_lowest" ["top", "bottom"] sp_law_lowest) :
    DefOk P w K mg base 2 "_law_sized" ["rules", "size", "line"] sp_law_sized := by
  refine okd F sc_law_sized (fun ts G Q E h => ?len) (fun f cdv A outer s H E hr => ss_cons (s_asg (own := [3, 4, 5]) (e_var 0) (g_tup (n := 3) rfl (gs_cons (g_name (i := 3) sc_law_sized.nd rfl (by first | exact Or.inl rfl | exact Or.inr rfl)) (gs_cons (g_name (i := 4) sc_law_sized.nd rfl (by first | exact Or.inl rfl | exact Or.inr rfl)) (gs_cons (g_name (i := 5) sc_law_sized.nd rfl (by first | exact Or.inl rfl | exact Or.inr rfl)) (gs_nil))))))
    (ss_cons (s_set (i := 6) sc_law_sized.nd rfl (by first | exact Or.inl rfl | exact Or.inr rfl) (e_callB b_len (by rfl) TX.n_len (by decide +kernel) (a_cons (e_var 2) a_nil)))
    (ss_cons (s_par (i := 7) (j := 8) rfl sc_law_sized.nd rfl rfl  (by decide)  rfl rfl  (a_cons (e_ix i_ixC (e_var 1) (e_int) (fun _ _ => rfl)) (a_cons (e_ix i_ixC (e_var 1) (e_int) (fun _ _ => rfl)) a_nil)) rfl)
    (ss_cons (s_for (own := [9]) PassesOwn.never rfl (i_rng1 (by rfl) TX.n_range (a_cons (e_var 6) a_nil)) (g_name (i := 9) sc_law_sized.nd rfl (by first | exact Or.inl rfl | exact Or.inr rfl)) (ss_one (s_par (i := 7) (j := 8) rfl sc_law_sized.nd rfl rfl  (by decide)  rfl rfl  (a_cons (e_op o_mul (e_var 7) (e_ix i_ixC (e_var 3) (e_int) (fun _ _ => rfl))) (a_cons (e_op o_mul (e_var 8) (e_ix i_ixC (e_var 3) (e_int) (fun _ _ => rfl))) a_nil)) rfl)))
    (ss_cons (s_for (own := [10, 11]) PassesOwn.never rfl (i_enum (by rfl) TX.n_enumerate (a_cons (e_var 2) a_nil)) (g_tup (n := 2) rfl (gs_cons (g_name (i := 10) sc_law_sized.nd rfl (by first | exact Or.inl rfl | exact Or.inr rfl)) (gs_cons (g_name (i := 11) sc_law_sized.nd rfl (by first | exact Or.inl rfl | exact Or.inr rfl)) (gs_nil)))) (ss_cons (s_par (i := 12) (j := 13) rfl sc_law_sized.nd rfl rfl  (by decide)  rfl rfl  (a_cons (e_op o_mul (e_var 11) (e_ix i_ixC (e_var 4) (e_int) (fun _ _ => rfl))) (a_cons (e_ix i_ixC (e_var 4) (e_int) (fun _ _ => rfl)) a_nil)) rfl)
    (ss_cons (s_for (own := [9]) PassesOwn.never rfl (i_rng1 (by rfl) TX.n_range (a_cons (e_op o_sub (e_var 6) (e_var 10)) a_nil)) (g_name (i := 9) sc_law_sized.nd rfl (by first | exact Or.inl rfl | exact Or.inr rfl)) (ss_one (s_par (i := 12) (j := 13) rfl sc_law_sized.nd rfl rfl  (by decide)  rfl rfl  (a_cons (e_op o_mul (e_var 12) (e_ix i_ixC (e_var 3) (e_int) (fun _ _ => rfl))) (a_cons (e_op o_mul (e_var 13) (e_ix i_ixC (e_var 3) (e_int) (fun _ _ => rfl))) a_nil)) rfl)))
    (ss_one (s_par (i := 7) (j := 8) rfl sc_law_sized.nd rfl rfl  (by decide)  rfl rfl  (a_cons (e_op o_add (e_op o_mul (e_var 7) (e_var 13)) (e_op o_mul (e_var 12) (e_var 8))) (a_cons (e_op o_mul (e_var 8) (e_var 13)) a_nil)) rfl)))))
    (ss_one (s_ret (e_callD D_law_lowest hr (by rfl) (a_cons (e_var 7) (a_cons (e_var 8) a_nil))))))))))
    (fun ts G Q E h => ?run)
  case len => obtain ⟨r, s, n, rfl, _⟩ := h; rfl
  case run =>
    obtain ⟨r, s, line, rfl, hr, hs, hk, hl, hQ⟩ := h
    have s0 : 0 ≤ r.1.1 ∧ r.1.1 ≤ 20 := by have := hr.s0; have := hr.s1; have := hr.s2; omega
    have s1 : 0 < r.1.2 ∧ r.1.2 ≤ 20 := by have := hr.s0; have := hr.s1; have := hr.s2; omega
    have w1 : r.2.1.1.natAbs < 2 ^ 10 := by have := hr.w0; have := hr.w1; have : (2 : Nat) ^ 10 = 1024 := rfl; omega
    have w2 : r.2.1.2.natAbs < 2 ^ 5 := by have := hr.w2; have := hr.w3; have : (2 : Nat) ^ 5 = 32 := rfl; omega
    have h1 : r.1.1.natAbs < 2 ^ 5 := by have : (2 : Nat) ^ 5 = 32 := rfl; omega
    have h2 : r.1.2.natAbs < 2 ^ 5 := by have : (2 : Nat) ^ 5 = 32 := rfl; omega
    have hM : (line.map T.int).length = line.length := List.length_map _
    have el : (rngT (((line.map T.int).length : Nat) : Int).toNat).length = line.length := by rw [rngT_len, Int.toNat_natCast, hM]
    refine ⟨by omega, ?_⟩
    have fb0 : Fb 20 s := ⟨Int.le_of_lt hs.t0, hs.b0, by have := hs.t0; have := hs.t1; have : (2 : Nat) ^ 20 = 1048576 := rfl; omega, by have := hs.b0; have := hs.b1; have : (2 : Nat) ^ 20 = 1048576 := rfl; omega⟩
    -- the first size shrunk as often as there are numbers
    refine ⟨fun i ρ G' => ρ = [some (ruT r), some (fr s), some (lnT line), some (fr r.1), some (fr r.2.1), some (.int r.2.2), some (.int ((line.map T.int).length : Nat)), some (.int (s.1 * r.1.1 ^ i)), some (.int (s.2 * r.1.2 ^ i)), none, none, none, none, none] ∧ G' = G ∧
        Fb (20 + 5 * i) (s.1 * r.1.1 ^ i, s.2 * r.1.2 ^ i), ⟨by simp only [Int.pow_zero, Int.mul_one] <;> rfl, rfl, by simpa using fb0⟩, fun _ _ _ _ _ => trivial, ?_, ?_⟩
    · rintro i t ρ G' ht ⟨rfl, rfl, fb⟩
      obtain ⟨hi, rfl⟩ := rngT_at ht
      refine ⟨mulOk _ _ fb.t1 h1 (by omega), mulOk _ _ fb.b1 h2 (by omega), ?_⟩
      refine ⟨_, _, .keep _ (.keep _ (.keep _ (.keep _ (.keep _ (.keep _ (.keep _ (.keep _ (.keep _ (.drop _ (.keep _ (.keep _ (.keep _ (.keep _ .nil))))))))))))), Sub.refl _, ?_, rfl, ?_⟩
      · rw [Int.pow_succ, Int.pow_succ, ← Int.mul_assoc, ← Int.mul_assoc]
      · rw [Int.pow_succ, Int.pow_succ, ← Int.mul_assoc, ← Int.mul_assoc]
        exact ⟨Int.mul_nonneg fb.t0 s0.1, Int.mul_pos fb.b0 s1.1, by have := mul_lt_pow fb.t1 h1; rw [show 20 + 5 * (i + 1) = 20 + 5 * i + 5 by omega]; exact this, by have := mul_lt_pow fb.b1 h2; rw [show 20 + 5 * (i + 1) = 20 + 5 * i + 5 by omega]; exact this⟩
    intro ρ G' hI
    obtain ⟨eρ, eG, fb⟩ := hI
    rw [el] at eρ fb
    subst eρ eG
    -- the sum
    refine ⟨fun i ρ G2 => ∃ t b : Int, ρ = [some (ruT r), some (fr s), some (lnT line), some (fr r.1), some (fr r.2.1), some (.int r.2.2), some (.int ((line.map T.int).length : Nat)), some (.int t), some (.int b), none, none, none, none, none] ∧ G2 = G' ∧
        Fb (20 + 5 * line.length + i * (5 * line.length + 14)) (t, b) ∧ t * (((line.take i).foldl (cast r) s).2 * r.1.2 ^ (line.length - i)) = (((line.take i).foldl (cast r) s).1 * r.1.1 ^ (line.length - i)) * b ∧ Fb (20 + 19 * i) ((line.take i).foldl (cast r) s),
        ⟨_, _, rfl, rfl, by simpa using fb, by simp only [List.take_zero, List.foldl_nil, Nat.sub_zero] <;> grind, by simpa using fb0⟩, fun _ _ _ _ _ => trivial, ?_, ?_⟩
    · rintro i t ρ G2 ht ⟨t, b, rfl, rfl, fb, hx, fv⟩
      obtain ⟨u, hu, rfl⟩ := enumT_get ht
      obtain ⟨n, hn, rfl⟩ := map_at hu
      have hi := (List.getElem?_eq_some_iff.mp hn).1
      obtain ⟨n0, n1⟩ := hl n (List.mem_of_getElem? hn)
      have n3 : n.natAbs < 2 ^ 3 := by have : (2 : Nat) ^ 3 = 8 := rfl; omega
      have nw := mul_lt_pow n3 w1
      have nw0 : 0 ≤ n * r.2.1.1 := Int.mul_nonneg n0 hr.w0
      refine ⟨mulOk _ _ n3 w1 (by decide), ?_⟩
      refine ⟨by omega, ?_⟩
      have ej : (rngT ((((line.map T.int).length : Nat) : Int) - (i : Int)).toNat).length = line.length - i := by rw [rngT_len]; omega
      refine ⟨fun j ρ G3 => ρ = [some (ruT r), some (fr s), some (lnT line), some (fr r.1), some (fr r.2.1), some (.int r.2.2), some (.int ((line.map T.int).length : Nat)), some (.int t), some (.int b), none, some (.int i), some (.int n), some (.int (n * r.2.1.1 * r.1.1 ^ j)), some (.int (r.2.1.2 * r.1.2 ^ j))] ∧ G3 = G2 ∧
        0 ≤ n * r.2.1.1 * r.1.1 ^ j ∧ 0 < r.2.1.2 * r.1.2 ^ j ∧ (n * r.2.1.1 * r.1.1 ^ j).natAbs < 2 ^ (13 + 5 * j) ∧ (r.2.1.2 * r.1.2 ^ j).natAbs < 2 ^ (5 + 5 * j), ?_, fun _ _ _ _ _ => trivial, ?_, ?_⟩
      · refine ⟨by simp only [Int.pow_zero, Int.mul_one] <;> rfl, rfl, by simpa using nw0, by simpa using hr.w2, by simpa using nw, by simpa using w2⟩
      · rintro j t2 ρ G3 ht2 ⟨rfl, rfl, p1, p2, p3, p4⟩
        obtain ⟨hj, rfl⟩ := rngT_at ht2
        refine ⟨mulOk _ _ p3 h1 (by omega), mulOk _ _ p4 h2 (by omega), ?_⟩
        refine ⟨_, _, .keep _ (.keep _ (.keep _ (.keep _ (.keep _ (.keep _ (.keep _ (.keep _ (.keep _ (.drop _ (.keep _ (.keep _ (.keep _ (.keep _ .nil))))))))))))), Sub.refl _, ?_, rfl, ?_⟩
        · rw [Int.pow_succ, Int.pow_succ, ← Int.mul_assoc, ← Int.mul_assoc]
        · rw [Int.pow_succ, Int.pow_succ, ← Int.mul_assoc, ← Int.mul_assoc]
          exact ⟨Int.mul_nonneg p1 s0.1, Int.mul_pos p2 s1.1, by have := mul_lt_pow p3 h1; rw [show 13 + 5 * (j + 1) = 13 + 5 * j + 5 by omega]; exact this, by have := mul_lt_pow p4 h2; rw [show 5 + 5 * (j + 1) = 5 + 5 * j + 5 by omega]; exact this⟩
      · intro ρ G3 hI
        obtain ⟨eρ, eG, p1, p2, p3, p4⟩ := hI
        rw [ej] at eρ p1 p2 p3 p4
        subst eρ eG
        obtain ⟨m, hm⟩ : ∃ m, line.length - i = m + 1 := ⟨line.length - i - 1, by omega⟩
        have hm2 : line.length - (i + 1) = m := by omega
        have a1 := mul_lt_pow fb.t1 p4
        have a2 := mul_lt_pow p3 fb.b1
        have a3 := mul_lt_pow fb.b1 p4
        have kb : i * (5 * line.length + 14) ≤ 40 * (5 * line.length + 14) := Nat.mul_le_mul_right _ (by omega)
        refine ⟨mulOk _ _ fb.t1 p4 (by omega), mulOk _ _ p3 fb.b1 (by omega), mulOk _ _ fb.b1 p4 (by omega), ?_⟩
        refine ⟨_, _, .keep _ (.keep _ (.keep _ (.keep _ (.keep _ (.keep _ (.keep _ (.keep _ (.keep _ (.keep _ (.drop _ (.drop _ (.drop _ (.drop _ .nil))))))))))))), Sub.refl _, ?_⟩
        refine ⟨_, _, rfl, rfl, ?_, ?_, ?_⟩
        · have q0 : 0 ≤ t * (r.2.1.2 * r.1.2 ^ (line.length - i)) := Int.mul_nonneg fb.t0 (Int.le_of_lt p2)
          have q1 : 0 ≤ n * r.2.1.1 * r.1.1 ^ (line.length - i) * b := Int.mul_nonneg p1 (Int.le_of_lt fb.b0)
          have k1 : (i + 1) * (5 * line.length + 14) = i * (5 * line.length + 14) + (5 * line.length + 14) := Nat.succ_mul _ _
          refine ⟨Int.add_nonneg q0 q1, Int.mul_pos fb.b0 p2, ?_, ?_⟩
          · have z1 : (t * (r.2.1.2 * r.1.2 ^ (line.length - i))).natAbs < _ := Nat.lt_of_lt_of_le a1 (Nat.pow_le_pow_right (by decide : 0 < 2) (show _ ≤ 20 + 5 * line.length + i * (5 * line.length + 14) + (5 * line.length + 13) by omega))
            have z2 : (n * r.2.1.1 * r.1.1 ^ (line.length - i) * b).natAbs < _ := Nat.lt_of_lt_of_le a2 (Nat.pow_le_pow_right (by decide : 0 < 2) (show _ ≤ 20 + 5 * line.length + i * (5 * line.length + 14) + (5 * line.length + 13) by omega))
            have z3 : 2 ^ (20 + 5 * line.length + (i + 1) * (5 * line.length + 14)) = 2 ^ (20 + 5 * line.length + i * (5 * line.length + 14) + (5 * line.length + 13)) * 2 := by
              rw [k1, ← Nat.pow_succ]
              congr 1
              omega
            show (t * (r.2.1.2 * r.1.2 ^ (line.length - i)) + n * r.2.1.1 * r.1.1 ^ (line.length - i) * b).natAbs < _
            omega
          · exact Nat.lt_of_lt_of_le a3 (Nat.pow_le_pow_right (by decide) (by omega))
        · rw [foldl_take _ _ hn, hm2, hm]
          rw [hm] at hx
          exact sum_step fv.b0 hr.w2 s1.1 hx
        · rw [foldl_take _ _ hn]
          exact (cast_b hr fv n0 n1).mono (by omega)
    · intro ρ G2 hI
      obtain ⟨t, b, eρ, eG, fb, hx, fv⟩ := hI
      rw [enumT_len, hM] at fb hx fv
      subst eρ eG
      rw [Nat.sub_self, Int.pow_zero, Int.pow_zero, Int.mul_one, Int.mul_one, List.take_length] at hx
      rw [List.take_length] at fv
      have kb : line.length * (5 * line.length + 14) ≤ 40 * 214 := Nat.mul_le_mul hk (by omega)
      refine ⟨⟨fb.t0, fb.b0, Nat.lt_of_lt_of_le fb.b1 (Nat.pow_le_pow_right (by decide) (by omega))⟩, ?_⟩
      have e : low t b = line.foldl (cast r) s := by
        rw [low_eq fb.t0 fv.t0 fb.b0 fv.b0 hx, low_red]
        -- the piece's size is in lowest terms
        rcases List.eq_nil_or_concat line with z | ⟨l', n, z⟩
        · subst z; exact hs.g
        · rw [List.concat_eq_append] at z
          subst z
          rw [List.foldl_append]
          have hb := fv.b0
          rw [List.foldl_append] at hb
          obtain ⟨c1, c2⟩ := hl n (by simp)
          have fv' : ∀ l : List Int, (∀ n ∈ l, 0 ≤ n ∧ n ≤ 5) → Fb (20 + 19 * l.length) (l.foldl (cast r) s) := by
            intro l
            have : ∀ (l : List Int) (k : Nat) (v : Int × Int), Fb k v → (∀ n ∈ l, 0 ≤ n ∧ n ≤ 5) → Fb (k + 19 * l.length) (l.foldl (cast r) v) := by
              intro l
              induction l with
              | nil => intro k v h _; exact h
              | cons a l ih =>
                intro k v h hl
                have := ih (k + 19) (cast r v a) (cast_b hr h (hl a (by simp)).1 (hl a (by simp)).2) fun n hn => hl n (by simp [hn])
                rw [List.length_cons, show k + 19 * (l.length + 1) = k + 19 + 19 * l.length by omega]
                exact this
            exact this l 20 s fb0
          have fl := fv' l' fun n hn => hl n (by simp [hn])
          have cb := castB hr fl c1 c2
          exact (low_le cb.t0 cb.b0).2.2.2.2
      rw [e]
      exact Ret.of hQ
abbrev s_law_less : Stmt := topS 16
abbrev N_law_less : List Str := ["one", "other"]
theorem sc_law_less : FnScope N_law_less ["one", "other"] (defScope s_law_less) := ⟨rfl, rfl, rfl, by decide +kernel, rfl, by decide +kernel, by decide +kernel⟩
set_option maxHeartbeats 4000000 in
theorem ok_law_less {P : Program} {w : World} {K : PySem.W.Frag} {mg : Str → Option Value} {base : Heap} (F : FunAt K mg "_law_less" "_law_less" s_law_less ["one", "other"]) (TX : Txt K mg)  :
    DefOk P w K mg base 1 "_law_less" ["one", "other"] sp_law_less := by
  refine okd F sc_law_less (fun ts G Q E h => ?len) (fun f cdv A outer s H E hr => ss_one (s_ret (e_cmp (o_lt2 (un66 hr)) (e_op o_mul (e_ix i_ixC (e_var 0) (e_int) (fun _ _ => rfl)) (e_ix i_ixC (e_var 1) (e_int) (fun _ _ => rfl))) (e_op o_mul (e_ix i_ixC (e_var 1) (e_int) (fun _ _ => rfl)) (e_ix i_ixC (e_var 0) (e_int) (fun _ _ => rfl))) (nomark _))))
    (fun ts G Q E h => ?run)
  case len => obtain ⟨p, q, k, rfl, _⟩ := h; rfl
  case run =>
    obtain ⟨p, q, k, rfl, h1, h2, h3, h4, hk, hQ⟩ := h
    exact ⟨mulOk _ _ h1 h4 (by omega), mulOk _ _ h3 h2 (by omega), Ret.of hQ⟩
abbrev s_law_few_lines : Stmt := topS 17
abbrev N_law_few_lines : List Str := ["life", "mos1", "found", "left", "line", "spare", "number"]
theorem sc_law_few_lines : FnScope N_law_few_lines ["life", "mos1"] (defScope s_law_few_lines) := ⟨rfl, rfl, rfl, by decide +kernel, rfl, by decide +kernel, by decide +kernel⟩
set_option maxHeartbeats 4000000 in
theorem ok_law_few_lines {P : Program} {w : World} {K : PySem.W.Frag} {mg : Str → Option Value} {base : Heap} (F : FunAt K mg "_law_few_lines" "_law_few_lines" s_law_few_lines ["life", "mos1"]) (TX : Txt K mg)  :
    DefOk P w K mg base 1 "_law_few_lines" ["life", "mos1"] sp_law_few_lines := by
  refine okd F sc_law_few_lines (fun ts G Q E h => ?len) (fun f cdv A outer s H E hr => ss_cons (s_set (i := 2) sc_law_few_lines.nd rfl (by first | exact Or.inl rfl | exact Or.inr rfl) (e_lst (a_nil)))
    (ss_cons (s_set (i := 3) sc_law_few_lines.nd rfl (by first | exact Or.inl rfl | exact Or.inr rfl) (e_lst (a_cons (e_tup (a_cons (e_tup (a_nil)) (a_cons (e_var 1) a_nil))) a_nil)))
    (ss_cons (s_while PassesOwn.never (t_cmp (o_neL hr.units) (e_var 3) (e_lst (a_nil)) (nomark _)) (ss_cons (s_asg (own := [4, 5]) (e_bm0 PySem.F.plainAttrs_list PySem.F.slot_list_pop PySem.F.type_list_pop m_pop (e_var 3)) (g_tup (n := 2) rfl (gs_cons (g_name (i := 4) sc_law_few_lines.nd rfl (by first | exact Or.inl rfl | exact Or.inr rfl)) (gs_cons (g_name (i := 5) sc_law_few_lines.nd rfl (by first | exact Or.inl rfl | exact Or.inr rfl)) (gs_nil)))))
    (ss_cons (s_expr (e_bm PySem.F.plainAttrs_list PySem.F.slot_list_append PySem.F.type_list_append m_append (e_var 2) (a_cons (e_var 4) a_nil)))
    (ss_one (s_for (own := [6]) PassesOwn.never rfl (i_rng1 (by rfl) TX.n_range (a_cons (e_callB (b_min2 rfl) (by rfl) TX.n_min (by decide +kernel) (a_cons (e_var 0) (a_cons (e_var 5) a_nil))) a_nil)) (g_name (i := 6) sc_law_few_lines.nd rfl (by first | exact Or.inl rfl | exact Or.inr rfl)) (ss_one (s_expr (e_bm PySem.F.plainAttrs_list PySem.F.slot_list_append PySem.F.type_list_append m_append (e_var 3) (a_cons (e_tup (a_cons (e_op o_add (e_var 4) (e_tup (a_cons (e_var 6) a_nil))) (a_cons (e_op o_sub (e_op o_sub (e_var 5) (e_var 6)) (e_int)) a_nil))) a_nil)))))))))
    (ss_one (s_ret (e_var 2))))))
    (fun ts G Q E h => ?run)
  case len => obtain ⟨r, m, rfl, _⟩ := h; rfl
  case run =>
    obtain ⟨life, most, rfl, l0, l1, m0, m7, hQ⟩ := h
    intro p1 hp1
    have s1 := (Sub.refl G).new (o := .lst []) hp1
    intro p2 hp2
    have hp2G : G p2 = none := (gput_none hp2).2
    have hp1G : G p1 = none := hp1
    have n12 : p1 ≠ p2 := gne gput_same hp2
    have s2 := s1.new (o := .lst [spT most []]) hp2
    have e0 : most - wt [] = most := by unfold wt; simp
    refine ⟨fun m ρ G' => ∃ F S, ρ = [some (.int life), some (.int most), some (.ref p1), some (.ref p2), none, none, none] ∧ WkI life most (F ++ S) S ∧ Sub G G' ∧ G' p1 = some (.lst (F.map lnT)) ∧ G' p2 = some (.lst (S.map (spT most))) ∧ m = mass most S ∧ mass most S ≤ 128, ⟨_, [], [[]], rfl, WkI.start m0, ?_, ?_, ?_, rfl, ?_⟩, ?_⟩
    · have := s2
      unfold spT at this
      rw [e0] at this
      exact this
    · exact (gput_ne n12).trans gput_same
    · rw [gput_same]
      show _ = some (GO.lst [spT most []])
      unfold spT
      rw [e0]
      rfl
    · have e : 2 ^ rst most [] ≤ 2 ^ 7 := Nat.pow_le_pow_right (by decide) (by unfold rst; omega)
      have : (2 : Nat) ^ 7 = 128 := rfl
      unfold mass
      simp only [List.map_cons, List.map_nil, List.sum_cons, List.sum_nil]
      omega
    rintro m ρ G' ⟨F, S, rfl, hW, sG, h1, h2, rfl, hms⟩
    intro p3 hp3
    have s3 := (Sub.refl G').new (o := .lst []) hp3
    have ne : (true != teqs (S.map (spT most)) []) = !S.isEmpty := by cases S <;> rfl
    refine ⟨_, _, s3 _ _ h2, gput_same, fun z => ?_, ?_⟩
    · have z0 : S = [] := by cases S with
        | nil => rfl
        | cons a r => cases z
      subst z0
      exact ⟨rfl, rfl⟩
    rw [ne]
    replace h1 := s3 _ _ h1
    replace h2 := s3 _ _ h2
    replace sG := sG.trans s3
    generalize gput G' p3 (.lst []) = G1 at sG h1 h2 ⊢
    clear s3 hp3 ne
    refine ⟨fun c => ?_, fun c => ?_⟩
    · have hne : S ≠ [] := fun z => by subst z; cases c
      obtain ⟨S', l, rfl⟩ : ∃ S' l, S = S' ++ [l] := ⟨S.dropLast, S.getLast hne, (List.dropLast_concat_getLast hne).symm⟩
      have hv := hW.f l (hW.s l (by simp))
      have hw := hv.w
      have hlen := hv.len
      rw [List.map_append] at h2
      refine ⟨⟨_, h2⟩, _, _, h2, ?_⟩
      have h1' : gput G1 p2 (.lst (S'.map (spT most))) p1 = some (.lst (F.map lnT)) := (gput_ne n12).trans h1
      have h2' : gput G1 p2 (.lst (S'.map (spT most))) p2 = some (.lst (S'.map (spT most))) := gput_same
      have sG' : Sub G (gput G1 p2 (.lst (S'.map (spT most)))) := sG.mut hp2G
      generalize gput G1 p2 (.lst (S'.map (spT most))) = G2 at sG' h1' h2' ⊢
      obtain ⟨k, hk⟩ : ∃ k : Nat, (k : Int) = min life (most - wt l) := ⟨(min life (most - wt l)).toNat, by omega⟩
      have ek : (if most - wt l < life then most - wt l else life) = (k : Int) := by rw [hk]; split <;> omega
      have hkr : k ≤ rst most l := by unfold rst; omega
      have hfew := hW.few m7
      rw [List.length_append] at hfew
      have hfs : WkI life most ((F ++ [l]) ++ (S' ++ kids l k)) (S' ++ kids l k) := (hW.step hk).congr (fun m => by simp only [List.mem_append, List.mem_singleton, or_assoc]; grind) (by simp only [List.length_append, List.length_singleton]; omega) (fun _ => Iff.rfl) rfl
      have hm0 := load_mass (most := most) (S' ++ [l])
      rw [List.length_append] at hm0
      have hlen2 : S'.length ≤ 128 := by omega
      refine ⟨⟨_, h1'⟩, _, h1', by rw [List.length_map]; omega, ?_⟩
      have g2 := (gput_ne (G := G2) (o := .lst (F.map lnT ++ [lnT l])) n12.symm).trans h2'
      have g1 : gput G2 p1 (.lst (F.map lnT ++ [lnT l])) p1 = some (.lst ((F ++ [l]).map lnT)) := by rw [gput_same]; simp
      have sG2 : Sub G (gput G2 p1 (.lst (F.map lnT ++ [lnT l]))) := sG'.mut hp1G
      generalize gput G2 p1 (.lst (F.map lnT ++ [lnT l])) = G3 at sG2 g1 g2 ⊢
      refine ⟨by rw [ek]; omega, ?_⟩
      rw [ek]
      refine ⟨fun j ρ G' => ρ = [some (.int life), some (.int most), some (.ref p1), some (.ref p2), some (lnT l), some (.int (most - wt l)), none] ∧ Sub G G' ∧ G' p1 = some (.lst ((F ++ [l]).map lnT)) ∧ G' p2 = some (.lst ((S' ++ kids l j).map (spT most))), ⟨rfl, sG2, g1, ?_⟩, fun _ _ _ _ _ => trivial, ?_, ?_⟩
      · unfold kids; simpa using g2
      · rintro j t ρ G4 ht ⟨rfl, sG3, f1, f2⟩
        obtain ⟨hj, rfl⟩ := rngT_at ht
        have hj : j < k := by omega
        have hkl : ∀ j, (kids l j).length = j := fun j => by unfold kids; simp
        refine ⟨⟨_, f2⟩, by rw [List.length_map]; show l.length + 1 ≤ 100000; omega, _, f2, by rw [List.length_map, List.length_append, hkl]; omega, ?_⟩
        refine ⟨_, _, .keep _ (.keep _ (.keep _ (.keep _ (.keep _ (.keep _ (.drop _ .nil)))))), Sub.refl _, rfl, sG3.mut hp2G, ?_, ?_⟩
        · rw [gput_ne n12]; exact f1
        · rw [gput_same, kids_snoc, ← List.append_assoc, List.map_append (l₁ := S' ++ kids l j)]
          have : most - wt (l ++ [(j : Int)]) = most - wt l - j - 1 := by rw [wt_snoc]; omega
          simp [spT, this]
      · rintro ρ G4 ⟨rfl, sG3, f1, f2⟩
        rw [rngT_len] at f2
        have ekn : ((k : Int)).toNat = k := by omega
        rw [ekn] at f2
        refine ⟨_, _, .keep _ (.keep _ (.keep _ (.keep _ (.drop _ (.drop _ (.drop _ .nil)))))), Sub.refl _, mass most (S' ++ kids l k), ?_, F ++ [l], S' ++ kids l k, rfl, hfs, sG3, f1, f2, rfl, ?_⟩
        all_goals
          rw [mass_app] at hms
          rw [mass_app]
          try rw [mass_app]
          have := kids_lt hkr hw
          have : mass most [l] = 2 ^ rst most l := by unfold mass; simp
          omega
    · have hS : S = [] := by cases S with
        | nil => rfl
        | cons a r => cases c
      subst hS
      rw [List.append_nil] at hW
      exact Ret.of (hQ F p1 _ hW.all (hW.few m7) sG h1)
abbrev s_law_wanted : Stmt := topS 18
abbrev N_law_wanted : List Str := ["lines", "total", "begins", "line", "begin", "many", "at"]
theorem sc_law_wanted : FnScope N_law_wanted ["lines"] (defScope s_law_wanted) := ⟨rfl, rfl, rfl, by decide +kernel, rfl, by decide +kernel, by decide +kernel⟩
set_option maxHeartbeats 4000000 in
theorem ok_law_wanted {P : Program} {w : World} {K : PySem.W.Frag} {mg : Str → Option Value} {base : Heap} (F : FunAt K mg "_law_wanted" "_law_wanted" s_law_wanted ["lines"]) (TX : Txt K mg)  :
    DefOk P w K mg base 1 "_law_wanted" ["lines"] sp_law_wanted := by
  refine okd F sc_law_wanted (fun ts G Q E h => ?len) (fun f cdv A outer s H E hr => ss_cons (s_set (i := 1) sc_law_wanted.nd rfl (by first | exact Or.inl rfl | exact Or.inr rfl) (e_int))
    (ss_cons (s_set (i := 2) sc_law_wanted.nd rfl (by first | exact Or.inl rfl | exact Or.inr rfl) (e_lst (a_nil)))
    (ss_cons (s_for (own := [3]) PassesOwn.never rfl (i_seq (e_var 0)) (g_name (i := 3) sc_law_wanted.nd rfl (by first | exact Or.inl rfl | exact Or.inr rfl)) (ss_one (s_set (i := 2) sc_law_wanted.nd rfl (by first | exact Or.inl rfl | exact Or.inr rfl) (e_op o_add (e_var 2) (e_lc (own := [("at", 6)]) rfl sc_law_wanted.nd (i_rng1 (by rfl) TX.n_range (a_cons (e_callB b_len (by rfl) TX.n_len (by decide +kernel) (a_cons (e_var 3) a_nil)) a_nil)) (blkOk_by (N := N_law_wanted) (sc := defScope s_law_wanted) (own := [("at", 6)]) (by decide +kernel)) (fun _ _ _ _ _ => g_name (i := 6) sc_law_wanted.nd rfl (by first | exact Or.inl rfl | exact Or.inr rfl)) (fun _ _ _ _ _ => ts_nil) (fun _ _ _ _ _ => e_slice sl_seq (e_var 3) (o_none) (o_some (e_var 6))))))))
    (ss_cons (s_for (own := [4]) PassesOwn.never rfl (i_seq (e_sortSetT (un70 hr) rfl (by rfl) TX.n_sorted (by rfl) TX.n_set (e_var 2))) (g_name (i := 4) sc_law_wanted.nd rfl (by first | exact Or.inl rfl | exact Or.inr rfl)) (ss_cons (s_set (i := 5) sc_law_wanted.nd rfl (by first | exact Or.inl rfl | exact Or.inr rfl) (e_callB b_len (by rfl) TX.n_len (by decide +kernel) (a_cons (e_var 4) a_nil)))
    (ss_one (s_set (i := 1) sc_law_wanted.nd rfl (by first | exact Or.inl rfl | exact Or.inr rfl) (e_op o_add (e_op o_add (e_var 1) (e_int)) (e_callB (b_max1 rfl) (by rfl) TX.n_max (by decide +kernel) (a_cons (e_lc (own := [("line", 3)]) rfl sc_law_wanted.nd (i_seq (e_var 0)) (blkOk_by (N := N_law_wanted) (sc := defScope s_law_wanted) (own := [("line", 3)]) (by decide +kernel)) (fun _ _ _ _ _ => g_name (i := 3) sc_law_wanted.nd rfl (by first | exact Or.inl rfl | exact Or.inr rfl)) (fun _ _ _ _ _ => ts_one (PW.pt (w_and (t_cmp o_gt (e_callB b_len (by rfl) TX.n_len (by decide +kernel) (a_cons (e_var 3) a_nil)) (e_var 5) (nomark _)) (pw_and1 (t_cmp (o_eq hr.units) (e_slice sl_seq (e_var 3) (o_none) (o_some (e_var 5))) (e_var 4) (nomark _)))))) (fun _ _ _ _ _ => e_ix i_ix (e_var 3) (e_var 5) (fun _ _ => rfl))) a_nil)))))))
    (ss_one (s_ret (e_var 1)))))))
    (fun ts G Q E h => ?run)
  case len => obtain ⟨r, rfl, _⟩ := h; rfl
  case run =>
    obtain ⟨ls, rfl, hz, hl, hQ⟩ := h
    intro p hp
    have ec : ∀ (l : List Int) (j : Nat), cutT (l.map T.int) none (some (j : Int)) = (l.take j).map T.int := fun l j => by rw [cut_take (by omega), show ((j : Int)).toNat = j by omega, List.map_take]
    have pll : ∀ i, i ≤ ls.length → (prP (ls.take i)).length ≤ 7 * i := fun i => by
      induction i with
      | zero => intro _; simp [prP]
      | succ i ih =>
        intro hi
        have hi' : i < ls.length := by omega
        have := ih (by omega)
        rw [take_one (List.getElem?_eq_getElem hi'), prP_snoc, List.length_append, prl_len]
        have := (hl ls[i] (List.getElem_mem hi')).1
        omega
    refine ⟨fun i ρ G' => ∃ q, ρ = [some (.tup (ls.map lnT)), some (.int 0), some (.ref q), none, none, none, none] ∧ Sub G G' ∧ G' q = some (.lst (((prP (ls.take i)).map (·.1)).map lnT)), ⟨p, rfl, (Sub.refl _).new hp, by rw [gput_same]; rfl⟩, fun _ _ _ _ _ => trivial, ?_, ?_⟩
    · rintro i t ρ G' ht ⟨q, rfl, s, hq⟩
      obtain ⟨l, hl', rfl⟩ := map_at ht
      have hi := (List.getElem?_eq_some_iff.mp hl').1
      have hll := (hl l (List.mem_of_getElem? hl')).1
      have hPi := pll i (by omega)
      have ell : (((l.map T.int).length : Nat) : Int).toNat = l.length := by rw [List.length_map]; omega
      refine ⟨by rw [List.length_map]; omega, fun D hD => ⟨by rw [rngT_len, ell]; omega, fun k acc G2 => acc = (((prl l).take k).map (·.1)).map lnT ∧ Sub G' G2 ∧ G2 D = some (.lst acc) ∧ acc.length ≤ k, ⟨by simp, (Sub.refl _).new hD, gput_same, by simp⟩, ?_, ?_, ?_⟩⟩
      · rintro k acc G2 hk ⟨rfl, s2, e, z⟩
        exact ⟨trivial, e, z⟩
      · rintro k t acc G2 ht ⟨rfl, s2, e, z⟩
        obtain ⟨hk, rfl⟩ := rngT_at ht
        rw [ell] at hk
        refine ⟨fun _ => ?_, fun c => (by cases c)⟩
        refine ⟨e, _, Sub.refl _, ?_, s2.mut hD, gput_same, by rw [List.length_append]; exact Nat.succ_le_succ z⟩
        rw [take_one (prl_at (List.getElem?_eq_getElem hk)), List.map_append, List.map_append, ec]; rfl
      · rintro acc G2 ⟨rfl, s2, e, z⟩
        rw [rngT_len, ell, ← prl_len l, List.take_length] at e
        refine ⟨_, _, s2 _ _ hq, e, by rw [List.length_map, List.length_map, List.length_map, List.length_map, prl_len]; omega, fun q2 hq2 => ?_⟩
        refine ⟨_, _, .keep _ (.keep _ (.keep _ (.drop _ (.drop _ (.drop _ (.drop _ .nil)))))), Sub.refl _, q2, rfl, (s.trans s2).new hq2, ?_⟩
        rw [gput_same, take_one hl', prP_snoc]
        simp
    · rintro ρ G' ⟨q, rfl, s, hq⟩
      rw [List.length_map, List.take_length] at hq
      have hPl := pll ls.length (Nat.le_refl _)
      rw [List.take_length] at hPl
      refine ⟨_, hq, by rw [List.length_map]; omega, fun ys nd mem p2 hp2 => ?_⟩
      have hk : KsOf (prP ls) ys := ⟨nd, fun b => (mem b).trans (by rw [List.mem_map]; exact ⟨fun ⟨p, hp, e⟩ => ⟨p.2, e ▸ hp⟩, fun ⟨n, hn⟩ => ⟨_, hn, rfl⟩⟩)⟩
      have s2 := s.new (o := .lst (ys.map inT)) hp2
      have e2 : gput G' p2 (.lst (ys.map inT)) p2 = some (.lst (ys.map inT)) := gput_same
      generalize gput G' p2 (.lst (ys.map inT)) = G1 at s2 e2 ⊢
      refine ⟨_, e2, fun i ρ G2 => ρ = [some (.tup (ls.map lnT)), some (.int ((ys.take i).map (mxP (prP ls))).sum), some (.ref q), none, none, none, none] ∧ Sub G1 G2, ⟨rfl, Sub.refl _⟩, fun _ _ _ _ hI => hI.2 _ _ e2, ?_, ?_⟩
      · rintro i t ρ G2 ht ⟨rfl, s3⟩
        obtain ⟨b, hb, rfl⟩ := map_at ht
        have hbk := List.mem_of_getElem? hb
        have ebl : (((b.map T.int).length : Nat) : Int) = (b.length : Int) := by rw [List.length_map]
        let cnd : List Int → Bool := fun l => decide (b.length < l.length) && decide (l.take b.length = b)
        let val : List Int → Int := fun l => l.getD b.length 0
        refine fun D hD => ⟨by rw [List.length_map]; omega, fun k acc G3 => acc = (((ls.take k).filter cnd).map val).map T.int ∧ Sub G2 G3 ∧ G3 D = some (.lst acc) ∧ acc.length ≤ k, ⟨by simp, (Sub.refl _).new hD, gput_same, by simp⟩, ?_, ?_, ?_⟩
        · rintro k acc G3 hk ⟨rfl, s4, e, z⟩
          exact ⟨trivial, e, z⟩
        · rintro k t acc G3 ht ⟨rfl, s4, e, z⟩
          obtain ⟨l, hlk, rfl⟩ := map_at ht
          have e1 : decide ((((l.map T.int).length : Nat) : Int) > (((b.map T.int).length : Nat) : Int)) = decide (b.length < l.length) := by
            rw [List.length_map, List.length_map]
            exact decide_eq_decide.mpr (by omega)
          have skip : cnd l = false → ∃ G4, Sub G4 G3 ∧ ((((ls.take k).filter cnd).map val).map T.int = (((ls.take (k + 1)).filter cnd).map val).map T.int ∧ Sub G2 G4 ∧ G4 D = some (.lst ((((ls.take k).filter cnd).map val).map T.int)) ∧ ((((ls.take k).filter cnd).map val).map T.int).length ≤ k + 1) := fun c =>
            ⟨G3, Sub.refl _, by rw [take_one hlk, List.filter_append, filt0 (p := cnd) c, List.append_nil], s4, e, by omega⟩
          have es : cutT (l.map T.int) none (some (((b.map T.int).length : Nat) : Int)) = (l.take b.length).map T.int := by rw [List.length_map]; exact ec l b.length
          have et : (false != teq (.tup (cutT (l.map T.int) none (some (((b.map T.int).length : Nat) : Int)))) (inT b)) = decide (l.take b.length = b) := by rw [es, Bool.false_bne]; exact ln_teq _ _
          refine ⟨fun c => ?_, fun c => ?_⟩
          · have c1 := e1.symm.trans c
            refine ⟨by rw [es]; exact lnT_eqOk _, lnT_eqOk b, ?_⟩
            rw [et]
            refine ⟨fun c2 => ?_, fun c2 => skip (by show (decide (b.length < l.length) && decide (l.take b.length = b)) = false; rw [c2, Bool.and_false])⟩
            have cc : cnd l = true := by show (decide (b.length < l.length) && decide (l.take b.length = b)) = true; rw [c1, c2]; rfl
            have hbl := of_decide_eq_true c1
            refine ⟨b.length, .int (val l), by rw [List.length_map, List.length_map]; exact ix_at hbl, ?_, e, _, Sub.refl _, ?_, s4.mut hD, gput_same, by rw [List.length_append]; exact Nat.succ_le_succ z⟩
            · rw [List.getElem?_map, List.getElem?_eq_getElem hbl]
              show some (T.int l[b.length]) = some (T.int (l.getD b.length 0))
              rw [List.getD_eq_getElem?_getD, List.getElem?_eq_getElem hbl]; rfl
            · rw [take_one hlk, List.filter_append, filt1 (p := cnd) cc, List.map_append, List.map_append]; rfl
          · have c1 := e1.symm.trans c
            exact ⟨fun c => (by cases c), fun _ => skip (by show (decide (b.length < l.length) && decide (l.take b.length = b)) = false; rw [c1, Bool.false_and])⟩
        · rintro acc G3 ⟨rfl, s4, e, z⟩
          rw [List.length_map, List.take_length] at e
          have memv : ∀ n, n ∈ ((ls.filter cnd).map val) ↔ (b, n) ∈ prP ls := fun n => by
            rw [mem_prP, List.mem_map]
            constructor
            · rintro ⟨l, hl1, rfl⟩
              obtain ⟨h1, h2⟩ := List.mem_filter.mp hl1
              have h2 : (decide (b.length < l.length) && decide (l.take b.length = b)) = true := h2
              rw [Bool.and_eq_true, decide_eq_true_eq, decide_eq_true_eq] at h2
              refine ⟨l, h1, h2.1, h2.2, ?_⟩
              show l[b.length]? = some (l.getD b.length 0)
              rw [List.getD_eq_getElem?_getD, List.getElem?_eq_getElem h2.1]; rfl
            · rintro ⟨l, h1, h2, h3, h4⟩
              refine ⟨l, List.mem_filter.mpr ⟨h1, ?_⟩, ?_⟩
              · show (decide (b.length < l.length) && decide (l.take b.length = b)) = true
                rw [decide_eq_true h2, decide_eq_true h3]; rfl
              · show l.getD b.length 0 = n
                rw [List.getD_eq_getElem?_getD, h4]; rfl
          obtain ⟨n0, hn0⟩ := (hk.mem b).mp hbk
          refine ⟨(ls.filter cnd).map val, e, fun z => ?_, fun m hm1 hm2 => ?_⟩
          · have := (memv n0).mpr hn0
            rw [z] at this
            cases this
          · have hm3 := (memv m).mp hm1
            have h0 : 0 ≤ m := by
              obtain ⟨l, h1, h2, h3, h4⟩ := mem_prP.mp hm3
              exact (hl l h1).2 m (List.mem_of_getElem? h4)
            have hmx := mxP_eq hm3 (fun n hn => hm2 n ((memv n).mpr hn)) h0
            refine ⟨_, _, .keep _ (.keep _ (.keep _ (.drop _ (.drop _ (.drop _ (.drop _ .nil)))))), Sub.refl _, ?_, s3.trans s4⟩
            rw [take_one hb, List.map_append, List.sum_append]
            simp only [List.map_cons, List.map_nil, List.sum_cons, List.sum_nil]
            rw [hmx, Int.add_zero, ← Int.add_assoc]
            have : ((ys.take i).map (mxP (prP ls))).sum + m + 1 = ((ys.take i).map (mxP (prP ls))).sum + 1 + m := by omega
            rw [this]
      · rintro ρ G2 ⟨rfl, s3⟩
        rw [List.length_map, List.take_length, W_eq hk]
        exact Ret.of (hQ _ (s2.trans s3))
abbrev s_law_fills : Stmt := topS 19
abbrev N_law_fills : List Str := ["size", "wish"]
theorem sc_law_fills : FnScope N_law_fills ["size", "wish"] (defScope s_law_fills) := ⟨rfl, rfl, rfl, by decide +kernel, rfl, by decide +kernel, by decide +kernel⟩
set_option maxHeartbeats 4000000 in
theorem ok_law_fills {P : Program} {w : World} {K : PySem.W.Frag} {mg : Str → Option Value} {base : Heap} (F : FunAt K mg "_law_fills" "_law_fills" s_law_fills ["size", "wish"]) (TX : Txt K mg) (D_law_less : DefOk P w K mg base 1 "_law_less" ["one", "other"] sp_law_less) :
    DefOk P w K mg base 2 "_law_fills" ["size", "wish"] sp_law_fills := by
  refine okd F sc_law_fills (fun ts G Q E h => ?len) (fun f cdv A outer s H E hr => ss_one (s_ret (e_and (e_not (e_callD D_law_less hr (by rfl) (a_cons (e_var 0) (a_cons (e_ix i_ixC (e_var 1) (e_int) (fun _ _ => rfl)) a_nil)))) (pe_one (e_not (e_callD D_law_less hr (by rfl) (a_cons (e_ix i_ixC (e_var 1) (e_int) (fun _ _ => rfl)) (a_cons (e_var 0) a_nil))))))))
    (fun ts G Q E h => ?run)
  case len => obtain ⟨s, w, rfl, _⟩ := h; rfl
  case run =>
    obtain ⟨s, w, rfl, hs, hw, hQ⟩ := h
    have e1 : decide (w.1.1 * s.2 ≤ s.1 * w.1.2) = !decide (s.1 * w.1.2 < w.1.1 * s.2) := by
      by_cases c : s.1 * w.1.2 < w.1.1 * s.2
      · rw [decide_eq_true c, decide_eq_false (by omega)]; rfl
      · rw [decide_eq_false c, decide_eq_true (by omega)]; rfl
    have e2 : decide (s.1 * w.2.2 ≤ w.2.1 * s.2) = !decide (w.2.1 * s.2 < s.1 * w.2.2) := by
      by_cases c : w.2.1 * s.2 < s.1 * w.2.2
      · rw [decide_eq_true c, decide_eq_false (by omega)]; rfl
      · rw [decide_eq_false c, decide_eq_true (by omega)]; rfl
    unfold fillB at hQ
    rw [e1, e2] at hQ
    refine ⟨s, w.1, 200, rfl, hs.t1, hs.b1, hw.a.t1, hw.a.b1, by decide, ?_⟩
    refine ⟨fun c => ?_, fun c => ?_⟩
    · rw [show (!decide (s.1 * w.1.2 < w.1.1 * s.2)) = true from c, Bool.true_and] at hQ
      exact ⟨w.2, s, 200, rfl, hw.b.t1, hw.b.b1, hs.t1, hs.b1, by decide, Ret.of hQ⟩
    · rw [show (!decide (s.1 * w.1.2 < w.1.1 * s.2)) = false from c, Bool.false_and] at hQ
      exact Ret.of hQ
abbrev s_law_wish : Stmt := topS 20
abbrev N_law_wish : List Str := ["bag", "rules", "size", "one", "kind_so", "by", "part"]
theorem sc_law_wish : FnScope N_law_wish ["bag", "rules", "size"] (defScope s_law_wish) := ⟨rfl, rfl, rfl, by decide +kernel, rfl, by decide +kernel, by decide +kernel⟩
set_option maxHeartbeats 4000000 in
theorem ok_law_wish {P : Program} {w : World} {K : PySem.W.Frag} {mg : Str → Option Value} {base : Heap} (F : FunAt K mg "_law_wish" "_law_wish" s_law_wish ["bag", "rules", "size"]) (TX : Txt K mg) (D_law_sized : DefOk P w K mg base 2 "_law_sized" ["rules", "size", "line"] sp_law_sized) (D_law_line : DefOk P w K mg base 2 "_law_line" ["bag", "rules", "mos1"] sp_law_line) (D_law_take : DefOk P w K mg base 1 "_law_take" ["bag", "many"] sp_law_take) (D_law_lowest : DefOk P w K mg base 1 "_law_lowest" ["top", "bottom"] sp_law_lowest) :
    DefOk P w K mg base 3 "_law_wish" ["bag", "rules", "size"] sp_law_wish := by
  refine okd F sc_law_wish (fun ts G Q E h => ?len) (fun f cdv A outer s H E hr => ss_cons (s_set (i := 3) sc_law_wish.nd rfl (by first | exact Or.inl rfl | exact Or.inr rfl) (e_callD D_law_sized hr (by rfl) (a_cons (e_var 1) (a_cons (e_var 2) (a_cons (e_callD D_law_line hr (by rfl) (a_cons (e_var 0) (a_cons (e_var 1) (a_cons (e_int) a_nil)))) a_nil)))))
    (ss_cons (s_set (i := 4) sc_law_wish.nd rfl (by first | exact Or.inl rfl | exact Or.inr rfl) (e_callD D_law_take (hr.mono (by decide)) (by rfl) (a_cons (e_var 0) (a_cons (e_int) a_nil))))
    (ss_cut (s_if (PW.pt (w_and (t_cmp (o_eq hr.units) (e_var 4) (e_int) (nomark _)) (w_and (t_cmp o_le (e_ix i_ixC (e_var 3) (e_int) (fun _ _ => rfl)) (e_op o_pow (e_int) (e_int)) (nomark _)) (pw_and1 (t_cmp o_le (e_ix i_ixC (e_var 3) (e_int) (fun _ _ => rfl)) (e_op o_pow (e_int) (e_int)) (nomark _)))))) (ss_one (s_ret (e_tup (a_cons (e_var 3) (a_cons (e_var 3) a_nil))))) (ss_nil))
    (ss_cons (s_set (i := 5) sc_law_wish.nd rfl (by first | exact Or.inl rfl | exact Or.inr rfl) (e_ix i_ix (e_lst (a_cons (e_int) (a_cons (e_int) (a_cons (e_int) a_nil)))) (e_callD D_law_take (hr.mono (by decide)) (by rfl) (a_cons (e_var 0) (a_cons (e_int) a_nil))) (fun _ _ => rfl)))
    (ss_cons (s_set (i := 6) sc_law_wish.nd rfl (by first | exact Or.inl rfl | exact Or.inr rfl) (e_op o_div (e_op o_mul (e_ix i_ixC (e_var 3) (e_int) (fun _ _ => rfl)) (e_var 5)) (e_ix i_ixC (e_var 3) (e_int) (fun _ _ => rfl))))
    (ss_one (s_ret (e_tup (a_cons (e_callD D_law_lowest (hr.mono (by decide)) (by rfl) (a_cons (e_var 6) (a_cons (e_var 5) a_nil))) (a_cons (e_callD D_law_lowest (hr.mono (by decide)) (by rfl) (a_cons (e_op o_add (e_op o_add (e_var 6) (e_int)) (e_callD D_law_take (hr.mono (by decide)) (by rfl) (a_cons (e_var 0) (a_cons (e_ix i_ix (e_lst (a_cons (e_int) (a_cons (e_int) a_nil))) (e_op o_mod (e_var 4) (e_int)) (fun _ _ => rfl)) a_nil)))) (a_cons (e_var 5) a_nil))) a_nil))))))))))
    (fun ts G Q E h => ?run)
  case len => obtain ⟨b, r, s, rfl, _⟩ := h; rfl
  case run =>
    obtain ⟨b, r, s, rfl, hr, hs, hb, hQ⟩ := h
    have l0 := hr.l0
    have l1 := hr.l1
    have t0 := BT.start hb
    refine ⟨b, r, 3, rfl, ⟨hb, l0, l1, by decide, by decide⟩, fun l G1 hl zl g1 => ?_⟩
    have t1 := t0.to g1
    have ln : LnOk l := fun n hn => by have := hl n hn; omega
    refine ⟨r, s, l, rfl, hr, hs, by omega, fun n hn => by have := hl n hn; omega, ?_⟩
    have f0 := pc_fb hr l 20 s hs.fb ln
    have f1 : Fb 77 (pc r s l) := f0.mono (by omega)
    generalize pc r s l = one at f1 ⊢
    refine ⟨⟨t1.bag, by decide, by decide⟩, fun kd G2 lk uk g2 => ?_⟩
    have t2 := t1.to g2
    refine ⟨fun ρ G' => ρ = [some (.ref b), some (ruT r), some (fr s), some (fr one), some (.int kd), none, none] ∧ G' = G2, ?_, ?_⟩
    · have out : Wk (fun ρ G' => ρ = [some (.ref b), some (ruT r), some (fr s), some (fr one), some (.int kd), none, none] ∧ G' = G2) [some (.ref b), some (ruT r), some (fr s), some (fr one), some (.int kd), none, none] G2 := ⟨_, _, ELe.refl _, Sub.refl _, rfl, rfl⟩
      refine ⟨fun c => ?_, fun c => ?_⟩
      · refine ⟨⟨by decide, by decide, by decide⟩, fun c2 => ?_, fun c2 => ?_⟩
        · refine ⟨⟨by decide, by decide, by decide⟩, fun c3 => ?_, fun c3 => out⟩
          exact Ret.of (hQ (one, one) _ ⟨f1.mono (by decide), f1.mono (by decide)⟩ t2)
        · exact ⟨fun c => (by cases c), fun _ => out⟩
      · exact ⟨fun c => (by cases c), fun _ => out⟩
    rintro ρ G' ⟨rfl, rfl⟩
    intro p3 hp3
    have t3 := t2.new (o := .lst [.int 100, .int 10, .int 1]) hp3
    have e3 : gput G' p3 (.lst [.int 100, .int 10, .int 1]) p3 = some (.lst [.int 100, .int 10, .int 1]) := gput_same
    have b3 := (bag_new t2.bag hp3).symm
    refine ⟨⟨t3.bag, by decide, by decide⟩, fun x G4 lx ux g4 => ?_⟩
    have t4 := t3.to g4
    have e4 : G4 p3 = some (.lst [.int 100, .int 10, .int 1]) := (g4.ne b3).trans e3
    obtain ⟨by_, hby, i, hi1, hi2⟩ := pick3 (a := 100) (b := 10) (c := 1) lx ux
    refine ⟨_, _, _, e4, hi1, hi2, ?_⟩
    have by0 : 1 ≤ by_ ∧ by_ ≤ 100 := by omega
    have byn : by_.natAbs < 2 ^ 7 := by have : (2 : Nat) ^ 7 = 128 := rfl; omega
    have m1 : MulOk one.1 by_ := mulOk 77 7 f1.t1 byn (by omega)
    refine ⟨m1, divOk 77 f1.b0 f1.b1 (by omega), ?_⟩
    have hp0 : 0 ≤ one.1 * by_ / one.2 := Int.ediv_nonneg (Int.mul_nonneg f1.t0 (by omega)) (by have := f1.b0; omega)
    have hp1 : one.1 * by_ / one.2 ≤ one.1 * by_ := Int.ediv_le_self _ (Int.mul_nonneg f1.t0 (by omega))
    have hp2 := mul_lt_pow f1.t1 byn
    generalize one.1 * by_ / one.2 = part at hp0 hp1 ⊢
    have e84 : (2 : Nat) ^ (77 + 7) + 100 ≤ 2 ^ 200 := by decide
    have byn2 : by_.natAbs < 2 ^ 200 := Nat.lt_of_lt_of_le byn (Nat.pow_le_pow_right (by decide) (by decide))
    have F1 : Fb 200 (part, by_) := ⟨hp0, by show 0 < by_; omega, by show part.natAbs < 2 ^ 200; omega, byn2⟩
    refine ⟨⟨hp0, by omega, Nat.lt_of_lt_of_le byn (Nat.pow_le_pow_right (by decide) (by decide))⟩, ?_⟩
    intro p5 hp5
    have t5 := t4.new (o := .lst [.int 1, .int 20]) hp5
    have e5 : gput G4 p5 (.lst [.int 1, .int 20]) p5 = some (.lst [.int 1, .int 20]) := gput_same
    obtain ⟨m, hm, i2, hi3, hi4⟩ : ∃ m : Int, (m = 1 ∨ m = 20) ∧ ∃ n, ixN 2 (kd % 2) = some n ∧ ([.int 1, .int 20] : List T)[n]? = some (.int m) := by
      obtain h | h : kd % 2 = 0 ∨ kd % 2 = 1 := by omega
      · rw [h]; exact ⟨1, .inl rfl, 0, rfl, rfl⟩
      · rw [h]; exact ⟨20, .inr rfl, 1, rfl, rfl⟩
    refine ⟨by decide, _, _, _, e5, hi3, hi4, ?_⟩
    refine ⟨⟨t5.bag, by omega, by omega⟩, fun y G6 ly uy g6 => ?_⟩
    have t6 := t5.to g6
    refine ⟨⟨by omega, by omega, Nat.lt_of_lt_of_le byn (Nat.pow_le_pow_right (by decide) (by decide))⟩, ?_⟩
    have F2 : Fb 200 (part + 1 + y, by_) := ⟨by show 0 ≤ part + 1 + y; omega, by show 0 < by_; omega, by show (part + 1 + y).natAbs < 2 ^ 200; omega, F1.b1⟩
    exact Ret.of (hQ (low part by_, low (part + 1 + y) by_) _ ⟨F1.low, F2.low⟩ t6)
abbrev s_law_fewest : Stmt := topS 21
abbrev N_law_fewest : List Str := ["rules", "size", "wishes", "mos1", "every", "good", "wish", "line", "best", "other", "lines", "row"]
theorem sc_law_fewest : FnScope N_law_fewest ["rules", "size", "wishes", "mos1"] (defScope s_law_fewest) := ⟨rfl, rfl, rfl, by decide +kernel, rfl, by decide +kernel, by decide +kernel⟩
set_option maxHeartbeats 4000000 in
theorem ok_law_fewest {P : Program} {w : World} {K : PySem.W.Frag} {mg : Str → Option Value} {base : Heap} (F : FunAt K mg "_law_fewest" "_law_fewest" s_law_fewest ["rules", "size", "wishes", "mos1"]) (TX : Txt K mg) (D_law_few_lines : DefOk P w K mg base 1 "_law_few_lines" ["life", "mos1"] sp_law_few_lines) (D_law_fills : DefOk P w K mg base 2 "_law_fills" ["size", "wish"] sp_law_fills) (D_law_sized : DefOk P w K mg base 2 "_law_sized" ["rules", "size", "line"] sp_law_sized) (D_law_wanted : DefOk P w K mg base 1 "_law_wanted" ["lines"] sp_law_wanted) :
    DefOk P w K mg base 3 "_law_fewest" ["rules", "size", "wishes", "mos1"] sp_law_fewest := by
  refine okd F sc_law_fewest (fun ts G Q E h => ?len) (fun f cdv A outer s H E hr => ss_cons (s_set (i := 4) sc_law_fewest.nd rfl (by first | exact Or.inl rfl | exact Or.inr rfl) (e_callB (b_sorted (un66 hr)) (by rfl) TX.n_sorted (by decide +kernel) (a_cons (e_callD D_law_few_lines (hr.mono (by decide)) (by rfl) (a_cons (e_ix i_ixC (e_var 0) (e_int) (fun _ _ => rfl)) (a_cons (e_var 3) a_nil))) a_nil)))
    (ss_cons (s_set (i := 5) sc_law_fewest.nd rfl (by first | exact Or.inl rfl | exact Or.inr rfl) (e_lst (a_nil)))
    (ss_cons (s_for (own := [6]) PassesOwn.never rfl (i_seq (e_var 2)) (g_name (i := 6) sc_law_fewest.nd rfl (by first | exact Or.inl rfl | exact Or.inr rfl)) (ss_one (s_expr (e_bm PySem.F.plainAttrs_list PySem.F.slot_list_append PySem.F.type_list_append m_append (e_var 5) (a_cons (e_lc (own := [("line", 7)]) rfl sc_law_fewest.nd (i_seq (e_var 4)) (blkOk_by (N := N_law_fewest) (sc := defScope s_law_fewest) (own := [("line", 7)]) (by decide +kernel)) (fun _ _ _ _ _ => g_name (i := 7) sc_law_fewest.nd rfl (by first | exact Or.inl rfl | exact Or.inr rfl)) (fun _ _ _ _ _ => ts_one (t_tr (e_callD D_law_fills hr (by rfl) (a_cons (e_callD D_law_sized hr (by rfl) (a_cons (e_var 0) (a_cons (e_var 1) (a_cons (e_var 7) a_nil)))) (a_cons (e_var 6) a_nil))))) (fun _ _ _ _ _ => e_var 7)) a_nil)))))
    (ss_cons (s_set (i := 8) sc_law_fewest.nd rfl (by first | exact Or.inl rfl | exact Or.inr rfl) (e_non))
    (ss_cons (s_for (own := [7]) PassesOwn.never rfl (i_seq (e_ix i_ixC (e_var 5) (e_int) (fun _ _ => rfl))) (g_name (i := 7) sc_law_fewest.nd rfl (by first | exact Or.inl rfl | exact Or.inr rfl)) (ss_one (s_for (own := [9]) PassesOwn.never rfl (i_seq (e_ix i_ix (e_var 5) (e_neg (e_int)) (fun _ _ => rfl))) (g_name (i := 9) sc_law_fewest.nd rfl (by first | exact Or.inl rfl | exact Or.inr rfl)) (ss_cons (s_set (i := 10) sc_law_fewest.nd rfl (by first | exact Or.inl rfl | exact Or.inr rfl) (e_if (t_cmp (o_eq hr.units) (e_callB b_len (by rfl) TX.n_len (by decide +kernel) (a_cons (e_var 2) a_nil)) (e_int) (nomark _)) (e_tup (a_cons (e_var 7) a_nil)) (e_tup (a_cons (e_var 7) (a_cons (e_var 9) a_nil)))))
    (ss_cons (s_set (i := 11) sc_law_fewest.nd rfl (by first | exact Or.inl rfl | exact Or.inr rfl) (e_tup (a_cons (e_callD D_law_wanted (hr.mono (by decide)) (by rfl) (a_cons (e_var 10) a_nil)) (a_cons (e_var 10) a_nil))))
    (ss_one (s_if (PW.pt (w_and (t_cmp o_le (e_ix i_ixC (e_var 11) (e_int) (fun _ _ => rfl)) (e_var 3) (nomark _)) (pw_and1 (PW.pt (w_or (t_cmp o_is (e_var 8) (e_non) (nomark _)) (pw_or1 (t_cmp (o_lt2 (un66 hr)) (e_var 11) (e_var 8) (nomark _)))))))) (ss_one (s_set (i := 8) sc_law_fewest.nd rfl (by first | exact Or.inl rfl | exact Or.inr rfl) (e_var 11))) (ss_nil))))))))
    (ss_one (s_ret (e_var 8))))))))
    (fun ts G Q E h => ?run)
  case len => obtain ⟨r, s, ws, m, rfl, _⟩ := h; rfl
  case run =>
    obtain ⟨r, s, ws, most, rfl, hr, hs, m0, m7, hz1, hz, hw, hQ⟩ := h
    have l0 := hr.l0
    have l1 := hr.l1
    refine ⟨r.2.2, most, rfl, l0, l1, m0, m7, fun L p G1 hL hLz s1 e1 => ?_⟩
    have so : SrtOk (L.map lnT) := srtOk_lines fun x hx => by
      obtain ⟨l, _, rfl⟩ := List.mem_map.mp hx
      exact ⟨l, rfl⟩
    refine ⟨_, e1, so, fun ys py wy q hq => ?_⟩
    obtain ⟨L2, rfl, pL⟩ := perm_map py
    have s2 := s1.new (o := .lst (L2.map lnT)) hq
    have e2 : gput G1 q (.lst (L2.map lnT)) q = some (.lst (L2.map lnT)) := gput_same
    generalize gput G1 q (.lst (L2.map lnT)) = G2 at s2 e2 ⊢
    have hL2 : ∀ l, l ∈ L2 ↔ VL r.2.2 most l := fun l => pL.mem_iff.trans (hL l)
    have hL2z : L2.length ≤ 128 := by rw [pL.length_eq]; exact hLz
    have hln : ∀ l ∈ L2, LnOk l ∧ l.length ≤ 7 := fun l hl => by
      have hv := (hL2 l).mp hl
      exact ⟨hv.ln l1, by have := hv.len; omega⟩
    clear py wy pL hL hLz e1 s1
    intro pg hpg
    have s3 := s2.new (o := .lst []) hpg
    have e3 := (Sub.refl G2).new (o := .lst []) hpg _ _ e2
    have eg3 : gput G2 pg (.lst []) pg = some (.lst []) := gput_same
    have qpg : q ≠ pg := gne e2 hpg
    have hpgG : G pg = none := by
      cases h : G pg with
      | none => rfl
      | some o => rw [s2 _ _ h] at hpg; cases hpg
    generalize gput G2 pg (.lst []) = G3 at s3 e3 eg3 ⊢
    refine ⟨fun i ρ G' => ∃ ds : List Addr, ρ = [some (ruT r), some (fr s), some (.tup (ws.map wsT)), some (.int most), some (.ref q), some (.ref pg), none, none, none, none, none, none] ∧ Sub G G' ∧ G' q = some (.lst (L2.map lnT)) ∧ G' pg = some (.lst (ds.map T.ref)) ∧ ds.length = i ∧ ∀ (j : Nat) (d : Addr) (w : Wish), ds[j]? = some d → ws[j]? = some w → d ≠ pg ∧ G' d = some (.lst ((L2.filter fun l => fillB (pc r s l) w).map lnT)), ⟨[], rfl, s3, e3, eg3, rfl, fun j d w h => by simp at h⟩, fun _ _ _ _ _ => trivial, ?_, ?_⟩
    · rintro i t ρ G' ht ⟨ds, rfl, sb, eq, eg, hds, hd⟩
      obtain ⟨w, hwi, rfl⟩ := map_at ht
      have hi := (List.getElem?_eq_some_iff.mp hwi).1
      have wd := hw w (List.mem_of_getElem? hwi)
      let ok : List Int → Bool := fun l => fillB (pc r s l) w
      refine ⟨⟨_, eg⟩, _, eq, fun D hD => ⟨by rw [List.length_map]; omega, fun k acc G4 => acc = ((L2.take k).filter ok).map lnT ∧ Sub G' G4 ∧ G4 D = some (.lst acc) ∧ acc.length ≤ k, ⟨by simp, (Sub.refl _).new hD, gput_same, by simp⟩, ?_, ?_, ?_⟩⟩
      · rintro k acc G4 hk ⟨rfl, s4, e, z⟩
        exact ⟨s4 _ _ eq, e, z⟩
      · rintro k t acc G4 ht ⟨rfl, s4, e, z⟩
        obtain ⟨l, hl, rfl⟩ := map_at ht
        obtain ⟨ll, lz⟩ := hln l (List.mem_of_getElem? hl)
        refine ⟨r, s, l, rfl, hr, hs, by omega, fun n hn => ll n hn, ?_⟩
        refine ⟨pc r s l, w, rfl, (pc_fb hr l 20 s hs.fb ll).mono (by omega), wd, fun c => ?_, fun c => ?_⟩
        · refine ⟨e, _, Sub.refl _, ?_, s4.mut hD, gput_same, by rw [List.length_append]; exact Nat.succ_le_succ z⟩
          rw [take_one hl, List.filter_append, List.map_append, filt1 (p := ok) c]; rfl
        · refine ⟨_, Sub.refl _, ?_, s4, e, by omega⟩
          rw [take_one hl, List.filter_append, filt0 (p := ok) c, List.append_nil]
      · rintro acc G4 ⟨rfl, s4, e, z⟩
        rw [List.length_map, List.take_length] at e
        have Dpg : D ≠ pg := (gne eg hD).symm
        refine ⟨_, s4 _ _ eg, by rw [List.length_map]; omega, ?_⟩
        refine ⟨_, _, .keep _ (.keep _ (.keep _ (.keep _ (.keep _ (.keep _ (.drop _ (.drop _ (.drop _ (.drop _ (.drop _ (.drop _ .nil))))))))))), Sub.refl _, ds ++ [D], rfl, (sb.trans s4).mut hpgG, (gput_ne qpg).trans (s4 _ _ eq), by rw [gput_same]; simp, by simp [hds], fun j d v hj hv => ?_⟩
        by_cases c : j < ds.length
        · rw [List.getElem?_append_left c] at hj
          obtain ⟨h1, h2⟩ := hd j d v hj hv
          exact ⟨h1, (gput_ne h1).trans (s4 _ _ h2)⟩
        · have hj2 := (List.getElem?_eq_some_iff.mp hj).1
          rw [List.length_append, List.length_singleton] at hj2
          have ej : j = ds.length := by omega
          subst ej
          simp at hj
          subst hj
          rw [hds, hwi] at hv
          cases hv
          exact ⟨Dpg, (gput_ne Dpg).trans e⟩
    · rintro ρ G' ⟨ds, rfl, sb, eq, eg, hds, hd⟩
      rw [List.length_map] at hds
      have hln2 : ∀ l ∈ L2, (∀ n ∈ l, 0 ≤ n) ∧ l.length ≤ 7 := fun l hl => ⟨fun n hn => ((hln l hl).1 n hn).1, (hln l hl).2⟩
      cases ds with
      | nil => rw [← hds] at hz1; cases hz1
      | cons d0 dr =>
      obtain ⟨w0, hw0⟩ : ∃ w0, ws[0]? = some w0 := ⟨_, List.getElem?_eq_getElem (by omega)⟩
      obtain ⟨wl, hwl⟩ : ∃ wl, ws[ws.length - 1]? = some wl := ⟨_, List.getElem?_eq_getElem (by omega)⟩
      obtain ⟨dl, hdl⟩ : ∃ dl, (d0 :: dr)[ws.length - 1]? = some dl := ⟨_, List.getElem?_eq_getElem (by omega)⟩
      obtain ⟨_, g0e⟩ := hd 0 d0 w0 rfl hw0
      obtain ⟨_, gle⟩ := hd _ dl wl hdl hwl
      have m0' : ∀ l, l ∈ (L2.filter fun l => fillB (pc r s l) w0) ↔ VL r.2.2 most l ∧ fillB (pc r s l) w0 = true := fun l => by rw [List.mem_filter, hL2]
      have ml' : ∀ l, l ∈ (L2.filter fun l => fillB (pc r s l) wl) ↔ VL r.2.2 most l ∧ fillB (pc r s l) wl = true := fun l => by rw [List.mem_filter, hL2]
      have in0 : ∀ l ∈ (L2.filter fun l => fillB (pc r s l) w0), l ∈ L2 := fun l hl => (List.mem_filter.mp hl).1
      have inl : ∀ l ∈ (L2.filter fun l => fillB (pc r s l) wl), l ∈ L2 := fun l hl => (List.mem_filter.mp hl).1
      generalize (L2.filter fun l => fillB (pc r s l) w0) = g0 at g0e m0' in0
      generalize (L2.filter fun l => fillB (pc r s l) wl) = gl at gle ml' inl
      let mk : List Int → List Int → List (List Int) := fun a o => if ws.length = 1 then [a] else [a, o]
      refine ⟨_, eg, ?_⟩
      refine ⟨_, g0e, fun i ρ G4 => ∃ t, ρ = [some (ruT r), some (fr s), some (.tup (ws.map wsT)), some (.int most), some (.ref q), some (.ref pg), none, none, some t, none, none, none] ∧ Sub G' G4 ∧ BestOf most ((g0.take i).flatMap fun a => gl.map (mk a)) t, ⟨.non, rfl, Sub.refl _, .inl ⟨rfl, fun row h => by simp at h⟩⟩, fun _ _ _ _ ⟨_, hI⟩ => hI.2.1 _ _ g0e, ?_, ?_⟩
      · rintro i t ρ G4 ht ⟨t, rfl, s4, hB0⟩
        obtain ⟨a, ha, rfl⟩ := map_at ht
        have haL := in0 a (List.mem_of_getElem? ha)
        have gle4 := s4 _ _ gle
        refine ⟨_, ws.length - 1, .ref dl, s4 _ _ eg, ?_, ?_, ?_⟩
        · rw [List.length_map, hds]
          unfold ixN
          rw [if_neg (by decide), if_pos (by omega)]
          congr 1
          omega
        · rw [List.getElem?_map, hdl]; rfl
        refine ⟨_, gle4, fun j ρ G5 => ∃ t, ρ = [some (ruT r), some (fr s), some (.tup (ws.map wsT)), some (.int most), some (.ref q), some (.ref pg), none, some (lnT a), some t, none, none, none] ∧ Sub G4 G5 ∧ BestOf most (((g0.take i).flatMap fun a => gl.map (mk a)) ++ (gl.take j).map (mk a)) t, ⟨t, rfl, Sub.refl _, by rw [List.take_zero, List.map_nil, List.append_nil]; exact hB0⟩, fun _ _ _ _ ⟨_, hI⟩ => hI.2.1 _ _ gle4, ?_, ?_⟩
        · rintro j t ρ G5 ht ⟨t, rfl, s5, hB⟩
          obtain ⟨o, ho, rfl⟩ := map_at ht
          have hoL := inl o (List.mem_of_getElem? ho)
          have fin : ∀ (t' : T) (G6 : Gp) (ρ : REnv), ELe [some (ruT r), some (fr s), some (.tup (ws.map wsT)), some (.int most), some (.ref q), some (.ref pg), none, some (lnT a), some t', none, none, none] ρ → Sub G5 G6 → BestOf most ((((g0.take i).flatMap fun a => gl.map (mk a)) ++ (gl.take j).map (mk a)) ++ [mk a o]) t' → Wk (fun ρ G5 => ∃ t, ρ = [some (ruT r), some (fr s), some (.tup (ws.map wsT)), some (.int most), some (.ref q), some (.ref pg), none, some (lnT a), some t, none, none, none] ∧ Sub G4 G5 ∧ BestOf most (((g0.take i).flatMap fun a => gl.map (mk a)) ++ (gl.take (j + 1)).map (mk a)) t) ρ G6 := fun t' G6 ρ le s6 h => ⟨_, _, le, Sub.refl _, t', rfl, s5.trans s6, by rw [take_one ho, List.map_append, ← List.append_assoc]; exact h⟩
          have ew : ((((ws.map wsT).length : Nat) : Int) = 1) ↔ ws.length = 1 := by rw [List.length_map]; omega
          refine ⟨fun c => ?_, fun c => ?_⟩
          · have hrow : mk a o = [a] := if_pos (ew.mp (of_decide_eq_true ((Bool.false_bne _).symm.trans c)))
            refine ⟨[a], rfl, by simp, fun l hl => ?_, fun G6 s6 => ?_⟩
            · simp only [List.mem_cons, List.not_mem_nil, or_false] at hl
              rw [hl]
              exact ⟨(hln2 a haL).2, fun n hn => (hln2 a haL).1 n hn⟩
            rw [hrow] at fin
            refine ⟨fun c1 => ?_, fun c1 => ⟨fun c => (by cases c), fun _ => fin t G6 _ (.keep _ (.keep _ (.keep _ (.keep _ (.keep _ (.keep _ (.keep _ (.keep _ (.keep _ (.drop _ (.drop _ (.drop _ .nil)))))))))))) s6 (hB.dear (by have := of_decide_eq_false c1; omega))⟩⟩
            have c1 := of_decide_eq_true c1
            rcases hB.tup with rfl | ⟨w', row', rfl⟩
            · exact ⟨fun _ => ⟨fun _ => fin _ G6 _ (.keep _ (.keep _ (.keep _ (.keep _ (.keep _ (.keep _ (.keep _ (.keep _ (.keep _ (.drop _ (.drop _ (.drop _ .nil)))))))))))) s6 (hB.first c1), fun c => (by cases c)⟩, fun c => (by cases c)⟩
            · exact ⟨fun c => (by cases c), fun _ => ⟨rk_eqOk (W [a]) [a], rk_eqOk _ _, rk_cmp (W [a]) w' [a] row', fun c => fin _ G6 _ (.keep _ (.keep _ (.keep _ (.keep _ (.keep _ (.keep _ (.keep _ (.keep _ (.keep _ (.drop _ (.drop _ (.drop _ .nil)))))))))))) s6 (hB.less (fun z => by cases z) c1 c), fun c => fin _ G6 _ (.keep _ (.keep _ (.keep _ (.keep _ (.keep _ (.keep _ (.keep _ (.keep _ (.keep _ (.drop _ (.drop _ (.drop _ .nil)))))))))))) s6 (hB.keep (fun z => by cases z) c)⟩⟩
          · have hrow : mk a o = [a, o] := if_neg fun z => (of_decide_eq_false ((Bool.false_bne _).symm.trans c)) (ew.mpr z)
            refine ⟨[a, o], rfl, by simp, fun l hl => ?_, fun G6 s6 => ?_⟩
            · simp only [List.mem_cons, List.not_mem_nil, or_false] at hl
              rcases hl with e | e <;> rw [e]
              · exact ⟨(hln2 _ haL).2, fun n hn => (hln2 _ haL).1 n hn⟩
              · exact ⟨(hln2 _ hoL).2, fun n hn => (hln2 _ hoL).1 n hn⟩
            rw [hrow] at fin
            refine ⟨fun c1 => ?_, fun c1 => ⟨fun c => (by cases c), fun _ => fin t G6 _ (.keep _ (.keep _ (.keep _ (.keep _ (.keep _ (.keep _ (.keep _ (.keep _ (.keep _ (.drop _ (.drop _ (.drop _ .nil)))))))))))) s6 (hB.dear (by have := of_decide_eq_false c1; omega))⟩⟩
            have c1 := of_decide_eq_true c1
            rcases hB.tup with rfl | ⟨w', row', rfl⟩
            · exact ⟨fun _ => ⟨fun _ => fin _ G6 _ (.keep _ (.keep _ (.keep _ (.keep _ (.keep _ (.keep _ (.keep _ (.keep _ (.keep _ (.drop _ (.drop _ (.drop _ .nil)))))))))))) s6 (hB.first c1), fun c => (by cases c)⟩, fun c => (by cases c)⟩
            · exact ⟨fun c => (by cases c), fun _ => ⟨rk_eqOk (W [a, o]) [a, o], rk_eqOk _ _, rk_cmp (W [a, o]) w' [a, o] row', fun c => fin _ G6 _ (.keep _ (.keep _ (.keep _ (.keep _ (.keep _ (.keep _ (.keep _ (.keep _ (.keep _ (.drop _ (.drop _ (.drop _ .nil)))))))))))) s6 (hB.less (fun z => by cases z) c1 c), fun c => fin _ G6 _ (.keep _ (.keep _ (.keep _ (.keep _ (.keep _ (.keep _ (.keep _ (.keep _ (.keep _ (.drop _ (.drop _ (.drop _ .nil)))))))))))) s6 (hB.keep (fun z => by cases z) c)⟩⟩
        · rintro ρ G5 ⟨t, rfl, s5, hB⟩
          rw [List.length_map, List.take_length] at hB
          refine ⟨_, _, .keep _ (.keep _ (.keep _ (.keep _ (.keep _ (.keep _ (.keep _ (.drop _ (.keep _ (.drop _ (.drop _ (.drop _ .nil))))))))))), Sub.refl _, t, rfl, s4.trans s5, ?_⟩
          rw [take_one ha, List.flatMap_append]
          simpa using hB
      · rintro ρ G4 ⟨t, rfl, s4, hB⟩
        rw [List.length_map, List.take_length] at hB
        refine Ret.of (hQ t _ (hB.min fun row => ?_) (sb.trans s4))
        rw [List.mem_flatMap]
        by_cases h1 : ws.length = 1
        · have emk : ∀ a o, mk a o = [a] := fun a o => if_pos h1
          have ewl : wl = w0 := by
            rw [h1] at hwl
            rw [hw0] at hwl
            exact (Option.some.inj hwl).symm
          subst ewl
          constructor
          · rintro ⟨a, ha, hm⟩
            obtain ⟨o, ho, rfl⟩ := List.mem_map.mp hm
            rw [emk, h1]
            exact (RowI.snoc (row := []) hw0).mpr ⟨RowI.nil.mpr rfl, (m0' a).mp ha⟩
          · intro h
            rw [h1] at h
            have hl := h.len
            match row, hl with
            | [a], _ =>
              have h2 := ((RowI.snoc (row := []) hw0).mp h).2
              exact ⟨a, (m0' a).mpr h2, List.mem_map.mpr ⟨a, (ml' a).mpr h2, emk a a⟩⟩
        · have h2 : ws.length = 2 := by omega
          have emk : ∀ a o, mk a o = [a, o] := fun a o => if_neg h1
          have hw1 : ws[1]? = some wl := by rw [h2] at hwl; exact hwl
          constructor
          · rintro ⟨a, ha, hm⟩
            obtain ⟨o, ho, rfl⟩ := List.mem_map.mp hm
            rw [emk, h2]
            exact (RowI.snoc (row := [a]) hw1).mpr ⟨(RowI.snoc (row := []) hw0).mpr ⟨RowI.nil.mpr rfl, (m0' a).mp ha⟩, (ml' o).mp ho⟩
          · intro h
            rw [h2] at h
            have hl := h.len
            match row, hl with
            | [a, o], _ =>
              obtain ⟨k1, k2⟩ := (RowI.snoc (row := [a]) hw1).mp h
              have k3 := ((RowI.snoc (row := []) hw0).mp k1).2
              exact ⟨a, (m0' a).mpr k3, List.mem_map.mpr ⟨o, (ml' o).mpr k2, emk a o⟩⟩
abbrev s_law : Stmt := topS 22
abbrev N_law : List Str := ["script", "k", "bag", "rules", "size", "turn", "wishes", "mos1", "number"]
theorem sc_law : FnScope N_law ["script"] (defScope s_law) := ⟨rfl, rfl, rfl, by decide +kernel, rfl, by decide +kernel, by decide +kernel⟩
theorem min2_le {a b : Int} (h : 0 ≤ a) (hb : 0 ≤ b) : 0 ≤ (if b < a then b else a) ∧ (if b < a then b else a) ≤ a ∧ (if b < a then b else a) ≤ b := by split <;> omega
theorem ok_law_fn {P : Program} {w : World} {K : PySem.W.Frag} {mg : Str → Option Value} {base : Heap} {f : Addr} {fd : FuncData} (F : Fun K "law" "law" s_law f fd) (TX : Txt K mg) (D_law_bag : DefOk P w K mg base 1 "_law_bag" ["script", "k"] sp_law_bag) (D_law_size : DefOk P w K mg base 2 "_law_size" ["bag"] sp_law_size) (D_law_rules : DefOk P w K mg base 2 "_law_rules" ["bag"] sp_law_rules) (D_law_wish : DefOk P w K mg base 3 "_law_wish" ["bag", "rules", "size"] sp_law_wish) (D_law_take : DefOk P w K mg base 1 "_law_take" ["bag", "many"] sp_law_take) (D_fewest : DefOkK P w K mg base 4 "fewest" ["rules", "size", "wishes", "most"] 3 "most" 7 sp_fewest) (D_law_fewest : DefOk P w K mg base 3 "_law_fewest" ["rules", "size", "wishes", "mos1"] sp_law_fewest) :
    FnOk P w K mg base CX0 5 f fd ["script"] (cSp K spLaw) := by
  refine okq F sc_law (fun ts G Q E h => ?len) (fun cdv A outer s H E hr => ss_cons (s_for (own := [1]) PassesOwn.never rfl (i_rng1 (by rfl) TX.n_range (a_cons (e_op o_add (e_int) (e_callB (b_min2 rfl) (by rfl) TX.n_min (by decide +kernel) (a_cons (e_callB b_len (by rfl) TX.n_len (by decide +kernel) (a_cons (e_var 0) a_nil)) (a_cons (e_int) a_nil)))) a_nil)) (g_name (i := 1) sc_law.nd rfl (by first | exact Or.inl rfl | exact Or.inr rfl)) (ss_cons (s_set (i := 2) sc_law.nd rfl (by first | exact Or.inl rfl | exact Or.inr rfl) (e_callD D_law_bag (hr.mono (by decide)) (by rfl) (a_cons (e_var 0) (a_cons (e_var 1) a_nil))))
    (ss_cons (s_asg (own := [3, 4]) (e_tup (a_cons (e_callD D_law_rules (hr.mono (by decide)) (by rfl) (a_cons (e_var 2) a_nil)) (a_cons (e_callD D_law_size (hr.mono (by decide)) (by rfl) (a_cons (e_var 2) a_nil)) a_nil))) (g_tup (n := 2) rfl (gs_cons (g_name (i := 3) sc_law.nd rfl (by first | exact Or.inl rfl | exact Or.inr rfl)) (gs_cons (g_name (i := 4) sc_law.nd rfl (by first | exact Or.inl rfl | exact Or.inr rfl)) (gs_nil)))))
    (ss_cons (s_for (own := [5]) PassesOwn.never rfl (i_rng1 (by rfl) TX.n_range (a_cons (e_int) a_nil)) (g_name (i := 5) sc_law.nd rfl (by first | exact Or.inl rfl | exact Or.inr rfl)) (ss_cons (s_set (i := 6) sc_law.nd rfl (by first | exact Or.inl rfl | exact Or.inr rfl) (e_callTy b_tuple (by rfl) TX.n_tuple (by decide +kernel) (a_cons (e_lc (own := [("number", 8)]) rfl sc_law.nd (i_rng1 (by rfl) TX.n_range (a_cons (e_op o_add (e_int) (e_var 5)) a_nil)) (blkOk_by (N := N_law) (sc := defScope s_law) (own := [("number", 8)]) (by decide +kernel)) (fun _ _ _ _ _ => g_name (i := 8) sc_law.nd rfl (by first | exact Or.inl rfl | exact Or.inr rfl)) (fun _ _ _ _ _ => ts_nil) (fun _ _ _ _ _ => e_callD D_law_wish (hr.mono (by decide)) (by rfl) (a_cons (e_var 2) (a_cons (e_var 3) (a_cons (e_var 4) a_nil))))) a_nil)))
    (ss_cut (s_set (i := 7) sc_law.nd rfl (by first | exact Or.inl rfl | exact Or.inr rfl) (e_if (t_cmp (o_eq hr.units) (e_var 5) (e_int) (nomark _)) (e_ix i_ix (e_lst (a_cons (e_int) (a_cons (e_int) (a_cons (e_callD D_law_take (hr.mono (by decide)) (by rfl) (a_cons (e_var 2) (a_cons (e_int) a_nil))) a_nil)))) (e_callD D_law_take (hr.mono (by decide)) (by rfl) (a_cons (e_var 2) (a_cons (e_int) a_nil))) (fun _ _ => rfl)) (e_callD D_law_take (hr.mono (by decide)) (by rfl) (a_cons (e_var 2) (a_cons (e_int) a_nil)))))
    (ss_one (s_if (t_cmp (o_ne hr.units) (e_callKK D_fewest hr (by rfl) (a_cons (e_var 3) (a_cons (e_var 4) (a_cons (e_var 6) a_nil))) (e_var 7)) (e_callD D_law_fewest (hr.mono (by decide)) (by rfl) (a_cons (e_var 3) (a_cons (e_var 4) (a_cons (e_var 6) (a_cons (e_var 7) a_nil))))) (nomark _)) (ss_one (s_ret (e_bl))) (ss_nil))))))
    (ss_cons (s_set (i := 6) sc_law.nd rfl (by first | exact Or.inl rfl | exact Or.inr rfl) (e_tup (a_cons (e_callD D_law_wish (hr.mono (by decide)) (by rfl) (a_cons (e_var 2) (a_cons (e_var 3) (a_cons (e_var 4) a_nil)))) a_nil)))
    (ss_one (s_if (t_cmp (o_ne hr.units) (e_callKD D_fewest hr (by rfl) (a_cons (e_var 3) (a_cons (e_var 4) (a_cons (e_var 6) a_nil)))) (e_callD D_law_fewest (hr.mono (by decide)) (by rfl) (a_cons (e_var 3) (a_cons (e_var 4) (a_cons (e_var 6) (a_cons (e_int) a_nil))))) (nomark _)) (ss_one (s_ret (e_bl))) (ss_nil))))))))
    (ss_one (s_ret (e_bl))))
    (fun ts G Q E h => ?run)
  case len => obtain ⟨ns, rfl, _⟩ := h; rfl
  case run =>
    obtain ⟨ns, rfl, hn, hG, hQ⟩ := h
    obtain ⟨m0, m1, m2⟩ := min2_le (a := (ns.length : Int)) (b := 4) (by omega) (by decide)
    refine ⟨by omega, ?_⟩
    refine ⟨fun i ρ G' => ρ = [some (.scr ns), none, none, none, none, none, none, none, none] ∧ True, ⟨rfl, trivial⟩, fun _ _ _ _ _ => trivial, ?_, ?_⟩
    · rintro i t ρ G' ht ⟨rfl, _⟩
      obtain ⟨hi, rfl⟩ := rngT_at ht
      refine ⟨⟨by omega, by omega, hn⟩, fun b c1 c2 hb hc => ?_⟩
      have t0 : BT b (gput G' b (bagO c1 c2)) (gput G' b (bagO c1 c2)) := BT.start ⟨c1, c2, gput_same, hc⟩
      generalize gput G' b (bagO c1 c2) = G0 at t0 ⊢
      refine ⟨t0.bag, fun r G1 hr g1 => ?_⟩
      have t1 := t0.to g1
      refine ⟨t1.bag, fun s G2 hs g2 => ?_⟩
      have t2 := t1.to g2
      have kdl : ∀ G' : Gp, BT b G2 G' → BT b G2 G' := fun _ h => h
      refine ⟨by decide, ?_⟩
      refine ⟨fun j ρ G' => ρ = [some (.scr ns), some (.int i), some (.ref b), some (ruT r), some (fr s), none, none, none, none] ∧ BT b G2 G', ⟨rfl, BT.start t2.bag⟩, fun _ _ _ _ _ => trivial, ?_, ?_⟩
      · rintro j t ρ G' ht ⟨rfl, t3⟩
        obtain ⟨hj, rfl⟩ := rngT_at ht
        have hj2 : j < 2 := hj
        have ej : ((1 + (j : Int)).toNat) = 1 + j := by omega
        refine ⟨by omega, ?_⟩
        refine fun D hD => ⟨by rw [rngT_len, ej]; omega, fun k acc G3 => ∃ ws : List Wish, acc = ws.map wsT ∧ ws.length = k ∧ (∀ w ∈ ws, Wd2 w) ∧ BT b G' G3 ∧ G3 D = some (.lst acc), ⟨[], rfl, rfl, fun w h => (by cases h), (BT.start t3.bag).new hD, gput_same⟩, ?_, ?_, ?_⟩
        · rintro k acc G3 hk ⟨ws, rfl, z, hw, tt, e⟩
          exact ⟨trivial, e, by rw [List.length_map]; omega⟩
        · rintro k t acc G3 ht ⟨ws, rfl, z, hw, tt, e⟩
          have Db := (bag_new t3.bag hD).symm
          refine ⟨fun _ => ?_, fun c => (by cases c)⟩
          refine ⟨b, r, s, rfl, hr, hs, tt.bag, fun w G4 hw4 t4 => ?_⟩
          have t5 := tt.trans t4
          have e4 : G4 D = _ := t4.get Db e
          refine ⟨e4, _, Sub.refl _, ws ++ [w], by simp, by simp [z], fun v hv => ?_, ?_, gput_same⟩
          · rcases List.mem_append.mp hv with h | h
            · exact hw v h
            · rw [List.mem_singleton.mp h]; exact hw4
          · obtain ⟨d1, d2, o, sd⟩ := t5
            exact ⟨d1, d2, o, sd.mut (by rw [gput_ne Db]; exact hD)⟩
        · rintro acc G3 ⟨ws, rfl, z, hw, tt, e⟩
          rw [rngT_len, ej] at z
          have t4 := t3.trans tt
          refine ⟨_, e, ?_⟩
          refine ⟨fun ρ G5 => ∃ m : Int, ρ = [some (.scr ns), some (.int i), some (.ref b), some (ruT r), some (fr s), some (.int j), some (.tup (ws.map wsT)), some (.int m), none] ∧ 0 ≤ m ∧ m ≤ 7 ∧ BT b G2 G5, ?_, ?_⟩
          · refine ⟨fun c => ?_, fun c => ?_⟩
            · refine ⟨⟨t4.bag, by decide, by decide⟩, fun x G5 lx ux g5 => ?_⟩
              have t5 := t4.to g5
              intro p hp
              have t6 := t5.new (o := .lst [.int 4, .int 7, .int x]) hp
              have e6 : gput G5 p (.lst [.int 4, .int 7, .int x]) p = some (.lst [.int 4, .int 7, .int x]) := gput_same
              refine ⟨⟨t6.bag, by decide, by decide⟩, fun y G7 ly uy g7 => ?_⟩
              have t7 := t6.to g7
              have e7 := (g7.ne (bag_new t5.bag hp).symm).trans e6
              obtain ⟨m, hm, i2, hi1, hi2⟩ := pick3 (a := 4) (b := 7) (c := x) ly uy
              refine ⟨_, _, _, e7, hi1, hi2, ?_⟩
              exact ⟨_, _, ELe.refl _, Sub.refl _, m, rfl, by omega, by omega, t7⟩
            · refine ⟨⟨t4.bag, by decide, by decide⟩, fun x G5 lx ux g5 => ?_⟩
              exact ⟨_, _, ELe.refl _, Sub.refl _, x, rfl, by omega, by omega, t4.to g5⟩
          rintro ρ G5 ⟨m, rfl, k0, k7, t5⟩
          refine ⟨rfl, r, s, ws, m, rfl, hr, hs, k0, k7, by omega, hw, fun u G6 hu s6 => ?_⟩
          refine ⟨r, s, ws, m, rfl, hr, hs, k0, k7, by omega, by omega, hw, fun v G7 hv s7 => ?_⟩
          have euv := hu.uniq hv
          subst euv
          have t7 : BT b G2 G7 := by
            obtain ⟨d1, d2, o, sd⟩ := t5
            exact ⟨d1, d2, o, (sd.trans s6).trans s7⟩
          rcases hu.eqOk with rfl | ⟨w, row, rfl⟩
          · exact ⟨rfl, rfl, fun c => dead (by simp [teq]) c, fun _ => ⟨_, _, .keep _ (.keep _ (.keep _ (.keep _ (.keep _ (.drop _ (.drop _ (.drop _ (.drop _ .nil)))))))), Sub.refl _, rfl, t7⟩⟩
          · exact ⟨rk_eqOk w row, rk_eqOk w row, fun c => dead (by rw [teq_refl (rkT w row) (rk_ok w row).1]; rfl) c, fun _ => ⟨_, _, .keep _ (.keep _ (.keep _ (.keep _ (.keep _ (.drop _ (.drop _ (.drop _ (.drop _ .nil)))))))), Sub.refl _, rfl, t7⟩⟩
      · rintro ρ G' ⟨rfl, t3⟩
        refine ⟨b, r, s, rfl, hr, hs, t3.bag, fun w G4 hw4 t4 => ?_⟩
        have hw1 : ∀ v ∈ [w], Wd2 v := fun v hv => by rw [List.mem_singleton.mp hv]; exact hw4
        refine ⟨r, s, [w], 7, rfl, hr, hs, by decide, by decide, by simp, hw1, fun u G6 hu s6 => ?_⟩
        refine ⟨r, s, [w], 7, rfl, hr, hs, by decide, by decide, by simp, by simp, hw1, fun v G7 hv s7 => ?_⟩
        have euv := hu.uniq hv
        subst euv
        rcases hu.eqOk with rfl | ⟨w, row, rfl⟩
        · exact ⟨rfl, rfl, fun c => dead (by simp [teq]) c, fun _ => ⟨_, _, .keep _ (.drop _ (.drop _ (.drop _ (.drop _ (.drop _ (.drop _ (.drop _ (.drop _ .nil)))))))), Sub.refl _, rfl, trivial⟩⟩
        · exact ⟨rk_eqOk w row, rk_eqOk w row, fun c => dead (by rw [teq_refl (rkT w row) (rk_ok w row).1]; rfl) c, fun _ => ⟨_, _, .keep _ (.drop _ (.drop _ (.drop _ (.drop _ (.drop _ (.drop _ (.drop _ (.drop _ .nil)))))))), Sub.refl _, rfl, trivial⟩⟩
    · rintro ρ G' ⟨rfl, _⟩
      exact Ret.of (hQ _)
theorem all_mk {l : PySem.W.OpenLaw} {w : World} {K : PySem.W.Frag} {h : Heap} {mg : Str → Option Value} {fa : Addr} (X : K.In h) (G : h.Ns mainGlobals mg) (hfa : mg "law" = some (.ref fa))
    {f0 : Addr} {oc0 kV0 dc0 pm0 cd0 ct0 : Value} {od0 an0 : Option Addr} {sl0 : Array (Option Value)}
    {f1 : Addr} {oc1 kV1 dc1 pm1 cd1 ct1 : Value} {od1 an1 : Option Addr} {sl1 : Array (Option Value)}
    {f2 : Addr} {oc2 kV2 dc2 pm2 cd2 ct2 : Value} {od2 an2 : Option Addr} {sl2 : Array (Option Value)}
    {f3 : Addr} {oc3 kV3 dc3 pm3 cd3 ct3 : Value} {od3 an3 : Option Addr} {sl3 : Array (Option Value)}
    {f4 : Addr} {oc4 kV4 dc4 pm4 cd4 ct4 : Value} {od4 an4 : Option Addr} {sl4 : Array (Option Value)}
    {f5 : Addr} {oc5 dc5 pm5 cd5 ct5 : Value} {od5 an5 : Option Addr} {sl5 : Array (Option Value)}
    {kD5 : Addr} {kt5 : Tok}
    {f6 : Addr} {oc6 kV6 dc6 pm6 cd6 ct6 : Value} {od6 an6 : Option Addr} {sl6 : Array (Option Value)}
    {f7 : Addr} {oc7 kV7 dc7 pm7 cd7 ct7 : Value} {od7 an7 : Option Addr} {sl7 : Array (Option Value)}
    {f8 : Addr} {oc8 kV8 dc8 pm8 cd8 ct8 : Value} {od8 an8 : Option Addr} {sl8 : Array (Option Value)}
    {f9 : Addr} {oc9 kV9 dc9 pm9 cd9 ct9 : Value} {od9 an9 : Option Addr} {sl9 : Array (Option Value)}
    {f10 : Addr} {oc10 kV10 dc10 pm10 cd10 ct10 : Value} {od10 an10 : Option Addr} {sl10 : Array (Option Value)}
    {f11 : Addr} {oc11 kV11 dc11 pm11 cd11 ct11 : Value} {od11 an11 : Option Addr} {sl11 : Array (Option Value)}
    {f12 : Addr} {oc12 kV12 dc12 pm12 cd12 ct12 : Value} {od12 an12 : Option Addr} {sl12 : Array (Option Value)}
    {f13 : Addr} {oc13 kV13 dc13 pm13 cd13 ct13 : Value} {od13 an13 : Option Addr} {sl13 : Array (Option Value)}
    {f14 : Addr} {oc14 kV14 dc14 pm14 cd14 ct14 : Value} {od14 an14 : Option Addr} {sl14 : Array (Option Value)}
    {f15 : Addr} {oc15 kV15 dc15 pm15 cd15 ct15 : Value} {od15 an15 : Option Addr} {sl15 : Array (Option Value)}
    {f16 : Addr} {oc16 kV16 dc16 pm16 cd16 ct16 : Value} {od16 an16 : Option Addr} {sl16 : Array (Option Value)}
    {f17 : Addr} {oc17 kV17 dc17 pm17 cd17 ct17 : Value} {od17 an17 : Option Addr} {sl17 : Array (Option Value)}
    {f18 : Addr} {oc18 kV18 dc18 pm18 cd18 ct18 : Value} {od18 an18 : Option Addr} {sl18 : Array (Option Value)}
    {f19 : Addr} {oc19 kV19 dc19 pm19 cd19 ct19 : Value} {od19 an19 : Option Addr} {sl19 : Array (Option Value)}
    (a0 : PySem.W.nsIn K mainGlobals "lowest" = some (some (.ref f0)))
    (l0 : K.lookup f0 = some ⟨oc0, od0, .func (PySem.W.fnOf "lowest" "lowest" (defArgs s_lowest) (defBody s_lowest) (defScope s_lowest) .none kV0 dc0 pm0 an0 cd0 ct0), sl0⟩)
    (c0 : PySem.W.codeIn K cd0 "lowest" = true)
    (k0 : PySem.W.keepIn K (.ref f0) = true)
    (a1 : PySem.W.nsIn K mainGlobals "casting" = some (some (.ref f1)))
    (l1 : K.lookup f1 = some ⟨oc1, od1, .func (PySem.W.fnOf "casting" "casting" (defArgs s_casting) (defBody s_casting) (defScope s_casting) .none kV1 dc1 pm1 an1 cd1 ct1), sl1⟩)
    (c1 : PySem.W.codeIn K cd1 "casting" = true)
    (k1 : PySem.W.keepIn K (.ref f1) = true)
    (a2 : PySem.W.nsIn K mainGlobals "short_lines" = some (some (.ref f2)))
    (l2 : K.lookup f2 = some ⟨oc2, od2, .func (PySem.W.fnOf "short_lines" "short_lines" (defArgs s_short_lines) (defBody s_short_lines) (defScope s_short_lines) .none kV2 dc2 pm2 an2 cd2 ct2), sl2⟩)
    (c2 : PySem.W.codeIn K cd2 "short_lines" = true)
    (k2 : PySem.W.keepIn K (.ref f2) = true)
    (a3 : PySem.W.nsIn K mainGlobals "wanted" = some (some (.ref f3)))
    (l3 : K.lookup f3 = some ⟨oc3, od3, .func (PySem.W.fnOf "wanted" "wanted" (defArgs s_wanted) (defBody s_wanted) (defScope s_wanted) .none kV3 dc3 pm3 an3 cd3 ct3), sl3⟩)
    (c3 : PySem.W.codeIn K cd3 "wanted" = true)
    (k3 : PySem.W.keepIn K (.ref f3) = true)
    (a4 : PySem.W.nsIn K mainGlobals "fills" = some (some (.ref f4)))
    (l4 : K.lookup f4 = some ⟨oc4, od4, .func (PySem.W.fnOf "fills" "fills" (defArgs s_fills) (defBody s_fills) (defScope s_fills) .none kV4 dc4 pm4 an4 cd4 ct4), sl4⟩)
    (c4 : PySem.W.codeIn K cd4 "fills" = true)
    (k4 : PySem.W.keepIn K (.ref f4) = true)
    (a5 : PySem.W.nsIn K mainGlobals "fewest" = some (some (.ref f5)))
    (l5 : K.lookup f5 = some ⟨oc5, od5, .func (PySem.W.fnOf "fewest" "fewest" (defArgs s_fewest) (defBody s_fewest) (defScope s_fewest) .none (.ref kD5) dc5 pm5 an5 cd5 ct5), sl5⟩)
    (d5 : PySem.W.nsIn K kD5 "most" = some (some (.int 7 kt5)))
    (c5 : PySem.W.codeIn K cd5 "fewest" = true)
    (k5 : PySem.W.keepIn K (.ref f5) = true)
    (a6 : PySem.W.nsIn K mainGlobals "_law_bag" = some (some (.ref f6)))
    (l6 : K.lookup f6 = some ⟨oc6, od6, .func (PySem.W.fnOf "_law_bag" "_law_bag" (defArgs s_law_bag) (defBody s_law_bag) (defScope s_law_bag) .none kV6 dc6 pm6 an6 cd6 ct6), sl6⟩)
    (c6 : PySem.W.codeIn K cd6 "_law_bag" = true)
    (k6 : PySem.W.keepIn K (.ref f6) = true)
    (a7 : PySem.W.nsIn K mainGlobals "_law_take" = some (some (.ref f7)))
    (l7 : K.lookup f7 = some ⟨oc7, od7, .func (PySem.W.fnOf "_law_take" "_law_take" (defArgs s_law_take) (defBody s_law_take) (defScope s_law_take) .none kV7 dc7 pm7 an7 cd7 ct7), sl7⟩)
    (c7 : PySem.W.codeIn K cd7 "_law_take" = true)
    (k7 : PySem.W.keepIn K (.ref f7) = true)
    (a8 : PySem.W.nsIn K mainGlobals "_law_lowest" = some (some (.ref f8)))
    (l8 : K.lookup f8 = some ⟨oc8, od8, .func (PySem.W.fnOf "_law_lowest" "_law_lowest" (defArgs s_law_lowest) (defBody s_law_lowest) (defScope s_law_lowest) .none kV8 dc8 pm8 an8 cd8 ct8), sl8⟩)
    (c8 : PySem.W.codeIn K cd8 "_law_lowest" = true)
    (k8 : PySem.W.keepIn K (.ref f8) = true)
    (a9 : PySem.W.nsIn K mainGlobals "_law_rules" = some (some (.ref f9)))
    (l9 : K.lookup f9 = some ⟨oc9, od9, .func (PySem.W.fnOf "_law_rules" "_law_rules" (defArgs s_law_rules) (defBody s_law_rules) (defScope s_law_rules) .none kV9 dc9 pm9 an9 cd9 ct9), sl9⟩)
    (c9 : PySem.W.codeIn K cd9 "_law_rules" = true)
    (k9 : PySem.W.keepIn K (.ref f9) = true)
    (a10 : PySem.W.nsIn K mainGlobals "_law_size" = some (some (.ref f10)))
    (l10 : K.lookup f10 = some ⟨oc10, od10, .func (PySem.W.fnOf "_law_size" "_law_size" (defArgs s_law_size) (defBody s_law_size) (defScope s_law_size) .none kV10 dc10 pm10 an10 cd10 ct10), sl10⟩)
    (c10 : PySem.W.codeIn K cd10 "_law_size" = true)
    (k10 : PySem.W.keepIn K (.ref f10) = true)
    (a11 : PySem.W.nsIn K mainGlobals "_law_line" = some (some (.ref f11)))
    (l11 : K.lookup f11 = some ⟨oc11, od11, .func (PySem.W.fnOf "_law_line" "_law_line" (defArgs s_law_line) (defBody s_law_line) (defScope s_law_line) .none kV11 dc11 pm11 an11 cd11 ct11), sl11⟩)
    (c11 : PySem.W.codeIn K cd11 "_law_line" = true)
    (k11 : PySem.W.keepIn K (.ref f11) = true)
    (a12 : PySem.W.nsIn K mainGlobals "_law_sized" = some (some (.ref f12)))
    (l12 : K.lookup f12 = some ⟨oc12, od12, .func (PySem.W.fnOf "_law_sized" "_law_sized" (defArgs s_law_sized) (defBody s_law_sized) (defScope s_law_sized) .none kV12 dc12 pm12 an12 cd12 ct12), sl12⟩)
    (c12 : PySem.W.codeIn K cd12 "_law_sized" = true)
    (k12 : PySem.W.keepIn K (.ref f12) = true)
    (a13 : PySem.W.nsIn K mainGlobals "_law_less" = some (some (.ref f13)))
    (l13 : K.lookup f13 = some ⟨oc13, od13, .func (PySem.W.fnOf "_law_less" "_law_less" (defArgs s_law_less) (defBody s_law_less) (defScope s_law_less) .none kV13 dc13 pm13 an13 cd13 ct13), sl13⟩)
    (c13 : PySem.W.codeIn K cd13 "_law_less" = true)
    (k13 : PySem.W.keepIn K (.ref f13) = true)
    (a14 : PySem.W.nsIn K mainGlobals "_law_few_lines" = some (some (.ref f14)))
    (l14 : K.lookup f14 = some ⟨oc14, od14, .func (PySem.W.fnOf "_law_few_lines" "_law_few_lines" (defArgs s_law_few_lines) (defBody s_law_few_lines) (defScope s_law_few_lines) .none kV14 dc14 pm14 an14 cd14 ct14), sl14⟩)
    (c14 : PySem.W.codeIn K cd14 "_law_few_lines" = true)
    (k14 : PySem.W.keepIn K (.ref f14) = true)
    (a15 : PySem.W.nsIn K mainGlobals "_law_wanted" = some (some (.ref f15)))
    (l15 : K.lookup f15 = some ⟨oc15, od15, .func (PySem.W.fnOf "_law_wanted" "_law_wanted" (defArgs s_law_wanted) (defBody s_law_wanted) (defScope s_law_wanted) .none kV15 dc15 pm15 an15 cd15 ct15), sl15⟩)
    (c15 : PySem.W.codeIn K cd15 "_law_wanted" = true)
    (k15 : PySem.W.keepIn K (.ref f15) = true)
    (a16 : PySem.W.nsIn K mainGlobals "_law_fills" = some (some (.ref f16)))
    (l16 : K.lookup f16 = some ⟨oc16, od16, .func (PySem.W.fnOf "_law_fills" "_law_fills" (defArgs s_law_fills) (defBody s_law_fills) (defScope s_law_fills) .none kV16 dc16 pm16 an16 cd16 ct16), sl16⟩)
    (c16 : PySem.W.codeIn K cd16 "_law_fills" = true)
    (k16 : PySem.W.keepIn K (.ref f16) = true)
    (a17 : PySem.W.nsIn K mainGlobals "_law_wish" = some (some (.ref f17)))
    (l17 : K.lookup f17 = some ⟨oc17, od17, .func (PySem.W.fnOf "_law_wish" "_law_wish" (defArgs s_law_wish) (defBody s_law_wish) (defScope s_law_wish) .none kV17 dc17 pm17 an17 cd17 ct17), sl17⟩)
    (c17 : PySem.W.codeIn K cd17 "_law_wish" = true)
    (k17 : PySem.W.keepIn K (.ref f17) = true)
    (a18 : PySem.W.nsIn K mainGlobals "_law_fewest" = some (some (.ref f18)))
    (l18 : K.lookup f18 = some ⟨oc18, od18, .func (PySem.W.fnOf "_law_fewest" "_law_fewest" (defArgs s_law_fewest) (defBody s_law_fewest) (defScope s_law_fewest) .none kV18 dc18 pm18 an18 cd18 ct18), sl18⟩)
    (c18 : PySem.W.codeIn K cd18 "_law_fewest" = true)
    (k18 : PySem.W.keepIn K (.ref f18) = true)
    (a19 : PySem.W.nsIn K mainGlobals "law" = some (some (.ref f19)))
    (l19 : K.lookup f19 = some ⟨oc19, od19, .func (PySem.W.fnOf "law" "law" (defArgs s_law) (defBody s_law) (defScope s_law) .none kV19 dc19 pm19 an19 cd19 ct19), sl19⟩)
    (c19 : PySem.W.codeIn K cd19 "law" = true)
    (k19 : PySem.W.keepIn K (.ref f19) = true)
    (z_min : PySem.W.nsIn K mainGlobals "min" = some none)
    (z_range : PySem.W.nsIn K mainGlobals "range" = some none)
    (z_sorted : PySem.W.nsIn K mainGlobals "sorted" = some none)
    (z_enumerate : PySem.W.nsIn K mainGlobals "enumerate" = some none)
    (z_max : PySem.W.nsIn K mainGlobals "max" = some none)
    (z_sum : PySem.W.nsIn K mainGlobals "sum" = some none)
    (z_abs : PySem.W.nsIn K mainGlobals "abs" = some none)
    (z_len : PySem.W.nsIn K mainGlobals "len" = some none)
    (z_tuple : PySem.W.nsIn K mainGlobals "tuple" = some none)
    (z_set : PySem.W.nsIn K mainGlobals "set" = some none)
     :
    ∃ fd : FuncData, (∀ (s : Shared) (v : Value), BindsTo s fd ⟨[v], []⟩ [("script", v)]) ∧ ∀ base : Heap, K.In base → base.Ns mainGlobals mg → FnOk l.prog w K mg base CX0 5 fa fd ["script"] (cSp K spLaw) := by
  have e := hfa.symm.trans (PySem.W.mg_of X G a19)
  cases e
  have T : Txt K mg := ⟨PySem.W.mg_none_of X G z_min, PySem.W.mg_none_of X G z_range, PySem.W.mg_none_of X G z_sorted, PySem.W.mg_none_of X G z_enumerate, PySem.W.mg_none_of X G z_max, PySem.W.mg_none_of X G z_sum, PySem.W.mg_none_of X G z_abs, PySem.W.mg_none_of X G z_len, PySem.W.mg_none_of X G z_tuple, PySem.W.mg_none_of X G z_set⟩
  have F0 : FunAt K mg "lowest" "lowest" s_lowest ["top", "bottom"] := funAt_mk X G a0 l0 c0 k0 fun _ _ _ _ _ _ us hl => match us, hl with | [_, _], _ => rfl
  have F1 : FunAt K mg "casting" "casting" s_casting ["rules", "size", "number"] := funAt_mk X G a1 l1 c1 k1 fun _ _ _ _ _ _ us hl => match us, hl with | [_, _, _], _ => rfl
  have F2 : FunAt K mg "short_lines" "short_lines" s_short_lines ["rules", "size", "most"] := funAt_mk X G a2 l2 c2 k2 fun _ _ _ _ _ _ us hl => match us, hl with | [_, _, _], _ => rfl
  have F3 : FunAt K mg "wanted" "wanted" s_wanted ["lines"] := funAt_mk X G a3 l3 c3 k3 fun _ _ _ _ _ _ us hl => match us, hl with | [_], _ => rfl
  have F4 : FunAt K mg "fills" "fills" s_fills ["size", "wish"] := funAt_mk X G a4 l4 c4 k4 fun _ _ _ _ _ _ us hl => match us, hl with | [_, _], _ => rfl
  have F5 : FunAtK K mg "fewest" "fewest" s_fewest ["rules", "size", "wishes", "most"] 3 "most" 7 := funAtK_mk X G a5 l5 c5 k5 d5 rfl (fun _ _ _ _ _ _ us ks h1 h2 => match us, ks, h1, h2 with | [_, _, _], [_], _, _ => ⟨_, _, _, _, _, _, rfl, rfl, rfl⟩) fun _ _ _ _ _ _ us ws h1 h2 => match us, ws, h1, h2 with | [_, _, _], [_], _, _ => rfl
  have F6 : FunAt K mg "_law_bag" "_law_bag" s_law_bag ["script", "k"] := funAt_mk X G a6 l6 c6 k6 fun _ _ _ _ _ _ us hl => match us, hl with | [_, _], _ => rfl
  have F7 : FunAt K mg "_law_take" "_law_take" s_law_take ["bag", "many"] := funAt_mk X G a7 l7 c7 k7 fun _ _ _ _ _ _ us hl => match us, hl with | [_, _], _ => rfl
  have F8 : FunAt K mg "_law_lowest" "_law_lowest" s_law_lowest ["top", "bottom"] := funAt_mk X G a8 l8 c8 k8 fun _ _ _ _ _ _ us hl => match us, hl with | [_, _], _ => rfl
  have F9 : FunAt K mg "_law_rules" "_law_rules" s_law_rules ["bag"] := funAt_mk X G a9 l9 c9 k9 fun _ _ _ _ _ _ us hl => match us, hl with | [_], _ => rfl
  have F10 : FunAt K mg "_law_size" "_law_size" s_law_size ["bag"] := funAt_mk X G a10 l10 c10 k10 fun _ _ _ _ _ _ us hl => match us, hl with | [_], _ => rfl
  have F11 : FunAt K mg "_law_line" "_law_line" s_law_line ["bag", "rules", "mos1"] := funAt_mk X G a11 l11 c11 k11 fun _ _ _ _ _ _ us hl => match us, hl with | [_, _, _], _ => rfl
  have F12 : FunAt K mg "_law_sized" "_law_sized" s_law_sized ["rules", "size", "line"] := funAt_mk X G a12 l12 c12 k12 fun _ _ _ _ _ _ us hl => match us, hl with | [_, _, _], _ => rfl
  have F13 : FunAt K mg "_law_less" "_law_less" s_law_less ["one", "other"] := funAt_mk X G a13 l13 c13 k13 fun _ _ _ _ _ _ us hl => match us, hl with | [_, _], _ => rfl
  have F14 : FunAt K mg "_law_few_lines" "_law_few_lines" s_law_few_lines ["life", "mos1"] := funAt_mk X G a14 l14 c14 k14 fun _ _ _ _ _ _ us hl => match us, hl with | [_, _], _ => rfl
  have F15 : FunAt K mg "_law_wanted" "_law_wanted" s_law_wanted ["lines"] := funAt_mk X G a15 l15 c15 k15 fun _ _ _ _ _ _ us hl => match us, hl with | [_], _ => rfl
  have F16 : FunAt K mg "_law_fills" "_law_fills" s_law_fills ["size", "wish"] := funAt_mk X G a16 l16 c16 k16 fun _ _ _ _ _ _ us hl => match us, hl with | [_, _], _ => rfl
  have F17 : FunAt K mg "_law_wish" "_law_wish" s_law_wish ["bag", "rules", "size"] := funAt_mk X G a17 l17 c17 k17 fun _ _ _ _ _ _ us hl => match us, hl with | [_, _, _], _ => rfl
  have F18 : FunAt K mg "_law_fewest" "_law_fewest" s_law_fewest ["rules", "size", "wishes", "mos1"] := funAt_mk X G a18 l18 c18 k18 fun _ _ _ _ _ _ us hl => match us, hl with | [_, _, _, _], _ => rfl
  refine ⟨PySem.W.fnOf "law" "law" (defArgs s_law) (defBody s_law) (defScope s_law) .none kV19 dc19 pm19 an19 cd19 ct19, fun s v => .of_eq rfl, fun base _ _ => ?_⟩
  have D0 := ok_lowest (P := l.prog) (w := w) (base := base) F0 T 
  have D1 := ok_casting (P := l.prog) (w := w) (base := base) F1 T D0
  have D2 := ok_short_lines (P := l.prog) (w := w) (base := base) F2 T D1
  have D3 := ok_wanted (P := l.prog) (w := w) (base := base) F3 T 
  have D4 := ok_fills (P := l.prog) (w := w) (base := base) F4 T 
  have D5 := ok_fewest (P := l.prog) (w := w) (base := base) F5 T D2 D4 D3
  have D6 := ok_law_bag (P := l.prog) (w := w) (base := base) F6 T 
  have D7 := ok_law_take (P := l.prog) (w := w) (base := base) F7 T 
  have D8 := ok_law_lowest (P := l.prog) (w := w) (base := base) F8 T 
  have D9 := ok_law_rules (P := l.prog) (w := w) (base := base) F9 T D7 D8
  have D10 := ok_law_size (P := l.prog) (w := w) (base := base) F10 T D7 D8
  have D11 := ok_law_line (P := l.prog) (w := w) (base := base) F11 T D7
  have D12 := ok_law_sized (P := l.prog) (w := w) (base := base) F12 T D8
  have D13 := ok_law_less (P := l.prog) (w := w) (base := base) F13 T 
  have D14 := ok_law_few_lines (P := l.prog) (w := w) (base := base) F14 T 
  have D15 := ok_law_wanted (P := l.prog) (w := w) (base := base) F15 T 
  have D16 := ok_law_fills (P := l.prog) (w := w) (base := base) F16 T D13
  have D17 := ok_law_wish (P := l.prog) (w := w) (base := base) F17 T D12 D11 D7 D8
  have D18 := ok_law_fewest (P := l.prog) (w := w) (base := base) F18 T D14 D16 D12 D15
  have FL : FunAt K mg "law" "law" s_law ["script"] := funAt_mk X G a19 l19 c19 k19 fun _ _ _ _ _ _ us hl => match us, hl with | [_], _ => rfl
  exact ok_law_fn (fun_mk (st := s_law) l19 c19 k19) T D6 D10 D9 D17 D7 D5 D18
theorem walk {l : PySem.W.OpenLaw} {q : Program} {loose : List Str} {XP : (Str → Option Value) → Heap → Prop} {YP : World → Heap → Prop} {d : DefRec} {K : Params → PySem.W.Frag} (hn : l.most = some 63) (hdf : d.params.defaults = [])
    (hY : ∀ (w : World) (h : Heap), YP w h → (K w.params).In h)
    (F : ∀ (w : World) (mg : Str → Option Value) (fa : Addr) (h : Heap), (K w.params).In h → h.Ns mainGlobals mg → mg d.name = some (.ref fa) →
      ∃ fd : FuncData, (∀ (s : Shared) (u : Value), BindsTo s fd ⟨[u], []⟩ [("script", u)]) ∧ ∀ base : Heap, (K w.params).In base → base.Ns mainGlobals mg → FnOk l.prog w (K w.params) mg base CX0 5 fa fd ["script"] (cSp (K w.params) spLaw)) :
    PySem.W.WalkO q loose XP YP l.row.toRowW d [] (fun f vs => PySem.call f vs) :=
  L2.walk_of (n := 63) (k := 5) (x := "script") (CX := fun _ => CX0) (sp := fun w => cSp (K w.params) spLaw) hn (by decide) hdf ⟨rfl, by decide, by decide⟩ hY F (fun _ _ a ns hl hO hS => law_sp hl hO hS) fun _ _ _ _ _ z => z
end Law
open PySem PySem.W PyProof.Rows
set_option maxRecDepth 100000 in
set_option maxHeartbeats 0 in
theorem PySem.Challenge.cw_mouldkin_k05_fewest_by_all_lines_holds : PySem.Challenge.rw_mouldkin_k05_fewest_by_all_lines.Holds := by
  w_on; o_law; k_head; (case hw => w_witness2)
  k_fill
  refine Law.walk (l := PySem.Challenge.rw_mouldkin_k05_fewest_by_all_lines) rfl rfl (fun w h Y => PySem.W.kIn_of Y) ?F
  case F =>
    intro w mg fa h KX G hmg
    refine' Law.all_mk KX G hmg ?a0 ?l0 ?c0 ?k0 ?a1 ?l1 ?c1 ?k1 ?a2 ?l2 ?c2 ?k2 ?a3 ?l3 ?c3 ?k3 ?a4 ?l4 ?c4 ?k4 ?a5 ?l5 ?d5 ?c5 ?k5 ?a6 ?l6 ?c6 ?k6 ?a7 ?l7 ?c7 ?k7 ?a8 ?l8 ?c8 ?k8 ?a9 ?l9 ?c9 ?k9 ?a10 ?l10 ?c10 ?k10 ?a11 ?l11 ?c11 ?k11 ?a12 ?l12 ?c12 ?k12 ?a13 ?l13 ?c13 ?k13 ?a14 ?l14 ?c14 ?k14 ?a15 ?l15 ?c15 ?k15 ?a16 ?l16 ?c16 ?k16 ?a17 ?l17 ?c17 ?k17 ?a18 ?l18 ?c18 ?k18 ?a19 ?l19 ?c19 ?k19 ?z_min ?z_range ?z_sorted ?z_enumerate ?z_max ?z_sum ?z_abs ?z_len ?z_tuple ?z_set
    (case a0 => k_is)
    (case l0 => k_is)
    (case c0 => k_is)
    (case k0 => k_is)
    (case a1 => k_is)
    (case l1 => k_is)
    (case c1 => k_is)
    (case k1 => k_is)
    (case a2 => k_is)
    (case l2 => k_is)
    (case c2 => k_is)
    (case k2 => k_is)
    (case a3 => k_is)
    (case l3 => k_is)
    (case c3 => k_is)
    (case k3 => k_is)
    (case a4 => k_is)
    (case l4 => k_is)
    (case c4 => k_is)
    (case k4 => k_is)
    (case a5 => k_is)
    (case l5 => k_is)
    (case d5 => k_is)
    (case c5 => k_is)
    (case k5 => k_is)
    (case a6 => k_is)
    (case l6 => k_is)
    (case c6 => k_is)
    (case k6 => k_is)
    (case a7 => k_is)
    (case l7 => k_is)
    (case c7 => k_is)
    (case k7 => k_is)
    (case a8 => k_is)
    (case l8 => k_is)
    (case c8 => k_is)
    (case k8 => k_is)
    (case a9 => k_is)
    (case l9 => k_is)
    (case c9 => k_is)
    (case k9 => k_is)
    (case a10 => k_is)
    (case l10 => k_is)
    (case c10 => k_is)
    (case k10 => k_is)
    (case a11 => k_is)
    (case l11 => k_is)
    (case c11 => k_is)
    (case k11 => k_is)
    (case a12 => k_is)
    (case l12 => k_is)
    (case c12 => k_is)
    (case k12 => k_is)
    (case a13 => k_is)
    (case l13 => k_is)
    (case c13 => k_is)
    (case k13 => k_is)
    (case a14 => k_is)
    (case l14 => k_is)
    (case c14 => k_is)
    (case k14 => k_is)
    (case a15 => k_is)
    (case l15 => k_is)
    (case c15 => k_is)
    (case k15 => k_is)
    (case a16 => k_is)
    (case l16 => k_is)
    (case c16 => k_is)
    (case k16 => k_is)
    (case a17 => k_is)
    (case l17 => k_is)
    (case c17 => k_is)
    (case k17 => k_is)
    (case a18 => k_is)
    (case l18 => k_is)
    (case c18 => k_is)
    (case k18 => k_is)
    (case a19 => k_is)
    (case l19 => k_is)
    (case c19 => k_is)
    (case k19 => k_is)
    (case z_min => k_is)
    (case z_range => k_is)
    (case z_sorted => k_is)
    (case z_enumerate => k_is)
    (case z_max => k_is)
    (case z_sum => k_is)
    (case z_abs => k_is)
    (case z_len => k_is)
    (case z_tuple => k_is)
    (case z_set => k_is)

#print axioms PySem.Challenge.cw_mouldkin_k05_fewest_by_all_lines_holds
