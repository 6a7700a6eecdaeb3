import PyProof.Rows.All
import Wide.All
import OpenK.AllK
import Wide.FinOn
import HandS.ForMost
import HandS.Walk
import HandS.Wide
import HandS.IsInst
import HandS.TupAny
import HandS.TupMul
import HandS.Style
import KE.GoesMore
import KE.GoesEnum
import HandS.Zip
import HandS.Deep
import HandS.SortOrd
import HandS.NamedTupSort
import HandS.TupLe
import KE.KSortTupAny
import PyProof.TwoTypesSub
import PyProof.FactsMod
import PyProof.NeKinds
import PyProof.CallStr
import PyProof.FitsInt
import HandS.NoneIn
import HandS.More
import HandS.SetTxt0
import HandS.SetFor
import HandS.TupSets
import HandS.Strs
import PySem.Challenge.RW_mouldkin_k06_found_marks_by_hand
set_option Elab.async false
set_option linter.all false
set_option maxRecDepth 100000
set_option maxHeartbeats 4000000
/-! A layer of our own: values whose tuples are trees (T), an abstract heap of lists, dicts and instances over them (Gp), readings that compute. -/
namespace Lw
open PySem PySem.Spec PyProof.Rows L2

inductive TyN where
  | int | bool | str | tuple | list | dict | set
abbrev TyN.name : TyN → String
  | .int => "int" | .bool => "bool" | .str => "str" | .tuple => "tuple" | .list => "list" | .dict => "dict" | .set => "set"
inductive T where
  | non | bl (b : Bool) | int (i : Int) | str (x : Str) | tup (ts : List T) | ref (a : Addr) | ty (n : TyN)
  /-- the script -/
  | scr (ns : List Int)

mutual
def Rp (K : PySem.W.Frag) (H : Hp) : T → V → Prop
  | .non, v => v = .non
  | .bl b, v => v = .bl b
  | .int i, v => v = .int i
  | .str x, v => v = .str x
  | .tup ts, v => ∃ a vs, v = .ref a ∧ H a = some (.tup vs) ∧ RpL K H ts vs
  | .ref a, v => v = .ref a
  | .ty n, v => v = .ty n.name
  | .scr ns, v => ∃ a, v = .ref a ∧ ((∃ o, H a = some (.frz o (.lst (ns.map V.int)))) ∨ ∃ (o : Obj) (its : Array Value) (n : Nat), K.lookup a = some o ∧ o.cls = .type "list" ∧ o.dict = none ∧ o.data = .seq its n ∧ its.size ≤ sizeLine ∧ Vals (ns.map V.int) its.toList)
def RpL (K : PySem.W.Frag) (H : Hp) : List T → List V → Prop
  | [], vs => vs = []
  | t :: ts, vs => ∃ v r, vs = v :: r ∧ Rp K H t v ∧ RpL K H ts r
end
/-- tuples and frozen lists are as they were -/
structure Tups (H H' : Hp) : Prop where
  t : ∀ b xs, H b = some (.tup xs) → H' b = some (.tup xs)
  f : ∀ b o xs, H b = some (.frz o (.lst xs)) → H' b = some (.frz o (.lst xs))
theorem Tups.refl (H : Hp) : Tups H H := ⟨fun _ _ h => h, fun _ _ _ h => h⟩
theorem Tups.trans {H H1 H2 : Hp} (a : Tups H H1) (b : Tups H1 H2) : Tups H H2 := ⟨fun c o h => b.t c o (a.t c o h), fun c o x h => b.f c o x (a.f c o x h)⟩
theorem Tups.new {H : Hp} {p : Addr} {o : HO} (h : H p = none) : Tups H (upd H p o) := ⟨fun b xs e => by
  rw [upd_ne (ne_of_none e h)]
  exact e, fun b ob xs e => by
  rw [upd_ne (ne_of_none e h)]
  exact e⟩
/-- what may be written -/
def Wr (H : Hp) (p : Addr) : Prop := (∀ xs, H p ≠ some (.tup xs)) ∧ ∀ o xs, H p ≠ some (.frz o (.lst xs))
theorem Tups.set {H : Hp} {p : Addr} {o : HO} (h : Wr H p) : Tups H (upd H p o) := ⟨fun b xs e => by
  rw [upd_ne (fun z => h.1 xs (by rw [← z]; exact e))]
  exact e, fun b ob xs e => by
  rw [upd_ne (fun z => h.2 ob xs (by rw [← z]; exact e))]
  exact e⟩
theorem Wr.of {H : Hp} {p : Addr} {o : HO} (h : H p = some o) (h1 : ∀ xs, o ≠ .tup xs) (h2 : ∀ ob xs, o ≠ .frz ob (.lst xs)) : Wr H p :=
  ⟨fun xs e => by rw [h] at e; exact h1 xs (Option.some.inj e), fun ob xs e => by rw [h] at e; exact h2 ob xs (Option.some.inj e)⟩
mutual
theorem Rp.mono {K : PySem.W.Frag} {H H' : Hp} (k : Tups H H') : ∀ (t : T) (v : V), Rp K H t v → Rp K H' t v
  | .non, _, h => h
  | .bl _, _, h => h
  | .int _, _, h => h
  | .str _, _, h => h
  | .tup ts, _, ⟨a, vs, e, h, r⟩ => ⟨a, vs, e, k.t _ _ h, RpL.mono k ts vs r⟩
  | .ref _, _, h => h
  | .ty _, _, h => h
  | .scr _, _, ⟨a, e, h⟩ => ⟨a, e, h.imp (fun ⟨o, q⟩ => ⟨o, k.f _ _ _ q⟩) id⟩
theorem RpL.mono {K : PySem.W.Frag} {H H' : Hp} (k : Tups H H') : ∀ (ts : List T) (vs : List V), RpL K H ts vs → RpL K H' ts vs
  | [], _, h => h
  | t :: ts, _, ⟨v, r, e, h, hr⟩ => ⟨v, r, e, Rp.mono k t v h, RpL.mono k ts r hr⟩
end
theorem RpL.length {K : PySem.W.Frag} {H : Hp} : ∀ {ts : List T} {vs : List V}, RpL K H ts vs → vs.length = ts.length
  | [], _, h => by rw [show _ = [] from h]; rfl
  | t :: ts, _, ⟨v, r, e, h, hr⟩ => by rw [e, List.length_cons, RpL.length hr]; rfl
theorem RpL.get {K : PySem.W.Frag} {H : Hp} : ∀ {ts : List T} {vs : List V} {i : Nat} {v : V}, RpL K H ts vs → vs[i]? = some v → ∃ t, ts[i]? = some t ∧ Rp K H t v
  | [], _, i, v, h, e => by rw [show _ = [] from h] at e; simp at e
  | t :: ts, _, 0, v, ⟨w, r, e1, h, hr⟩, e => by subst e1; simp at e; subst e; exact ⟨t, rfl, h⟩
  | t :: ts, _, i + 1, v, ⟨w, r, e1, h, hr⟩, e => by
    subst e1
    obtain ⟨u, h1, h2⟩ := RpL.get (i := i) hr (by simpa using e)
    exact ⟨u, by simpa using h1, h2⟩
theorem RpL.at {K : PySem.W.Frag} {H : Hp} {ts : List T} {vs : List V} {i : Nat} {t : T} (h : RpL K H ts vs) (e : ts[i]? = some t) : ∃ v, vs[i]? = some v ∧ Rp K H t v := by
  have hl := h.length
  have hi : i < vs.length := by rw [hl]; exact (List.getElem?_eq_some_iff.mp e).1
  obtain ⟨u, h1, h2⟩ := h.get (v := vs[i]) (List.getElem?_eq_getElem hi)
  rw [e] at h1; cases h1
  exact ⟨vs[i], List.getElem?_eq_getElem hi, h2⟩
theorem RpL.append {K : PySem.W.Frag} {H : Hp} : ∀ {ts us : List T} {vs ws : List V}, RpL K H ts vs → RpL K H us ws → RpL K H (ts ++ us) (vs ++ ws)
  | [], _, _, _, h, q => by rw [show _ = [] from h]; exact q
  | t :: ts, _, _, _, ⟨v, r, e, h, hr⟩, q => ⟨v, r ++ _, by rw [e]; rfl, h, RpL.append hr q⟩
theorem RpL.take {K : PySem.W.Frag} {H : Hp} : ∀ {ts : List T} {vs : List V} (n : Nat), RpL K H ts vs → RpL K H (ts.take n) (vs.take n)
  | _, _, 0, _ => rfl
  | [], _, n + 1, h => by rw [show _ = [] from h]; rfl
  | t :: ts, _, n + 1, ⟨v, r, e, h, hr⟩ => ⟨v, r.take n, by rw [e]; rfl, h, RpL.take n hr⟩
theorem RpL.drop {K : PySem.W.Frag} {H : Hp} : ∀ {ts : List T} {vs : List V} (n : Nat), RpL K H ts vs → RpL K H (ts.drop n) (vs.drop n)
  | _, _, 0, h => h
  | [], _, n + 1, h => by rw [show _ = [] from h]; rfl
  | t :: ts, _, n + 1, ⟨v, r, e, h, hr⟩ => by rw [e]; exact RpL.drop n hr
theorem RpL.set {K : PySem.W.Frag} {H : Hp} {t : T} {v : V} (h : Rp K H t v) : ∀ {ts : List T} {vs : List V} (n : Nat), RpL K H ts vs → RpL K H (ts.set n t) (vs.set n v)
  | [], _, n, h => by rw [show _ = [] from h]; rfl
  | _ :: ts, _, 0, ⟨w, r, e, _, hr⟩ => ⟨v, r, by rw [e]; rfl, h, hr⟩
  | u :: ts, _, n + 1, ⟨w, r, e, hu, hr⟩ => ⟨w, r.set n v, by rw [e]; rfl, hu, RpL.set h n hr⟩
theorem RpL.one {K : PySem.W.Frag} {H : Hp} {t : T} {v : V} (h : Rp K H t v) : RpL K H [t] [v] := ⟨v, [], rfl, h, rfl⟩
theorem RpL.flat {K : PySem.W.Frag} {H : Hp} {ts : List T} {vs : List V} (h : RpL K H ts vs) : ∀ n : Nat, RpL K H (List.replicate n ts).flatten (List.replicate n vs).flatten
  | 0 => rfl
  | n + 1 => by
    rw [List.replicate_succ, List.replicate_succ, List.flatten_cons, List.flatten_cons]
    exact RpL.append h (RpL.flat h n)
theorem RpL.ints {K : PySem.W.Frag} {H : Hp} : ∀ {ns : List Int} {vs : List V}, RpL K H (ns.map T.int) vs → vs = ns.map V.int
  | [], _, h => h
  | n :: ns, _, ⟨v, r, e, h, hr⟩ => by rw [e, show v = V.int n from h, RpL.ints hr]; rfl
theorem RpL.of_ints {K : PySem.W.Frag} {H : Hp} : ∀ {ns : List Int}, RpL K H (ns.map T.int) (ns.map V.int)
  | [] => rfl
  | n :: ns => ⟨_, _, rfl, rfl, RpL.of_ints⟩

/-! ### the abstract heap -/
inductive GO where
  | lst (ts : List T) | dK (kvs : List (Key × T)) | dT (kvs : List (List Key × T)) | ins (x : Str) (ns : List Str) (ts : List T) | rcd (ns : List Str) (ts : List T) | raw (o : HO) | fz (o : Obj) (ws : List (Key × V)) (kvs : List (Key × T))
def RpK (K : PySem.W.Frag) {κ : Type} (H : Hp) : List (κ × T) → List (κ × V) → Prop
  | [], ws => ws = []
  | p :: ps, ws => ∃ v r, ws = (p.1, v) :: r ∧ Rp K H p.2 v ∧ RpK K H ps r
theorem RpK.mono {K : PySem.W.Frag} {κ : Type} {H H' : Hp} (k : Tups H H') : ∀ {ps : List (κ × T)} {ws : List (κ × V)}, RpK K H ps ws → RpK K H' ps ws
  | [], _, h => h
  | p :: ps, _, ⟨v, r, e, h, hr⟩ => ⟨v, r, e, Rp.mono k _ _ h, RpK.mono k hr⟩
def GOk (K : PySem.W.Frag) (H : Hp) (a : Addr) : GO → Prop
  | .lst ts => ∃ vs, H a = some (.lst vs) ∧ RpL K H ts vs
  | .dK kvs => ∃ ws, H a = some (.dK ws) ∧ RpK K H kvs ws
  | .dT kvs => ∃ ws, H a = some (.dT ws) ∧ RpK K H kvs ws
  | .ins x ns ts => ∃ C dx vs, PySem.W.nsIn K mainGlobals x = some (some (.ref C)) ∧ H a = some (.ins C dx (ns.zip vs)) ∧ RpL K H ts vs
  | .rcd ns ts => ∃ vs, H a = some (.dK ((ns.map Sum.inr).zip vs)) ∧ RpL K H ts vs
  | .raw o => H a = some o
  | .fz o ws kvs => H a = some (.frz o (.dK ws)) ∧ RpK K H kvs ws
abbrev Gp := Addr → Option GO
def gput (G : Gp) (a : Addr) (o : GO) : Gp := fun b => if b = a then some o else G b
theorem gput_same {G : Gp} {a : Addr} {o : GO} : gput G a o a = some o := by unfold gput; rw [if_pos rfl]
theorem gput_ne {G : Gp} {a b : Addr} {o : GO} (h : b ≠ a) : gput G a o b = G b := by unfold gput; rw [if_neg h]
theorem gput_put {G : Gp} {a : Addr} {o u : GO} : gput (gput G a o) a u = gput G a u := by
  funext b; unfold gput; split <;> rfl
theorem gput_id {G : Gp} {a : Addr} {o : GO} (h : G a = some o) : gput G a o = G := by
  funext b; unfold gput; split
  · rename_i e; subst e; exact h.symm
  · rfl
theorem gput_comm {G : Gp} {a b : Addr} {o u : GO} (h : a ≠ b) : gput (gput G a o) b u = gput (gput G b u) a o := by
  funext c; unfold gput
  by_cases h1 : c = a
  · subst h1; rw [if_neg h, if_pos rfl, if_pos rfl]
  · rw [if_neg h1, if_neg h1]
theorem gne {G : Gp} {a b : Addr} {o : GO} (h : G a = some o) (h' : G b = none) : a ≠ b := fun e => by
  subst e; rw [h] at h'; cases h'
def Abs (K : PySem.W.Frag) (H : Hp) (G : Gp) : Prop := ∀ a o, G a = some o → GOk K H a o
def Sub (G G' : Gp) : Prop := ∀ a o, G a = some o → G' a = some o
theorem Sub.refl (G : Gp) : Sub G G := fun _ _ h => h
theorem Sub.trans {G G1 G2 : Gp} (a : Sub G G1) (b : Sub G1 G2) : Sub G G2 := fun c o h => b c o (a c o h)
theorem Sub.new {G G' : Gp} {p : Addr} {o : GO} (s : Sub G G') (h : G' p = none) : Sub G (gput G' p o) := fun b u e => by
  have e' := s b u e
  rw [gput_ne (gne e' h)]
  exact e'
/-- an object that G doesn't know may change -/
theorem Sub.mut {G G' : Gp} {p : Addr} {o : GO} (s : Sub G G') (h : G p = none) : Sub G (gput G' p o) := fun b u e => by
  rw [gput_ne (gne e h)]
  exact s b u e
theorem Sub.put {G G' : Gp} {p : Addr} {o : GO} (s : Sub G G') : Sub (gput G p o) (gput G' p o) := fun b u e => by
  unfold gput at *
  split
  · rename_i h; rw [if_pos h] at e; exact e
  · rename_i h; rw [if_neg h] at e; exact s b u e
theorem Sub.free {G G' : Gp} (s : Sub G G') {p : Addr} (h : G' p = none) : G p = none := by
  cases q : G p with
  | none => rfl
  | some o => rw [s p o q] at h; cases h
theorem Abs.sub {K : PySem.W.Frag} {H : Hp} {G G' : Gp} (x : Abs K H G') (s : Sub G G') : Abs K H G := fun a o e => x a o (s a o e)
theorem GOk.other {K : PySem.W.Frag} {H : Hp} {a p : Addr} {u : HO} {o : GO} (hne : a ≠ p) (ht : Wr H p) (x : GOk K H a o) : GOk K (upd H p u) a o := by
  have k : Tups H (upd H p u) := Tups.set ht
  cases o with
  | lst ts => obtain ⟨vs, h, r⟩ := x; exact ⟨vs, by rw [upd_ne hne]; exact h, RpL.mono k _ _ r⟩
  | dK kvs => obtain ⟨vs, h, r⟩ := x; exact ⟨vs, by rw [upd_ne hne]; exact h, r.mono k⟩
  | dT kvs => obtain ⟨vs, h, r⟩ := x; exact ⟨vs, by rw [upd_ne hne]; exact h, r.mono k⟩
  | ins y ns ts => obtain ⟨C, dx, vs, n, h, r⟩ := x; exact ⟨C, dx, vs, n, by rw [upd_ne hne]; exact h, RpL.mono k _ _ r⟩
  | rcd ns ts => obtain ⟨vs, h, r⟩ := x; exact ⟨vs, by rw [upd_ne hne]; exact h, RpL.mono k _ _ r⟩
  | raw o => exact (show upd H p u a = some o by rw [upd_ne hne]; exact x)
  | fz o ws kvs => exact ⟨by rw [upd_ne hne]; exact x.1, x.2.mono k⟩
theorem GOk.fresh {K : PySem.W.Frag} {H : Hp} {a p : Addr} {u : HO} {o : GO} (hp : H p = none) (x : GOk K H a o) : GOk K (upd H p u) a o := by
  by_cases hne : a = p
  · subst hne
    cases o with
    | lst ts => obtain ⟨vs, h, r⟩ := x; rw [hp] at h; cases h
    | dK kvs => obtain ⟨vs, h, r⟩ := x; rw [hp] at h; cases h
    | dT kvs => obtain ⟨vs, h, r⟩ := x; rw [hp] at h; cases h
    | ins y ns ts => obtain ⟨C, dx, vs, n, h, r⟩ := x; rw [hp] at h; cases h
    | rcd ns ts => obtain ⟨vs, h, r⟩ := x; rw [hp] at h; cases h
    | raw o => exact absurd (show H a = some o from x) (by rw [hp]; intro z; cases z)
    | fz o ws kvs => have h := x.1; rw [hp] at h; cases h
  · exact GOk.other hne ⟨fun xs z => (by rw [hp] at z; cases z), fun o xs z => (by rw [hp] at z; cases z)⟩ x
/-- a new untracked object (a tuple) -/
theorem Abs.grow {K : PySem.W.Frag} {H : Hp} {G : Gp} {p : Addr} {u : HO} (x : Abs K H G) (hp : H p = none) : Abs K (upd H p u) G := fun a o e => (x a o e).fresh hp
theorem Abs.put {K : PySem.W.Frag} {H : Hp} {G : Gp} {p : Addr} {u : HO} {o : GO} (x : Abs K H G) (ht : Wr H p) (n : GOk K (upd H p u) p o) : Abs K (upd H p u) (gput G p o) := fun a v e => by
  by_cases h : a = p
  · subst h; rw [gput_same] at e; cases e; exact n
  · rw [gput_ne h] at e; exact (x a v e).other h ht
theorem Abs.free {K : PySem.W.Frag} {H : Hp} {G : Gp} {p : Addr} (x : Abs K H G) (h : H p = none) : G p = none := by
  cases q : G p with
  | none => rfl
  | some o =>
    have y := x p o q
    cases o with
    | lst ts => obtain ⟨vs, e, _⟩ := y; rw [h] at e; cases e
    | dK kvs => obtain ⟨vs, e, _⟩ := y; rw [h] at e; cases e
    | dT kvs => obtain ⟨vs, e, _⟩ := y; rw [h] at e; cases e
    | ins x ns ts => obtain ⟨C, dx, vs, _, e, _⟩ := y; rw [h] at e; cases e
    | rcd ns ts => obtain ⟨vs, e, _⟩ := y; rw [h] at e; cases e
    | raw o => exact absurd (show H p = some o from y) (by rw [h]; intro z; cases z)
    | fz o ws kvs => have e := y.1; rw [h] at e; cases e
end Lw

set_option Elab.async false
set_option linter.all false
set_option maxRecDepth 100000
set_option maxHeartbeats 4000000
namespace Lw
open PySem PySem.Spec PyProof.Rows L2

/-! ### environments -/
abbrev REnv := List (Option T)
def nth {α : Type} : List α → Nat → Option α
  | [], _ => none
  | a :: _, 0 => some a
  | _ :: l, n + 1 => nth l n
def put {α : Type} : List α → Nat → α → List α
  | [], _, _ => []
  | _ :: l, 0, x => x :: l
  | a :: l, n + 1, x => a :: put l n x
/-- put, handed on with its cells written out -/
def putK {α : Type} : List α → Nat → α → (List α → Prop) → Prop
  | [], _, _, k => k []
  | _ :: l, 0, x, k => k (x :: l)
  | a :: l, n + 1, x, k => putK l n x fun l' => k (a :: l')
theorem putK_put {α : Type} : ∀ {l : List α} {n : Nat} {x : α} {k : List α → Prop}, putK l n x k → k (put l n x)
  | [], _, _, _, h => h
  | _ :: _, 0, _, _, h => h
  | a :: l, n + 1, x, k, h => putK_put (l := l) (n := n) (x := x) (k := fun l' => k (a :: l')) h
def normK {α : Type} : List α → (List α → Prop) → Prop
  | [], k => k []
  | a :: l, k => normK l fun l' => k (a :: l')
theorem normK_norm {α : Type} : ∀ {l : List α} {k : List α → Prop}, normK l k → k l
  | [], _, h => h
  | a :: l, k, h => normK_norm (l := l) (k := fun l' => k (a :: l')) h
def EnvR (K : PySem.W.Frag) (H : Hp) : REnv → L2.St → Prop
  | [], σ => σ = []
  | o :: r, σ => ∃ w s, σ = w :: s ∧ (∀ t, o = some t → ∃ v, w = some v ∧ Rp K H t v) ∧ EnvR K H r s
section
variable {K : PySem.W.Frag} {H H' : Hp}
theorem EnvR.mono (k : Tups H H') : ∀ {ρ : REnv} {σ : L2.St}, EnvR K H ρ σ → EnvR K H' ρ σ
  | [], _, h => h
  | o :: r, _, ⟨w, s, e, h, hr⟩ => ⟨w, s, e, fun t q => let ⟨v, a, b⟩ := h t q; ⟨v, a, b.mono k⟩, EnvR.mono k hr⟩
theorem EnvR.get : ∀ {ρ : REnv} {σ : L2.St} {i : Nat} {t : T}, EnvR K H ρ σ → nth ρ i = some (some t) → ∃ v, σ[i]? = some (some v) ∧ Rp K H t v
  | [], _, _, _, _, e => by simp [nth] at e
  | o :: r, _, 0, t, ⟨w, s, e, h, hr⟩, q => by
    subst e
    obtain ⟨v, a, b⟩ := h t (Option.some.inj q)
    subst a
    exact ⟨v, rfl, b⟩
  | o :: r, _, i + 1, t, ⟨w, s, e, h, hr⟩, q => by
    subst e
    obtain ⟨v, a, b⟩ := EnvR.get (i := i) hr q
    exact ⟨v, by simpa using a, b⟩
theorem EnvR.put {t : T} {v : V} (r : Rp K H t v) : ∀ {ρ : REnv} {σ : L2.St} (i : Nat), EnvR K H ρ σ → EnvR K H (put ρ i (some t)) (σ.set i (some v))
  | [], _, _, h => by rw [show _ = [] from h]; rfl
  | o :: ρ, _, 0, ⟨w, s, e, h, hr⟩ => ⟨some v, s, by rw [e]; rfl, fun u q => ⟨v, rfl, (by cases q; exact r)⟩, hr⟩
  | o :: ρ, _, i + 1, ⟨w, s, e, h, hr⟩ => ⟨w, s.set i (some v), by rw [e]; rfl, h, EnvR.put r i hr⟩
theorem EnvR.putN : ∀ {ρ : REnv} {σ : L2.St} (i : Nat) {w : Option V}, EnvR K H ρ σ → EnvR K H (Lw.put ρ i none) (σ.set i w)
  | [], _, _, _, h => by rw [show _ = [] from h]; rfl
  | o :: ρ, _, 0, w, ⟨_, s, e, h, hr⟩ => ⟨w, s, by rw [e]; rfl, fun u q => (by cases q), hr⟩
  | o :: ρ, _, i + 1, w, ⟨x, s, e, h, hr⟩ => ⟨x, s.set i w, by rw [e]; rfl, h, EnvR.putN i hr⟩
theorem EnvR.nil : EnvR K H [] [] := rfl
theorem EnvR.nones : ∀ n : Nat, EnvR K H (List.replicate n none) (List.replicate n none)
  | 0 => rfl
  | n + 1 => ⟨none, List.replicate n none, rfl, fun t q => (by cases q), EnvR.nones n⟩
theorem EnvR.start : ∀ {ts : List T} {vs : List V} (n : Nat), RpL K H ts vs → EnvR K H (ts.map some ++ List.replicate n none) (vs.map some ++ List.replicate n none)
  | [], _, n, h => by rw [show _ = [] from h]; exact EnvR.nones n
  | t :: ts, _, n, ⟨v, r, e, h, hr⟩ => by subst e; exact ⟨some v, _, rfl, fun u q => ⟨v, rfl, (by cases q; exact h)⟩, EnvR.start n hr⟩
end
/-- slots forgotten -/
inductive ELe : REnv → REnv → Prop
  | nil : ELe [] []
  | keep (o : Option T) {r s : REnv} : ELe r s → ELe (o :: r) (o :: s)
  | drop (o : Option T) {r s : REnv} : ELe r s → ELe (none :: r) (o :: s)
theorem ELe.refl : ∀ ρ : REnv, ELe ρ ρ
  | [] => .nil
  | o :: r => .keep o (ELe.refl r)
theorem EnvR.le {K : PySem.W.Frag} {H : Hp} {ρ ρ' : REnv} {σ : L2.St} (l : ELe ρ ρ') : EnvR K H ρ' σ → EnvR K H ρ σ := by
  induction l generalizing σ with
  | nil => exact id
  | keep o _ ih => rintro ⟨w, s, e, h, hr⟩; exact ⟨w, s, e, h, ih hr⟩
  | drop o _ ih => rintro ⟨w, s, e, h, hr⟩; exact ⟨w, s, e, fun t q => (by cases q), ih hr⟩

/-! ### readings -/
abbrev TK := T → Gp → Prop
abbrev QE := REnv → Gp → TK → Prop
abbrev QT := REnv → Gp → (Bool → Gp → Prop) → Prop
abbrev QA := REnv → Gp → (List T → Gp → Prop) → Prop
/-- an exception: its class, its field -/
abbrev XQ := Value → Option T → Gp → Prop
abbrev QSp := List T → Gp → TK → XQ → Prop
structure QD where
  nx : REnv → Gp → Prop
  rt : TK
  bk : REnv → Gp → Prop := fun _ _ => False
  ct : REnv → Gp → Prop := fun _ _ => False
abbrev QS := QD → REnv → Gp → Prop
abbrev Q2 := T → T → Gp → TK → Prop
abbrev Q1 := T → Gp → TK → Prop
abbrev QC := List T → Gp → TK → Prop
section
variable (K : PySem.W.Frag)
/-- what follows, seen from H -/
def Fol (H : Hp) (Q : TK) (KQ : VK) : Prop := ∀ v H' t G', Tups H H' → Abs K H' G' → Rp K H' t v → Q t G' → KQ v H'
def FolS (H : Hp) (Q : REnv → Gp → Prop) (KQ : L2.St → Hp → Prop) : Prop := ∀ σ' H' ρ' G', Tups H H' → EnvR K H' ρ' σ' → Abs K H' G' → Q ρ' G' → KQ σ' H'
structure FolD (H : Hp) (D' : QD) (D : Ends) : Prop where
  nx : FolS K H D'.nx D.nx
  rt : Fol K H D'.rt D.rt
  bk : FolS K H D'.bk D.bk
  ct : FolS K H D'.ct D.ct
def cE (q : QE) : TE := fun σ H KQ => ∃ ρ G Q, EnvR K H ρ σ ∧ Abs K H G ∧ q ρ G Q ∧ Fol K H Q KQ
def cT (q : QT) : TT := fun σ H KQ => ∃ ρ G Q, EnvR K H ρ σ ∧ Abs K H G ∧ q ρ G Q ∧ ∀ b H' G', Tups H H' → Abs K H' G' → Q b G' → KQ b H'
def cA (q : QA) : TA := fun σ H KQ => ∃ ρ G Q, EnvR K H ρ σ ∧ Abs K H G ∧ q ρ G Q ∧ ∀ vs H' ts G', Tups H H' → Abs K H' G' → RpL K H' ts vs → Q ts G' → KQ vs H'
def cS (q : QS) : TS := fun D σ H => ∃ ρ G D', EnvR K H ρ σ ∧ Abs K H G ∧ q D' ρ G ∧ FolD K H D' D
def c2 (f : Q2) : R2 := fun v w H KQ => ∃ x y G Q, Rp K H x v ∧ Rp K H y w ∧ Abs K H G ∧ f x y G Q ∧ Fol K H Q KQ
def c1 (f : Q1) : V → Hp → VK → Prop := fun v H KQ => ∃ x G Q, Rp K H x v ∧ Abs K H G ∧ f x G Q ∧ Fol K H Q KQ
def cC (f : QC) : List V → Hp → VK → Prop := fun vs H KQ => ∃ ts G Q, RpL K H ts vs ∧ Abs K H G ∧ f ts G Q ∧ Fol K H Q KQ
/-- how an exception is handed on: no dict (no field), or its own dict with the field «number» -/
def RpX (H : Hp) : Option T → Option Addr → Prop
  | none, d => d = none
  | some t, d => ∃ a v, d = some a ∧ H a = some (.xd [("number", v)]) ∧ Rp K H t v
def FolX (H : Hp) (E' : XQ) (E : XK) : Prop := ∀ c d H' fo G', Tups H H' → Abs K H' G' → RpX K H' fo d → E' c fo G' → E c d H'
def cSp (q : QSp) : Sp := fun vs H KQ E => ∃ ts G Q E', RpL K H ts vs ∧ Abs K H G ∧ q ts G Q E' ∧ Fol K H Q KQ ∧ FolX K H E' E
abbrev QG := T → REnv → Gp → (REnv → Gp → Prop) → Prop
def cG (own : List Nat) (q : QG) : TG := fun v σ H KQ => ∃ t ρ G Q, Rp K H t v ∧ EnvR K H ρ σ ∧ Abs K H G ∧ q t ρ G Q ∧ ∀ σ' H' ρ' G', wipe σ' own = wipe σ own → Tups H H' → EnvR K H' ρ' σ' → Abs K H' G' → Q ρ' G' → KQ σ' H'
abbrev QGs := List T → REnv → Gp → (REnv → Gp → Prop) → Prop
def cGs (own : List Nat) (q : QGs) : TGs := fun vs σ H KQ => ∃ ts ρ G Q, RpL K H ts vs ∧ EnvR K H ρ σ ∧ Abs K H G ∧ q ts ρ G Q ∧ ∀ σ' H' ρ' G', wipe σ' own = wipe σ own → Tups H H' → EnvR K H' ρ' σ' → Abs K H' G' → Q ρ' G' → KQ σ' H'
/-- a walk over the items ts, as long as the heap is so -/
structure WalkT (J : It) (H1 : Hp) (ts : List T) (St : Gp → Prop) : Prop where
  goes : ∀ i H G, i < ts.length → Tups H1 H → Abs K H G → St G → J.go i H
  stops : ∀ H G, Tups H1 H → Abs K H G → St G → J.stop ts.length H
  yields : ∀ i H G x H', i < ts.length → Tups H1 H → Abs K H G → St G → J.yld i H x H' → Tups H H' ∧ Abs K H' G ∧ ∃ t, ts[i]? = some t ∧ Rp K H' t x
abbrev QI := REnv → Gp → (List T → (Gp → Prop) → Gp → Prop) → Prop
def cI (q : QI) : TI := fun σ H R => ∃ ρ G Q, EnvR K H ρ σ ∧ Abs K H G ∧ q ρ G Q ∧ ∀ J H1 ts St G1, Tups H H1 → Abs K H1 G1 → WalkT K J H1 ts St → Q ts St G1 → R J H1
end
section
variable {K : PySem.W.Frag} {H H1 H' : Hp} {Q Q' : TK} {KQ KQ' : VK}
theorem Fol.from (f : Fol K H Q KQ) (k : Tups H H1) : Fol K H1 Q KQ := fun v H' t G' a => f v H' t G' (k.trans a)
theorem FolS.from {Q : REnv → Gp → Prop} {KQ : L2.St → Hp → Prop} (f : FolS K H Q KQ) (k : Tups H H1) : FolS K H1 Q KQ := fun v H' t G' a => f v H' t G' (k.trans a)
theorem FolX.from {E' : XQ} {E : XK} (f : FolX K H E' E) (k : Tups H H1) : FolX K H1 E' E := fun v d H' t G' a => f v d H' t G' (k.trans a)
theorem FolD.from {D' : QD} {D : Ends} (f : FolD K H D' D) (k : Tups H H1) : FolD K H1 D' D := ⟨f.nx.from k, f.rt.from k, f.bk.from k, f.ct.from k⟩
theorem cE.go {q : QE} {σ : L2.St} {ρ : REnv} {G : Gp} (e : EnvR K H ρ σ) (a : Abs K H G) (h : q ρ G Q) (f : Fol K H Q KQ) : cE K q σ H KQ := ⟨ρ, G, Q, e, a, h, f⟩
end
/-! ### weaker wishes -/
section
variable {X : Cx}
theorem PE.wk {e : Expr} {t t' : TE} (h : PE X e t) (w : ∀ σ H Q, t' σ H Q → t σ H Q) : PE X e t' := ⟨fun p s σ H Q I q => h.run p s σ H Q I (w σ H Q q)⟩
theorem PT.wk {e : Expr} {t t' : TT} (h : PT X e t) (w : ∀ σ H Q, t' σ H Q → t σ H Q) : PT X e t' := ⟨fun p s σ H Q I q => h.run p s σ H Q I (w σ H Q q)⟩
theorem PW.wk {e : Expr} {t t' : TT} (h : PW X e t) (w : ∀ σ H Q, t' σ H Q → t σ H Q) : PW X e t' := ⟨fun wh p s σ H Q I q => h.run wh p s σ H Q I (w σ H Q q)⟩
theorem PA.wk {e : List Expr} {t t' : TA} (h : PA X e t) (w : ∀ σ H Q, t' σ H Q → t σ H Q) : PA X e t' := ⟨fun po p s σ H Q I q => h.run po p s σ H Q I (w σ H Q q)⟩
theorem PS.wk {e : Stmt} {t t' : TS} (h : PS X e t) (w : ∀ D σ H, t' D σ H → t D σ H) : PS X e t' := ⟨fun p s σ H D I q => h.run p s σ H D I (w D σ H q)⟩
theorem PSs.wk {e : List Stmt} {t t' : TS} (h : PSs X e t) (w : ∀ D σ H, t' D σ H → t D σ H) : PSs X e t' := ⟨fun p s σ H D I q => h.run p s σ H D I (w D σ H q)⟩
theorem PG.wk {e : Expr} {t t' : TG} (h : PG X e t) (w : ∀ v σ H Q, t' v σ H Q → t v σ H Q) : PG X e t' := ⟨fun p s σ H v u Q I r q => h.run p s σ H v u Q I r (w v σ H Q q)⟩
theorem PGs.wk {e : List Expr} {t t' : TGs} (h : PGs X e t) (w : ∀ v σ H Q, t' v σ H Q → t v σ H Q) : PGs X e t' := ⟨fun p s σ H v u Q I r q => h.run p s σ H v u Q I r (w v σ H Q q)⟩
theorem PI.wk {tg e : Expr} {t t' : TI} (h : PI X tg e t) (w : ∀ σ H R, t' σ H R → t σ H R) : PI X tg e t' := ⟨fun p s σ H R I q => h.run p s σ H R I (w σ H R q)⟩

/-! ### names, constants -/
def qVar (i : Nat) : QE := fun ρ G Q => match nth ρ i with | some (some t) => Q t G | _ => False
def qC (t : T) : QE := fun _ G Q => Q t G
theorem e_var (i : Nat) {x : Str} {pos : Pos} (hN : X.N[i]? = some x := by rfl) (hv : Vis X.env.scope x := by first | exact Or.inl rfl | exact Or.inr (Or.inl rfl) | exact Or.inr (Or.inr rfl)) (hd : (x == ("__debug__" : Str)) = false := by decide)
    (hcd : (x == ("__classdict__" : Str)) = false := by decide) : PE X (.Name x pos) (cE X.K (qVar i)) := PE.wk (pv i hN hv hd hcd) fun σ H KQ h => by
  obtain ⟨ρ, G, Q, e, a, q, f⟩ := h
  unfold qVar at q
  split at q
  · rename_i t ht
    obtain ⟨v, hv, r⟩ := e.get ht
    exact ⟨v, hv, f v H t G (Tups.refl H) a r q⟩
  · exact q.elim
theorem e_k {t : T} {v : V} {e : Expr} (h : PE X e (tC v)) (r : ∀ H, Rp X.K H t v) : PE X e (cE X.K (qC t)) := PE.wk h fun σ H KQ h => by
  obtain ⟨ρ, G, Q, e, a, q, f⟩ := h
  exact f v H t G (Tups.refl H) a (r H) q
theorem e_int {i j pos} : PE X (.Constant (.int i) j pos) (cE X.K (qC (.int i))) := e_k pe_int fun _ => rfl
theorem e_bl {b j pos} : PE X (.Constant (.bool b) j pos) (cE X.K (qC (.bl b))) := e_k pe_bl fun _ => rfl
theorem e_non {j pos} : PE X (.Constant .none j pos) (cE X.K (qC .non)) := e_k pe_non fun _ => rfl
theorem e_str {x j pos} : PE X (.Constant (.str x) j pos) (cE X.K (qC (.str x))) := e_k pe_str fun _ => rfl
theorem e_ty (n : TyN) {x : Str} {pos : Pos} (hg : Gl X x) (hm : X.mg x = none) (hv : bootBuiltins x = some (.type n.name)) (hn : x ≠ "__name__" := by decide) (hd : (x == ("__debug__" : Str)) = false := by decide) : PE X (.Name x pos) (cE X.K (qC (.ty n))) :=
  e_k (pe_bltn (v := .ty n.name) hg hm hv rfl hn hd) fun _ => rfl
/-- a module's constant -/
theorem e_glob {x : Str} {t : T} {v : V} {u : Value} {pos : Pos} (hg : Gl X x) (hm : X.mg x = some u) (r : RelV v u) (r2 : ∀ H, Rp X.K H t v) (hd : (x == ("__debug__" : Str)) = false := by decide) : PE X (.Name x pos) (cE X.K (qC t)) :=
  e_k (pe_glob hg hm r hd) r2

/-! ### arguments, displays -/
def qNil : QA := fun _ G Q => Q [] G
def qCons (qe : QE) (qa : QA) : QA := fun ρ G Q => qe ρ G fun x G1 => qa ρ G1 fun xs G2 => Q (x :: xs) G2
variable {e a b c : Expr} {es : List Expr} {qe qa qb qc : QE} {qs : QA} {pos : Pos}
theorem a_nil : PA X [] (cA X.K qNil) := PA.wk pa_nil fun σ H KQ h => by
  obtain ⟨ρ, G, Q, e, a, q, f⟩ := h
  exact f [] H [] G (Tups.refl H) a rfl q
theorem a_cons (ha : PE X e (cE X.K qe)) (hr : PA X es (cA X.K qs)) (hs : starEach (e :: es) X.env = (false, eval e X.env) :: starEach es X.env := by rfl) : PA X (e :: es) (cA X.K (qCons qe qs)) :=
  PA.wk (pa_cons ha hr hs) fun σ H KQ h => by
    obtain ⟨ρ, G, Q, e, a, q, f⟩ := h
    refine ⟨ρ, G, _, e, a, q, fun v H1 t G1 k1 a1 r1 q1 => ?_⟩
    refine ⟨ρ, G1, _, e.mono k1, a1, q1, fun vs H2 ts G2 k2 a2 r2 q2 => ?_⟩
    exact f (v :: vs) H2 (t :: ts) G2 (k1.trans k2) a2 ⟨v, vs, rfl, r1.mono k2, r2⟩ q2
/-- short lists ask nothing -/
def shortL : Nat → List T → Bool
  | _, [] => true
  | 0, _ :: _ => false
  | n + 1, _ :: l => shortL n l
theorem shortL.le : ∀ {n : Nat} {l : List T}, shortL n l = true → l.length ≤ n
  | _, [], _ => Nat.zero_le _
  | 0, _ :: _, h => by cases h
  | n + 1, _ :: l, h => Nat.succ_le_succ (shortL.le (n := n) h)
def lenOk (ts : List T) (P : Prop) : Prop := match shortL 16 ts with
  | true => P
  | false => ts.length ≤ 100000 ∧ P
theorem lenOk.len {ts : List T} {P : Prop} (h : lenOk ts P) : ts.length ≤ 100000 ∧ P := by
  unfold lenOk at h
  split at h
  · rename_i e
    exact ⟨Nat.le_trans (shortL.le e) (by decide), h⟩
  · exact h
theorem lenOk.of {ts : List T} {P : Prop} (h : ts.length ≤ 100000) (p : P) : lenOk ts P := by
  unfold lenOk
  split
  · exact p
  · exact ⟨h, p⟩
def qTup (qa : QA) : QE := fun ρ G Q => qa ρ G fun ts G1 => lenOk ts (Q (.tup ts) G1)
theorem sz100 {n : Nat} (h : n ≤ 100000) : n ≤ sizeLine := Nat.le_trans h (by decide)
theorem e_tup {x1} (h : PA X es (cA X.K qs)) : PE X (.Tuple es x1 pos) (cE X.K (qTup qs)) := PE.wk (pe_tup h) fun σ H KQ h => by
  obtain ⟨ρ, G, Q, e, a, q, f⟩ := h
  refine ⟨ρ, G, _, e, a, q, fun vs H1 ts G1 k1 a1 r1 q1 => ⟨by rw [r1.length]; exact sz100 q1.len.1, fun p hp => ?_⟩⟩
  have q1 := q1.len
  have k2 : Tups H1 (upd H1 p (.tup vs)) := Tups.new hp
  exact f (.ref p) _ (.tup ts) G1 (k1.trans k2) (a1.grow hp) ⟨p, vs, rfl, upd_same, r1.mono k2⟩ q1.2
def qLst (qa : QA) : QE := fun ρ G Q => qa ρ G fun ts G1 => lenOk ts (∀ p, G1 p = none → Q (.ref p) (gput G1 p (.lst ts)))
theorem e_lst (h : PA X es (cA X.K qs)) : PE X (.List es pos) (cE X.K (qLst qs)) := PE.wk (pe_lst h) fun σ H KQ h => by
  obtain ⟨ρ, G, Q, e, a, q, f⟩ := h
  refine ⟨ρ, G, _, e, a, q, fun vs H1 ts G1 k1 a1 r1 q1 => ⟨by rw [r1.length]; exact sz100 q1.len.1, fun p hp => ?_⟩⟩
  have q1 := q1.len
  have k2 : Tups H1 (upd H1 p (.lst vs)) := Tups.new hp
  exact f (.ref p) _ (.ref p) _ (k1.trans k2) (a1.put (o := .lst ts) ⟨fun xs z => (by rw [hp] at z; cases z), fun o xs z => (by rw [hp] at z; cases z)⟩ ⟨vs, upd_same, r1.mono k2⟩) rfl (q1.2 p (a1.free hp))

/-! ### operators -/
def qOp (f : Q2) (qa qb : QE) : QE := fun ρ G Q => qa ρ G fun x G1 => qb ρ G1 fun y G2 => f x y G2 Q
theorem op_wk {f : Q2} {ta tb : TE} (ha : ta = cE X.K qa) (hb : tb = cE X.K qb) : ∀ σ H KQ, cE X.K (qOp f qa qb) σ H KQ → tOp (c2 X.K f) ta tb σ H KQ := fun σ H KQ h => by
  subst ha hb
  obtain ⟨ρ, G, Q, e, a, q, g⟩ := h
  refine ⟨ρ, G, _, e, a, q, fun v H1 t G1 k1 a1 r1 q1 => ?_⟩
  refine ⟨ρ, G1, _, e.mono k1, a1, q1, fun w H2 u G2 k2 a2 r2 q2 => ?_⟩
  exact ⟨t, u, G2, Q, r1.mono k2, r2, a2, q2, g.from (k1.trans k2)⟩
theorem e_op {op : Operator} {f : Q2} (ho : OpR X (binaryOp op) (c2 X.K f)) (ha : PE X a (cE X.K qa)) (hb : PE X b (cE X.K qb)) : PE X (.BinOp a op b pos) (cE X.K (qOp f qa qb)) :=
  PE.wk (pe_op ho ha hb) (op_wk rfl rfl)
theorem e_cmp {op : CmpOp} {f : Q2} (ho : OpR X (compareOp op) (c2 X.K f)) (ha : PE X a (cE X.K qa)) (hb : PE X b (cE X.K qb)) (hm : behindInMarks op b = false) : PE X (.Compare a [op] [b] pos) (cE X.K (qOp f qa qb)) :=
  PE.wk (pe_cmpR ho ha hb hm) (op_wk rfl rfl)
theorem e_ix {f : Q2} (hr : IxR X (c2 X.K f)) (ha : PE X a (cE X.K qa)) (hb : PE X b (cE X.K qb)) (hs : PlainIx b) : PE X (.Subscript a b pos) (cE X.K (qOp f qa qb)) :=
  PE.wk (pe_ix hr ha hb hs) (op_wk rfl rfl)
/-- two comparisons in a row -/
def qChain (f g : Q2) (qa qb qc : QE) : QE := fun ρ G Q => qa ρ G fun x G1 => qb ρ G1 fun y G2 => f x y G2 fun z G3 => match z with
  | .bl k => (k = true → qc ρ G3 fun w G4 => g y w G4 Q) ∧ (k = false → Q (.bl false) G3)
  | _ => False

/-! ### tests -/
def qTB (qe : QE) : QT := fun ρ G Q => qe ρ G fun x G1 => match x with | .bl b => Q b G1 | _ => False
/-- a value's truth -/
def qTr (qe : QE) : QT := fun ρ G Q => qe ρ G fun x G1 => match x with
  | .bl b => Q b G1
  | .non => Q false G1
  | .int i => Q (i != 0) G1
  | .tup ts => Q (!ts.isEmpty) G1
  | .ref a => (∃ ts, G1 a = some (.lst ts) ∧ Q (!ts.isEmpty) G1)
  | _ => False
theorem t_val {e : Expr} (h : PE X e (cE X.K qe)) (he : ∀ whole, isTrue e X.env whole = (do let v ← whole; standAt e.pos; holding [v] (truthy v)) := by intro _; rfl) : PT X e (cT X.K (qTB qe)) :=
  PT.wk (pt_val h he) fun σ H KQ h => by
    obtain ⟨ρ, G, Q, e, a, q, f⟩ := h
    refine ⟨ρ, G, _, e, a, q, fun v H1 t G1 k1 a1 r1 q1 => ?_⟩
    cases t with
    | bl b => exact ⟨b, r1, f b H1 G1 k1 a1 q1⟩
    | _ => exact q1.elim
theorem RpL.isEmpty {K : PySem.W.Frag} {H : Hp} {ts : List T} {vs : List V} (r : RpL K H ts vs) : (!vs.isEmpty) = !ts.isEmpty := by
  have h := r.length
  cases ts <;> cases vs <;> simp at h ⊢
theorem t_tr {e : Expr} (h : PE X e (cE X.K qe)) (he : ∀ whole, isTrue e X.env whole = (do let v ← whole; standAt e.pos; holding [v] (truthy v)) := by intro _; rfl) : PT X e (cT X.K (qTr qe)) :=
  PT.wk (pt_truth h he) fun σ H KQ h => by
    obtain ⟨ρ, G, Q, e, a, q, f⟩ := h
    refine ⟨ρ, G, _, e, a, q, fun v H1 t G1 k1 a1 r1 q1 => ?_⟩
    cases t with
    | bl b => cases r1; exact ⟨b, rfl, f b H1 G1 k1 a1 q1⟩
    | non => cases r1; exact ⟨false, rfl, f _ H1 G1 k1 a1 q1⟩
    | int i => cases r1; exact ⟨_, rfl, f _ H1 G1 k1 a1 q1⟩
    | tup ts =>
      obtain ⟨p, vs, rfl, hp, r⟩ := r1
      exact ⟨_, .inr (.inl ⟨vs, SqT.of hp, rfl⟩), f _ H1 G1 k1 a1 (by rw [r.isEmpty]; exact q1)⟩
    | ref p =>
      cases r1
      obtain ⟨ts, hG, q1⟩ := q1
      obtain ⟨vs, hp, r⟩ := a1 p _ hG
      exact ⟨_, .inl ⟨vs, SqL.of hp, rfl⟩, f _ H1 G1 k1 a1 (by rw [r.isEmpty]; exact q1)⟩
    | _ => exact q1.elim
theorem t_cmp {op : CmpOp} {f : Q2} (ho : OpR X (compareOp op) (c2 X.K f)) (ha : PE X a (cE X.K qa)) (hb : PE X b (cE X.K qb)) (hm : behindInMarks op b = false) : PT X (.Compare a [op] [b] pos) (cT X.K (qTB (qOp f qa qb))) :=
  PT.wk (pt_cmpR ho ha hb hm) fun σ H KQ h => by
    obtain ⟨ρ, G, Q, e, a, q, g⟩ := h
    refine op_wk rfl rfl σ H _ ⟨ρ, G, _, e, a, q, fun v H1 t G1 k1 a1 r1 q1 => ?_⟩
    cases t with
    | bl b => exact ⟨b, r1, g b H1 G1 k1 a1 q1⟩
    | _ => exact q1.elim
def qAnd (t u : QT) : QT := fun ρ G Q => t ρ G fun c G1 => (c = true → u ρ G1 Q) ∧ (c = false → Q false G1)
def qOr (t u : QT) : QT := fun ρ G Q => t ρ G fun c G1 => (c = true → Q true G1) ∧ (c = false → u ρ G1 Q)
def qNot (t : QT) : QT := fun ρ G Q => t ρ G fun c G1 => Q (!c) G1
variable {tA tB' : QT} {rest : List Expr}
theorem t_not (ha : PT X a (cT X.K tA)) : PT X (.UnaryOp .Not a pos) (cT X.K (qNot tA)) := PT.wk (pt_not ha) fun σ H KQ h => by
  obtain ⟨ρ, G, Q, e, a, q, f⟩ := h
  exact ⟨ρ, G, _, e, a, q, fun b H1 G1 k1 a1 q1 => f (!b) H1 G1 k1 a1 q1⟩
theorem w_and (ha : PT X a (cT X.K tA)) (hb : PW X (.BoolOp .And (b :: rest) pos) (cT X.K tB')) : PW X (.BoolOp .And (a :: b :: rest) pos) (cT X.K (qAnd tA tB')) := PW.wk (pw_and ha hb) fun σ H KQ h => by
  obtain ⟨ρ, G, Q, e, a, q, f⟩ := h
  refine ⟨ρ, G, _, e, a, q, fun b H1 G1 k1 a1 q1 => ?_⟩
  cases b with
  | true => exact ⟨ρ, G1, Q, e.mono k1, a1, q1.1 rfl, fun b H2 G2 k2 => f b H2 G2 (k1.trans k2)⟩
  | false => exact f false H1 G1 k1 a1 (q1.2 rfl)
theorem w_or (ha : PT X a (cT X.K tA)) (hb : PW X (.BoolOp .Or (b :: rest) pos) (cT X.K tB')) : PW X (.BoolOp .Or (a :: b :: rest) pos) (cT X.K (qOr tA tB')) := PW.wk (pw_or ha hb) fun σ H KQ h => by
  obtain ⟨ρ, G, Q, e, a, q, f⟩ := h
  refine ⟨ρ, G, _, e, a, q, fun b H1 G1 k1 a1 q1 => ?_⟩
  cases b with
  | true => exact f true H1 G1 k1 a1 (q1.1 rfl)
  | false => exact ⟨ρ, G1, Q, e.mono k1, a1, q1.2 rfl, fun b H2 G2 k2 => f b H2 G2 (k1.trans k2)⟩
/-- as values (bools) -/
def qAndV (t u : QE) : QE := fun ρ G Q => t ρ G fun x G1 => match x with | .bl c => (c = true → u ρ G1 Q) ∧ (c = false → Q (.bl false) G1) | _ => False
def qOrV (t u : QE) : QE := fun ρ G Q => t ρ G fun x G1 => match x with | .bl c => (c = true → Q (.bl true) G1) ∧ (c = false → u ρ G1 Q) | _ => False
def qNotV (t : QE) : QE := fun ρ G Q => t ρ G fun x G1 => match x with | .bl c => Q (.bl !c) G1 | _ => False
theorem e_and (ha : PE X a (cE X.K qa)) (hb : PE X (.BoolOp .And (b :: rest) pos) (cE X.K qb)) : PE X (.BoolOp .And (a :: b :: rest) pos) (cE X.K (qAndV qa qb)) := PE.wk (pe_and ha hb) fun σ H KQ h => by
  obtain ⟨ρ, G, Q, e, a, q, f⟩ := h
  refine ⟨ρ, G, _, e, a, q, fun v H1 t G1 k1 a1 r1 q1 => ?_⟩
  cases t with
  | bl b =>
    refine ⟨b, r1, ?_⟩
    cases b with
    | true => exact ⟨ρ, G1, Q, e.mono k1, a1, q1.1 rfl, f.from k1⟩
    | false => exact f (.bl false) H1 (.bl false) G1 k1 a1 rfl (q1.2 rfl)
  | _ => exact q1.elim
theorem e_or (ha : PE X a (cE X.K qa)) (hb : PE X (.BoolOp .Or (b :: rest) pos) (cE X.K qb)) : PE X (.BoolOp .Or (a :: b :: rest) pos) (cE X.K (qOrV qa qb)) := PE.wk (pe_or ha hb) fun σ H KQ h => by
  obtain ⟨ρ, G, Q, e, a, q, f⟩ := h
  refine ⟨ρ, G, _, e, a, q, fun v H1 t G1 k1 a1 r1 q1 => ?_⟩
  cases t with
  | bl b =>
    refine ⟨b, r1, ?_⟩
    cases b with
    | true => exact f (.bl true) H1 (.bl true) G1 k1 a1 rfl (q1.1 rfl)
    | false => exact ⟨ρ, G1, Q, e.mono k1, a1, q1.2 rfl, f.from k1⟩
  | _ => exact q1.elim
theorem e_not (ha : PE X a (cE X.K qa)) : PE X (.UnaryOp .Not a pos) (cE X.K (qNotV qa)) := PE.wk (pe_not ha) fun σ H KQ h => by
  obtain ⟨ρ, G, Q, e, a, q, f⟩ := h
  refine ⟨ρ, G, _, e, a, q, fun v H1 t G1 k1 a1 r1 q1 => ?_⟩
  cases t with
  | bl b => exact ⟨b, r1, f (.bl !b) H1 (.bl !b) G1 k1 a1 rfl q1⟩
  | _ => exact q1.elim
def qIf (t : QT) (qa qb : QE) : QE := fun ρ G Q => t ρ G fun c G1 => (c = true → qa ρ G1 Q) ∧ (c = false → qb ρ G1 Q)
theorem e_if (hc : PT X c (cT X.K tA)) (ha : PE X a (cE X.K qa)) (hb : PE X b (cE X.K qb)) : PE X (.IfExp c a b pos) (cE X.K (qIf tA qa qb)) := PE.wk (pe_ifExp hc ha hb) fun σ H KQ h => by
  obtain ⟨ρ, G, Q, e, a, q, f⟩ := h
  refine ⟨ρ, G, _, e, a, q, fun b H1 G1 k1 a1 q1 => ?_⟩
  cases b with
  | true => exact ⟨ρ, G1, Q, e.mono k1, a1, q1.1 rfl, f.from k1⟩
  | false => exact ⟨ρ, G1, Q, e.mono k1, a1, q1.2 rfl, f.from k1⟩
end
end Lw

set_option Elab.async false
set_option linter.all false
set_option maxRecDepth 100000
set_option maxHeartbeats 4000000
namespace Lw
open PySem PySem.Spec PyProof.Rows L2

/-! ### operators by value -/
def MulOk (i j : Int) : Prop := ∃ a b : Nat, i.natAbs < 2 ^ a ∧ j.natAbs < 2 ^ b ∧ a + b ≤ 900000
def DivOk (j : Int) : Prop := 0 < j ∧ ∃ b : Nat, j.natAbs < 2 ^ b ∧ b ≤ 8999
theorem pow_up {a : Nat} {x : Nat} (h : x < 2 ^ a) : x < 2 ^ (a + 1) := Nat.lt_of_lt_of_le h (Nat.pow_le_pow_right (by decide) (Nat.le_succ a))
theorem MulOk.w {i j : Int} (h : MulOk i j) : CMulW i j := by
  obtain ⟨a, b, h1, h2, h3⟩ := h
  exact wide_mul (pow_up h1) (pow_up h2) (Nat.succ_pos _) (Nat.succ_pos _) (by omega)
theorem DivOk.w {j : Int} (h : DivOk j) (i : Int) : CDivW i j := by
  obtain ⟨h0, b, h1, h2⟩ := h
  exact wide_div h0 (pow_up h1) (Nat.succ_pos _) (by omega)
def fAdd : Q2 := fun x y G Q => match x, y with
  | .int i, .int j => Q (.int (i + j)) G
  | .tup xs, .tup ys => xs.length + ys.length ≤ 100000 ∧ Q (.tup (xs ++ ys)) G
  | .str i, .str j => i.length + j.length ≤ 100000 ∧ Q (.str (i ++ j)) G
  | .ref a, .ref b => ∃ xs ys, G a = some (.lst xs) ∧ G b = some (.lst ys) ∧ xs.length + ys.length ≤ 100000 ∧ ∀ p, G p = none → Q (.ref p) (gput G p (.lst (xs ++ ys)))
  | _, _ => False
def fSub : Q2 := fun x y G Q => match x, y with
  | .int i, .int j => Q (.int (i - j)) G
  | _, _ => False
def fMul : Q2 := fun x y G Q => match x, y with
  | .int i, .int j => MulOk i j ∧ Q (.int (i * j)) G
  | _, _ => False
def fMod : Q2 := fun x y G Q => match x, y with
  | .int i, .int j => 0 < j ∧ Q (.int (i % j)) G
  | _, _ => False
def fDiv : Q2 := fun x y G Q => match x, y with
  | .int i, .int j => DivOk j ∧ Q (.int (i / j)) G
  | _, _ => False
/-- a written power -/
def fPow : Q2 := fun x y G Q => match x, y with
  | .int i, .int j => CPow i j ∧ Q (.int (i ^ j.toNat)) G
  | _, _ => False
def fLt : Q2 := fun x y G Q => match x, y with
  | .int i, .int j => Q (.bl (decide (i < j))) G
  | .str i, .str j => Q (.bl (decide (i.cps.toList < j.cps.toList))) G
  | _, _ => False
def fLe : Q2 := fun x y G Q => match x, y with
  | .int i, .int j => Q (.bl (decide (i ≤ j))) G
  | _, _ => False
def fGt : Q2 := fun x y G Q => match x, y with
  | .int i, .int j => Q (.bl (decide (j < i))) G
  | _, _ => False
def fGe : Q2 := fun x y G Q => match x, y with
  | .int i, .int j => Q (.bl (decide (j ≤ i))) G
  | _, _ => False
section
variable {X : Cx}
theorem o_int {f : Value → Value → Sem Value} {C : Int → Int → Prop} {g : Int → Int → V} {q : Q2} (h : OpR X f (rI C g)) (gt : Int → Int → T) (hg : ∀ H i j, Rp X.K H (gt i j) (g i j))
    (hq : ∀ x y G Q, q x y G Q → ∃ i j, x = .int i ∧ y = .int j ∧ C i j ∧ Q (gt i j) G) : OpR X f (c2 X.K q) := by
  intro pins s σ H v w u u' KQ I rv rw' h2
  obtain ⟨x, y, G, Q, hx, hy, ha, hf, hk⟩ := h2
  obtain ⟨i, j, rfl, rfl, hc, hQ⟩ := hq _ _ _ _ hf
  exact h pins s σ H v w u u' KQ I rv rw' ⟨i, j, hx, hy, hc, hk _ H _ G (Tups.refl H) ha (hg H i j) hQ⟩
theorem rI_of {f : Value → Value → Sem Value} {g : Int → Int → V} (h : OpR X f (rI0 g)) : OpR X f (rI (fun _ _ => True) g) := fun pins s σ H v w u u' KQ I rv rw' ⟨i, j, a, b, _, q⟩ => h pins s σ H v w u u' KQ I rv rw' ⟨i, j, a, b, q⟩
theorem o_sub : OpR X (binaryOp .Sub) (c2 X.K fSub) := o_int (rI_of op_sub) (fun i j => .int (i - j)) (fun _ _ _ => rfl) fun x y G Q h => by
  unfold fSub at h
  split at h
  · exact ⟨_, _, rfl, rfl, trivial, h⟩
  · exact h.elim
theorem o_mul0 : OpR X (binaryOp .Mult) (c2 X.K fMul) := o_int op_mulW (fun i j => .int (i * j)) (fun _ _ _ => rfl) fun x y G Q h => by
  unfold fMul at h
  split at h
  · exact ⟨_, _, rfl, rfl, h.1.w, h.2⟩
  · exact h.elim
theorem o_mod : OpR X (binaryOp .Mod) (c2 X.K fMod) := o_int op_mod (fun i j => .int (i % j)) (fun _ _ _ => rfl) fun x y G Q h => by
  unfold fMod at h
  split at h
  · exact ⟨_, _, rfl, rfl, h.1, h.2⟩
  · exact h.elim
theorem o_div : OpR X (binaryOp .FloorDiv) (c2 X.K fDiv) := o_int op_fdivW (fun i j => .int (i / j)) (fun _ _ _ => rfl) fun x y G Q h => by
  unfold fDiv at h
  split at h
  · exact ⟨_, _, rfl, rfl, h.1.w _, h.2⟩
  · exact h.elim
theorem o_pow : OpR X (binaryOp .Pow) (c2 X.K fPow) := o_int op_pow (fun i j => .int (i ^ j.toNat)) (fun _ _ _ => rfl) fun x y G Q h => by
  unfold fPow at h
  split at h
  · exact ⟨_, _, rfl, rfl, h.1, h.2⟩
  · exact h.elim
theorem o_lt : OpR X (compareOp .Lt) (c2 X.K fLt) := by
  intro pins s σ H v w u u' KQ I rv rw' h2
  obtain ⟨x, y, G, Q, hx, hy, ha, hf, hk⟩ := h2
  unfold fLt at hf
  split at hf
  · exact op_lt pins s σ H v w u u' KQ I rv rw' ⟨_, _, hx, hy, hk _ H _ G (Tups.refl H) ha (show Rp X.K H (.bl _) (.bl _) from rfl) hf⟩
  · exact op_lt_str pins s σ H v w u u' KQ I rv rw' ⟨_, _, hx, hy, hk _ H _ G (Tups.refl H) ha (show Rp X.K H (.bl _) (.bl _) from rfl) hf⟩
  · exact hf.elim
theorem o_le : OpR X (compareOp .LtE) (c2 X.K fLe) := o_int (rI_of op_le) (fun i j => .bl (decide (i ≤ j))) (fun _ _ _ => rfl) fun x y G Q h => by
  unfold fLe at h
  split at h
  · exact ⟨_, _, rfl, rfl, trivial, h⟩
  · exact h.elim
theorem o_gt : OpR X (compareOp .Gt) (c2 X.K fGt) := o_int (rI_of op_gt) (fun i j => .bl (decide (j < i))) (fun _ _ _ => rfl) fun x y G Q h => by
  unfold fGt at h
  split at h
  · exact ⟨_, _, rfl, rfl, trivial, h⟩
  · exact h.elim
theorem o_ge : OpR X (compareOp .GtE) (c2 X.K fGe) := o_int (rI_of op_ge) (fun i j => .bl (decide (j ≤ i))) (fun _ _ _ => rfl) fun x y G Q h => by
  unfold fGe at h
  split at h
  · exact ⟨_, _, rfl, rfl, trivial, h⟩
  · exact h.elim
theorem o_add : OpR X (binaryOp .Add) (c2 X.K fAdd) := by
  intro pins s σ H v w u u' KQ I rv rw' h2
  obtain ⟨x, y, G, Q, hx, hy, ha, hf, hk⟩ := h2
  unfold fAdd at hf
  split at hf
  · exact op_add pins s σ H v w u u' KQ I rv rw' ⟨_, _, hx, hy, hk _ H _ G (Tups.refl H) ha (show Rp X.K H (.int _) (.int _) from rfl) hf⟩
  · obtain ⟨p, vs, rfl, hp, r⟩ := hx
    obtain ⟨q, ws, rfl, hq, r'⟩ := hy
    rename_i xs ys
    refine op_catA pins s σ H _ _ u u' KQ I rv rw' ⟨p, q, vs, ws, rfl, rfl, SqT.of hp, SqT.of hq, by rw [r.length, r'.length]; exact sz100 hf.1, fun e => ?_, fun e1 e2 => ?_, fun e1 e2 l hl => ?_⟩
    · subst e
      have e0 : xs = [] := List.eq_nil_of_length_eq_zero r.length.symm
      subst e0
      exact hk _ H _ G (Tups.refl H) ha (show Rp X.K H (.tup ([] ++ ys)) _ from ⟨q, ws, rfl, hq, r'⟩) hf.2
    · subst e2
      have e0 : ys = [] := List.eq_nil_of_length_eq_zero r'.length.symm
      subst e0
      have hf2 := hf.2
      rw [List.append_nil] at hf2
      exact hk _ H _ G (Tups.refl H) ha (show Rp X.K H (.tup xs) _ from ⟨p, vs, rfl, hp, r⟩) hf2
    · have k : Tups H (upd H l (.tup (vs ++ ws))) := Tups.new hl
      exact hk _ _ _ G k (ha.grow hl) (show Rp X.K _ (.tup (xs ++ ys)) _ from ⟨l, _, rfl, upd_same, (r.append r').mono k⟩) hf.2
  · exact op_add_str pins s σ H v w u u' KQ I rv rw' ⟨_, _, hx, hy, sz100 hf.1, hk _ H _ G (Tups.refl H) ha (show Rp X.K H (.str _) (.str _) from rfl) hf.2⟩
  · obtain ⟨xs, ys, ga, gb, hz, hf⟩ := hf
    cases hx
    cases hy
    obtain ⟨vs, hp, r⟩ := ha _ _ ga
    obtain ⟨ws, hq, r'⟩ := ha _ _ gb
    refine op_cat pins s σ H _ _ u u' KQ I rv rw' ⟨_, _, vs, ws, rfl, rfl, hp, hq, by rw [r.length, r'.length]; exact sz100 hz, fun l hl => ?_⟩
    have k : Tups H (upd H l (.lst (vs ++ ws))) := Tups.new hl
    exact hk _ _ _ _ k (ha.put (o := .lst (xs ++ ys)) ⟨fun xs z => (by rw [hl] at z; cases z), fun o xs z => (by rw [hl] at z; cases z)⟩ ⟨_, upd_same, (r.append r').mono k⟩) (show Rp X.K _ (.ref l) _ from rfl) (hf l (ha.free hl))
  · exact hf.elim
end

/-! ### subscripts -/
/-- a written index of a tuple or list: it computes -/
def fIxC : Q2 := fun x y G Q => match x, y with
  | .tup ts, .int (.ofNat n) => (match nth ts n with | some t => Q t G | none => False)
  | .ref a, .int (.ofNat n) => ∃ ts, G a = some (.lst ts) ∧ (match nth ts n with | some t => Q t G | none => False)
  | _, _ => False
def fIx : Q2 := fun x y G Q => match x, y with
  | .tup ts, .int i => ∃ n t, ixN ts.length i = some n ∧ ts[n]? = some t ∧ Q t G
  | .ref a, .int i => ∃ ts n t, G a = some (.lst ts) ∧ ixN ts.length i = some n ∧ ts[n]? = some t ∧ Q t G
  | .scr ns, .int i => ∃ n m, ixN ns.length i = some n ∧ ns[n]? = some m ∧ Q (.int m) G
  | _, _ => False
theorem nth_get {α : Type} : ∀ {l : List α} {n : Nat}, nth l n = l[n]?
  | [], n => by simp [nth]
  | a :: l, 0 => rfl
  | a :: l, n + 1 => by simp only [nth, List.getElem?_cons_succ]; exact nth_get
theorem RpL.atI {K : PySem.W.Frag} {H : Hp} {ts : List T} {vs : List V} {i : Int} {n : Nat} {t : T} (r : RpL K H ts vs) (h : ixN ts.length i = some n) (e : ts[n]? = some t) : ∃ v, L2.atI vs i = some v ∧ Rp K H t v := by
  obtain ⟨v, h1, h2⟩ := r.at e
  refine ⟨v, ?_, h2⟩
  unfold L2.atI
  rw [r.length, h]
  exact h1
theorem ixN_nat {n len : Nat} (h : n < len) : ixN len (Int.ofNat n) = some n := by
  show ixN len ((n : Nat) : Int) = some n
  unfold ixN
  rw [if_pos (Int.natCast_nonneg n), if_pos (show ((n : Nat) : Int) < (len : Int) from Int.ofNat_lt.mpr h)]
  rfl
section
variable {X : Cx}
theorem scr_sq {K : PySem.W.Frag} {H : Hp} {ns : List Int} {v : V} (h : Rp K H (.scr ns) v) : ∃ a, v = .ref a ∧ SqL K H a (ns.map V.int) := by
  obtain ⟨a, e, h⟩ := h
  exact ⟨a, e, h.imp (fun ⟨o, q⟩ => .inr ⟨o, q⟩) id⟩
theorem i_ix : IxR X (c2 X.K fIx) := by
  intro value slice pins s σ H v w u u' KQ I rv rw' h2 hs
  obtain ⟨x, y, G, Q, hx, hy, ha, hf, hk⟩ := h2
  unfold fIx at hf
  split at hf
  · obtain ⟨n, t, h1, h2, hf⟩ := hf
    obtain ⟨p, vs, rfl, hp, r⟩ := hx
    obtain ⟨z, hz, rz⟩ := r.atI h1 h2
    exact ix_tup value slice pins s σ H _ _ u u' KQ I rv rw' ⟨p, vs, _, z, rfl, hy, SqT.of hp, hz, hk _ H _ G (Tups.refl H) ha rz hf⟩ hs
  · obtain ⟨ts, n, t, hg, h1, h2, hf⟩ := hf
    cases hx
    obtain ⟨vs, hp, r⟩ := ha _ _ hg
    obtain ⟨z, hz, rz⟩ := r.atI h1 h2
    exact ix_list value slice pins s σ H _ _ u u' KQ I rv rw' ⟨_, vs, _, z, rfl, hy, SqL.of hp, hz, hk _ H _ G (Tups.refl H) ha rz hf⟩ hs
  · obtain ⟨n, m, h1, h2, hf⟩ := hf
    obtain ⟨a, rfl, hq⟩ := scr_sq hx
    refine ix_list value slice pins s σ H _ _ u u' KQ I rv rw' ⟨_, _, _, .int m, rfl, hy, hq, ?_, hk _ H (.int m) G (Tups.refl H) ha rfl hf⟩ hs
    unfold L2.atI
    rw [List.length_map, h1]
    simp [h2]
  · exact hf.elim
theorem i_ixC : IxR X (c2 X.K fIxC) := by
  intro value slice pins s σ H v w u u' KQ I rv rw' h2 hs
  obtain ⟨x, y, G, Q, hx, hy, ha, hf, hk⟩ := h2
  refine i_ix value slice pins s σ H v w u u' KQ I rv rw' ⟨x, y, G, Q, hx, hy, ha, ?_, hk⟩ hs
  unfold fIxC at hf
  split at hf
  · rename_i ts n
    split at hf
    · rename_i t h
      rw [nth_get] at h
      exact ⟨n, t, ixN_nat (List.getElem?_eq_some_iff.mp h).1, h, hf⟩
    · exact hf.elim
  · rename_i a n
    obtain ⟨ts, hg, hf⟩ := hf
    split at hf
    · rename_i t h
      rw [nth_get] at h
      exact ⟨ts, n, t, hg, ixN_nat (List.getElem?_eq_some_iff.mp h).1, h, hf⟩
    · exact hf.elim
  · exact hf.elim
end

/-! ### calls of built-ins -/
def qCB (f : QC) (qa : QA) : QE := fun ρ G Q => qa ρ G fun ts G1 => f ts G1 Q
section
variable {X : Cx} {x : Str} {p pos : Pos} {e : Expr} {es : List Expr} {qa : QA} {id Ty : String} {f : QC}
theorem cb_wk : ∀ σ H KQ, cE X.K (qCB f qa) σ H KQ → tCB (cC X.K f) (cA X.K qa) σ H KQ := fun σ H KQ h => by
  obtain ⟨ρ, G, Q, e, a, q, g⟩ := h
  exact ⟨ρ, G, _, e, a, q, fun vs H1 ts G1 k1 a1 r1 q1 => ⟨ts, G1, Q, r1, a1, q1, g.from k1⟩⟩
theorem e_callB (hc : CallR X (.builtin id) (cC X.K f)) (hg : Gl X x) (hm : X.mg x = none) (hv : bootBuiltins x = some (.builtin id)) (ha : PA X (e :: es) (cA X.K qa)) (hn : x ≠ "__name__" := by decide) (hdb : (x == ("__debug__" : Str)) = false := by decide)
    (he : starEach (e :: es) X.env = (false, eval e X.env) :: starEach es X.env := by rfl) (hpl : (backTo pos (starEach es X.env)).any (·.1) = false := by rfl) : PE X (.Call (.Name x p) (e :: es) [] pos) (cE X.K (qCB f qa)) :=
  PE.wk (pe_callB hc hg hm hv ha hn hdb he hpl) cb_wk
theorem e_callTy (hc : CallR X (.type Ty) (cC X.K f)) (hg : Gl X x) (hm : X.mg x = none) (hv : bootBuiltins x = some (.type Ty)) (ha : PA X (e :: es) (cA X.K qa)) (hn : x ≠ "__name__" := by decide) (hdb : (x == ("__debug__" : Str)) = false := by decide)
    (he : starEach (e :: es) X.env = (false, eval e X.env) :: starEach es X.env := by rfl) (hpl : (backTo pos (starEach es X.env)).any (·.1) = false := by rfl) : PE X (.Call (.Name x p) (e :: es) [] pos) (cE X.K (qCB f qa)) :=
  PE.wk (pe_callTy hc hg hm hv ha hn hdb he hpl) cb_wk
end
def fLen : QC := fun ts G Q => match ts with
  | [.tup xs] => Q (.int xs.length) G
  | [.scr ns] => Q (.int ns.length) G
  | [.str x] => x.length ≤ 100000 ∧ Q (.int x.length) G
  | [.ref a] => ∃ xs, G a = some (.lst xs) ∧ Q (.int xs.length) G
  | _ => False
def fAbs : QC := fun ts G Q => match ts with
  | [.int i] => Q (.int (if i < 0 then -i else i)) G
  | _ => False
def fMin2 : QC := fun ts G Q => match ts with
  | [.int i, .int j] => Q (.int (if j < i then j else i)) G
  | _ => False
def fMax2 : QC := fun ts G Q => match ts with
  | [.int i, .int j] => Q (.int (if j > i then j else i)) G
  | _ => False
def fTuple : QC := fun ts G Q => match ts with
  | [.ref a] => ∃ xs, G a = some (.lst xs) ∧ Q (.tup xs) G
  | [.tup xs] => Q (.tup xs) G
  | _ => False
def fList : QC := fun ts G Q => match ts with
  | [.ref a] => ∃ xs, G a = some (.lst xs) ∧ ∀ p, G p = none → Q (.ref p) (gput G p (.lst xs))
  | [.tup xs] => ∀ p, G p = none → Q (.ref p) (gput G p (.lst xs))
  | _ => False
section
variable {X : Cx}
theorem rpl1 {K : PySem.W.Frag} {H : Hp} {t : T} {vs : List V} (h : RpL K H [t] vs) : ∃ v, vs = [v] ∧ Rp K H t v := by
  obtain ⟨v, r, e, h, hr⟩ := h
  rw [show r = [] from hr] at e
  exact ⟨v, e, h⟩
theorem rpl2 {K : PySem.W.Frag} {H : Hp} {t u : T} {vs : List V} (h : RpL K H [t, u] vs) : ∃ v w, vs = [v, w] ∧ Rp K H t v ∧ Rp K H u w := by
  obtain ⟨v, r, e, h, hr⟩ := h
  obtain ⟨w, rfl, h2⟩ := rpl1 hr
  exact ⟨v, w, e, h, h2⟩
theorem b_len : CallR X (.builtin "len") (cC X.K fLen) := by
  intro pins s σ H vs us KQ I r h
  obtain ⟨ts, G, Q, hr, ha, hf, hk⟩ := h
  unfold fLen at hf
  split at hf
  · obtain ⟨v, rfl, h1⟩ := rpl1 hr
    obtain ⟨p, ws, rfl, hp, rr⟩ := h1
    exact call_len pins s σ H _ us KQ I r ⟨_, ws.length, rfl, .inr ⟨ws, SqT.of hp, rfl⟩, hk _ H (.int _) G (Tups.refl H) ha (by rw [rr.length]; rfl) hf⟩
  · obtain ⟨v, rfl, h1⟩ := rpl1 hr
    obtain ⟨a, rfl, hq⟩ := scr_sq h1
    exact call_len pins s σ H _ us KQ I r ⟨_, _, rfl, .inl ⟨_, hq, rfl⟩, hk _ H (.int _) G (Tups.refl H) ha (by rw [List.length_map]; rfl) hf⟩
  · obtain ⟨v, rfl, h1⟩ := rpl1 hr
    cases h1
    exact call_len pins s σ H _ us KQ I r ⟨_, _, rfl, ⟨sz100 hf.1, rfl⟩, hk _ H (.int _) G (Tups.refl H) ha rfl hf.2⟩
  · obtain ⟨v, rfl, h1⟩ := rpl1 hr
    cases h1
    obtain ⟨xs, hg, hf⟩ := hf
    obtain ⟨ws, hp, rr⟩ := ha _ _ hg
    exact call_len pins s σ H _ us KQ I r ⟨_, ws.length, rfl, .inl ⟨ws, SqL.of hp, rfl⟩, hk _ H (.int _) G (Tups.refl H) ha (by rw [rr.length]; rfl) hf⟩
  · exact hf.elim
theorem b_abs : CallR X (.builtin "abs") (cC X.K fAbs) := by
  intro pins s σ H vs us KQ I r h
  obtain ⟨ts, G, Q, hr, ha, hf, hk⟩ := h
  unfold fAbs at hf
  split at hf
  · obtain ⟨v, rfl, h1⟩ := rpl1 hr
    cases h1
    exact call_abs pins s σ H _ us KQ I r ⟨_, rfl, hk _ H (.int _) G (Tups.refl H) ha rfl hf⟩
  · exact hf.elim
theorem b_min2 (hc : X.calm = true) : CallR X (.builtin "min") (cC X.K fMin2) := by
  intro pins s σ H vs us KQ I r h
  obtain ⟨ts, G, Q, hr, ha, hf, hk⟩ := h
  unfold fMin2 at hf
  split at hf
  · obtain ⟨v, w, rfl, h1, h2⟩ := rpl2 hr
    cases h1; cases h2
    exact call_min2 hc pins s σ H _ us KQ I r ⟨_, _, rfl, hk _ H (.int _) G (Tups.refl H) ha rfl hf⟩
  · exact hf.elim
theorem b_max2 (hc : X.calm = true) : CallR X (.builtin "max") (cC X.K fMax2) := by
  intro pins s σ H vs us KQ I r h
  obtain ⟨ts, G, Q, hr, ha, hf, hk⟩ := h
  unfold fMax2 at hf
  split at hf
  · obtain ⟨v, w, rfl, h1, h2⟩ := rpl2 hr
    cases h1; cases h2
    exact call_max2 hc pins s σ H _ us KQ I r ⟨_, _, rfl, hk _ H (.int _) G (Tups.refl H) ha rfl hf⟩
  · exact hf.elim
theorem b_tuple : CallR X (.type "tuple") (cC X.K fTuple) := by
  intro pins s σ H vs us KQ I r h
  obtain ⟨ts, G, Q, hr, ha, hf, hk⟩ := h
  unfold fTuple at hf
  split at hf
  · obtain ⟨v, rfl, h1⟩ := rpl1 hr
    cases h1
    obtain ⟨xs, hg, hf⟩ := hf
    obtain ⟨ws, hp, rr⟩ := ha _ _ hg
    refine call_tuple_of pins s σ H _ us KQ I r ⟨_, ws, rfl, .inl ⟨SqL.of hp, fun l hl => ?_⟩⟩
    have k : Tups H (upd H l (.tup ws)) := Tups.new hl
    exact hk _ _ (.tup xs) G k (ha.grow hl) ⟨l, ws, rfl, upd_same, rr.mono k⟩ hf
  · obtain ⟨v, rfl, h1⟩ := rpl1 hr
    obtain ⟨p, ws, rfl, hp, rr⟩ := id h1
    exact call_tuple_of pins s σ H _ us KQ I r ⟨_, ws, rfl, .inr ⟨SqT.of hp, hk _ H _ G (Tups.refl H) ha h1 hf⟩⟩
  · exact hf.elim
theorem b_list : CallR X (.type "list") (cC X.K fList) := by
  intro pins s σ H vs us KQ I r h
  obtain ⟨ts, G, Q, hr, ha, hf, hk⟩ := h
  unfold fList at hf
  split at hf
  · obtain ⟨v, rfl, h1⟩ := rpl1 hr
    cases h1
    obtain ⟨xs, hg, hf⟩ := hf
    obtain ⟨ws, hp, rr⟩ := ha _ _ hg
    refine call_list_of pins s σ H _ us KQ I r ⟨_, ws, rfl, .inl (SqL.of hp), fun l hl => ?_⟩
    have k : Tups H (upd H l (.lst ws)) := Tups.new hl
    exact hk _ _ _ _ k (ha.put (o := .lst xs) ⟨fun xs z => (by rw [hl] at z; cases z), fun o xs z => (by rw [hl] at z; cases z)⟩ ⟨_, upd_same, rr.mono k⟩) (show Rp X.K _ (.ref l) _ from rfl) (hf l (ha.free hl))
  · obtain ⟨v, rfl, h1⟩ := rpl1 hr
    obtain ⟨p, ws, rfl, hp, rr⟩ := id h1
    refine call_list_of pins s σ H _ us KQ I r ⟨_, ws, rfl, .inr (SqT.of hp), fun l hl => ?_⟩
    have k : Tups H (upd H l (.lst ws)) := Tups.new hl
    exact hk _ _ _ _ k (ha.put (o := .lst _) ⟨fun xs z => (by rw [hl] at z; cases z), fun o xs z => (by rw [hl] at z; cases z)⟩ ⟨_, upd_same, rr.mono k⟩) (show Rp X.K _ (.ref l) _ from rfl) (hf l (ha.free hl))
  · exact hf.elim
end

/-! ### calls of defs -/
abbrev X0 : XQ := fun _ _ _ => False
def qCall (sp : QSp) (qa : QA) : QE := fun ρ G Q => qa ρ G fun ts G1 => sp ts G1 Q X0
section
variable {X : Cx} {CX : CXT} {k : Nat} {f : Addr} {fd : FuncData} {ps : List Str} {sp : QSp} {x : Str} {p pos : Pos} {e : Expr} {es : List Expr} {qa : QA}
theorem folx0 {K : PySem.W.Frag} {H : Hp} : FolX K H X0 E0 := fun _ _ _ _ _ _ _ _ z => z.elim
theorem e_call (F : FnOk X.prog X.w X.K X.mg X.base CX k f fd ps (cSp X.K sp)) (hr : Room k X.A) (hg : Gl X x) (hm : X.mg x = some (.ref f)) (hk : PySem.W.keepIn X.K (.ref f) = true) (hb : Binds X.K fd ps []) (hx : Passes CX X E0)
    (ha : PA X (e :: es) (cA X.K qa)) (hdb : (x == ("__debug__" : Str)) = false := by decide) (he : starEach (e :: es) X.env = (false, eval e X.env) :: starEach es X.env := by rfl) (hpl : (backTo pos (starEach es X.env)).any (·.1) = false := by rfl) :
    PE X (.Call (.Name x p) (e :: es) [] pos) (cE X.K (qCall sp qa)) := PE.wk (pe_call F hr hg hm hk hb .nil hx ha hdb he hpl) fun σ H KQ h => by
  obtain ⟨ρ, G, Q, e, a, q, g⟩ := h
  refine ⟨ρ, G, _, e, a, q, fun vs H1 ts G1 k1 a1 r1 q1 => ?_⟩
  exact ⟨ts, G1, Q, X0, by rw [List.append_nil]; exact r1, a1, q1, g.from k1, folx0⟩
end

/-! ### statements -/
section
variable {X : Cx} {st : Stmt} {rest : List Stmt} {q1 q2 : QS} {e : Expr} {qe : QE} {pos : Pos}
def qNext : QS := fun D ρ G => D.nx ρ G
def qSeq (t u : QS) : QS := fun D ρ G => t { D with nx := u D } ρ G
theorem ss_nil : PSs X [] (cS X.K qNext) := PSs.wk pss_nil fun D σ H h => by
  obtain ⟨ρ, G, D', e, a, q, f⟩ := h
  exact f.nx σ H ρ G (Tups.refl H) e a q
theorem ss_cons (h1 : PS X st (cS X.K q1)) (h2 : PSs X rest (cS X.K q2)) : PSs X (st :: rest) (cS X.K (qSeq q1 q2)) := PSs.wk (pss_cons h1 h2) fun D σ H h => by
  obtain ⟨ρ, G, D', e, a, q, f⟩ := h
  exact ⟨ρ, G, _, e, a, q, ⟨fun σ' H' ρ' G' k e' a' q' => ⟨ρ', G', D', e', a', q', f.from k⟩, f.rt, f.bk, f.ct⟩⟩
theorem ss_one (h1 : PS X st (cS X.K q1)) : PSs X [st] (cS X.K q1) := pss_one h1
def qNever : QS := fun _ _ _ => False
theorem s_never : PS X st (cS X.K qNever) := PS.wk ps_never fun D σ H h => by
  obtain ⟨ρ, G, D', e, a, q, f⟩ := h
  exact q
theorem ss_never {sts : List Stmt} : PSs X sts (cS X.K qNever) := PSs.wk pss_never fun D σ H h => by
  obtain ⟨ρ, G, D', e, a, q, f⟩ := h
  exact q
theorem s_pass : PS X (.Pass pos) (cS X.K qNext) := PS.wk ps_pass fun D σ H h => by
  obtain ⟨ρ, G, D', e, a, q, f⟩ := h
  exact f.nx σ H ρ G (Tups.refl H) e a q
def qDrop (qe : QE) : QS := fun D ρ G => qe ρ G fun _ G1 => D.nx ρ G1
theorem s_expr (he : PE X e (cE X.K qe)) (hs : swapsWith e none pos.line X.env = pure false := by rfl) : PS X (.Expr e pos) (cS X.K (qDrop qe)) := PS.wk (ps_expr he hs) fun D σ H h => by
  obtain ⟨ρ, G, D', e, a, q, f⟩ := h
  exact ⟨ρ, G, _, e, a, q, fun v H1 t G1 k1 a1 _ q1 => f.nx σ H1 ρ G1 k1 (e.mono k1) a1 q1⟩
def qRet (qe : QE) : QS := fun D ρ G => qe ρ G D.rt
theorem s_ret (he : PE X e (cE X.K qe)) : PS X (.Return (some e) pos) (cS X.K (qRet qe)) := PS.wk (ps_ret he) fun D σ H h => by
  obtain ⟨ρ, G, D', e, a, q, f⟩ := h
  exact ⟨ρ, G, _, e, a, q, f.rt⟩
def qRetN : QS := fun D _ G => D.rt .non G
theorem s_retN : PS X (.Return none pos) (cS X.K qRetN) := PS.wk ps_retN fun D σ H h => by
  obtain ⟨ρ, G, D', e, a, q, f⟩ := h
  exact f.rt _ H .non G (Tups.refl H) a rfl q
def qIfS (c : QT) (t u : QS) : QS := fun D ρ G => c ρ G fun b G1 => (b = true → t D ρ G1) ∧ (b = false → u D ρ G1)
theorem s_if {c : Expr} {a b : List Stmt} {qc : QT} (hc : PT X c (cT X.K qc)) (ha : PSs X a (cS X.K q1)) (hb : PSs X b (cS X.K q2)) : PS X (.If c a b pos) (cS X.K (qIfS qc q1 q2)) := PS.wk (ps_if hc ha hb) fun D σ H h => by
  obtain ⟨ρ, G, D', e, a, q, f⟩ := h
  refine ⟨ρ, G, _, e, a, q, fun b H1 G1 k1 a1 q1 => ?_⟩
  cases b with
  | true => exact ⟨ρ, G1, D', e.mono k1, a1, q1.1 rfl, f.from k1⟩
  | false => exact ⟨ρ, G1, D', e.mono k1, a1, q1.2 rfl, f.from k1⟩

/-! targets -/
variable {own : List Nat} {tg : Expr} {qg : QG} {qgs : QGs} {es : List Expr}
def gNm (i : Nat) : QG := fun t ρ G Q => putK ρ i (some t) fun ρ' => Q ρ' G
theorem wipe_go {i : Nat} {w : Option V} : ∀ (vs : List Nat) (σ : L2.St), wipe (σ.set i w) vs = (wipe σ vs).set i w ∨ wipe (σ.set i w) vs = wipe σ vs := by
  intro vs
  induction vs with
  | nil => intro σ; exact .inl rfl
  | cons u us ih =>
    intro σ
    show ((wipe (σ.set i w) us).set u none = ((wipe σ us).set u none).set i w) ∨ ((wipe (σ.set i w) us).set u none = (wipe σ us).set u none)
    rcases ih σ with e | e
    · rw [e]
      by_cases hu : u = i
      · subst hu
        right
        rw [List.set_set]
      · left
        rw [List.set_comm _ _ (Ne.symm hu)]
    · right; rw [e]
theorem wipe_wipe {σ : L2.St} : ∀ {vs : List Nat}, wipe (wipe σ vs) vs = wipe σ vs := by
  intro vs
  induction vs with
  | nil => rfl
  | cons v us ih =>
    show (wipe ((wipe σ us).set v none) us).set v none = (wipe σ us).set v none
    rcases wipe_go (i := v) (w := none) us (wipe σ us) with e | e
    · rw [e, List.set_set, ih]
    · rw [e, ih]
theorem wipe_set {σ : L2.St} {i : Nat} {w : Option V} : ∀ {vs : List Nat}, i ∈ vs → wipe (σ.set i w) vs = wipe σ vs
  | [], h => absurd h (by simp)
  | v :: vs, h => by
    show (wipe (σ.set i w) vs).set v none = (wipe σ vs).set v none
    by_cases hv : i = v
    · subst hv
      rcases wipe_go (i := i) (w := w) vs σ with e | e
      · rw [e, List.set_set]
      · rw [e]
    · have hm : i ∈ vs := by
        rcases List.mem_cons.mp h with z | z
        · exact absurd z hv
        · exact z
      rw [wipe_set hm]
theorem g_name {i : Nat} {x : Str} (hN : X.N.Nodup) (hi : X.N[i]? = some x) (hx : Loc X.env.scope x) (ho : i ∈ own := by decide) (hf : X.fn x = true ∨ X.env.scope.names.lookup x = some .local := by first | exact .inl rfl | exact .inr rfl | assumption) :
    PG X (.Name x pos) (cG X.K own (gNm i)) := PG.wk (pg_name hN hi hx hf) fun v σ H KQ h => by
  obtain ⟨t, ρ, G, Q, r, e, a, q, f⟩ := h
  exact f _ H _ G (wipe_set ho) (Tups.refl H) (e.put r i) a (putK_put q)
def gsNil : QGs := fun ts ρ G Q => match ts with | [] => Q ρ G | _ => False
def gsCons (t : QG) (u : QGs) : QGs := fun ts ρ G Q => match ts with | x :: r => t x ρ G fun ρ' G' => u r ρ' G' Q | _ => False
theorem gs_nil : PGs X [] (cGs X.K own gsNil) := PGs.wk pgs_nil fun vs σ H KQ h => by
  obtain ⟨ts, ρ, G, Q, r, e, a, q, f⟩ := h
  unfold gsNil at q
  split at q
  · exact ⟨r, f _ H _ G rfl (Tups.refl H) e a q⟩
  · exact q.elim
theorem gs_cons (h1 : PG X e (cG X.K own qg)) (h2 : PGs X es (cGs X.K own qgs)) (hs : (assignEach (e :: es) X.env).map (·.2) = assign e X.env :: (assignEach es X.env).map (·.2) := by rfl) : PGs X (e :: es) (cGs X.K own (gsCons qg qgs)) :=
  PGs.wk (pgs_cons h1 h2 hs) fun vs σ H KQ h => by
    obtain ⟨ts, ρ, G, Q, r, e, a, q, f⟩ := h
    unfold gsCons at q
    split at q
    · obtain ⟨v, vr, rfl, r1, r2⟩ := r
      exact ⟨v, vr, rfl, _, ρ, G, _, r1, e, a, q, fun σ' H' ρ' G' w1 k1 e1 a1 q1 => ⟨_, ρ', G', Q, r2.mono k1, e1, a1, q1, fun σ2 H2 ρ2 G2 w2 k2 e2 a2 q2 => f σ2 H2 ρ2 G2 (w2.trans w1) (k1.trans k2) e2 a2 q2⟩⟩
    · exact q.elim
def lenIs {α : Type} : Nat → List α → Bool
  | 0, [] => true
  | n + 1, _ :: l => lenIs n l
  | _, _ => false
theorem lenIs_len {α : Type} : ∀ {n : Nat} {l : List α}, lenIs n l = true → l.length = n
  | 0, [], _ => rfl
  | n + 1, _ :: l, h => congrArg Nat.succ (lenIs_len (n := n) (l := l) h)
  | 0, _ :: _, h => by cases h
  | _ + 1, [], h => by cases h
def gTp (n : Nat) (t : QGs) : QG := fun x ρ G Q => match x with | .tup ts => (match lenIs n ts with | true => t ts ρ G Q | false => False) | _ => False
theorem g_tup {kk : Nat} {n : Nat} (hc : X.calm = true) (h : PGs X es (cGs X.K own qgs)) (hn : (assignEach es X.env).length = n := by rfl) (hst : (assignEach es X.env).findIdx? (·.1) = none := by rfl) :
    PG X (.Tuple es kk pos) (cG X.K own (gTp n qgs)) := PG.wk (pg_tup hc h hn hst) fun v σ H KQ h => by
  obtain ⟨t, ρ, G, Q, r, e, a, q, f⟩ := h
  unfold gTp at q
  split at q
  · obtain ⟨p, vs, rfl, hp, r⟩ := r
    split at q
    · rename_i hl
      exact ⟨p, vs, rfl, SqT.of hp, by rw [r.length]; exact lenIs_len hl, _, ρ, G, Q, r, e, a, q, f⟩
    · exact q.elim
  · exact q.elim
def qAsg (qe : QE) (qg : QG) : QS := fun D ρ G => qe ρ G fun t G1 => qg t ρ G1 D.nx
theorem s_asg (he : PE X e (cE X.K qe)) (hg : PG X tg (cG X.K own qg)) (hs : swapsWithSole [tg] e pos.line X.env = pure false := by rfl) (hw : swappedStores [tg] e X.env = pure none := by rfl)
    (h1 : (assignEach [tg] X.env).map (·.2) = [assign tg X.env] := by rfl) : PS X (.Assign [tg] e pos) (cS X.K (qAsg qe qg)) := PS.wk (ps_asg he hg hs hw h1) fun D σ H h => by
  obtain ⟨ρ, G, D', e, a, q, f⟩ := h
  exact ⟨ρ, G, _, e, a, q, fun v H1 t G1 k1 a1 r1 q1 => ⟨t, ρ, G1, _, r1, e.mono k1, a1, q1, fun σ' H' ρ' G' _ k2 e2 a2 q2 => f.nx σ' H' ρ' G' (k1.trans k2) e2 a2 q2⟩⟩
theorem s_set {i : Nat} {x : Str} {pos' : Pos} (hN : X.N.Nodup) (hi : X.N[i]? = some x) (hx : Loc X.env.scope x) (he : PE X e (cE X.K qe)) (hs : swapsWith e (some (.Name x pos')) pos.line X.env = pure false := by rfl)
    (hf : X.fn x = true ∨ X.env.scope.names.lookup x = some .local := by first | exact .inl rfl | exact .inr rfl | assumption) : PS X (.Assign [.Name x pos'] e pos) (cS X.K (qAsg qe (gNm i))) := PS.wk (ps_set hN hi hx he hs hf) fun D σ H h => by
  obtain ⟨ρ, G, D', e, a, q, f⟩ := h
  exact ⟨ρ, G, _, e, a, q, fun v H1 t G1 k1 a1 r1 q1 => f.nx _ H1 _ G1 k1 ((e.mono k1).put r1 i) a1 (putK_put q1)⟩
/-- a, b = x, y, the names local: stored from the right -/
def qPar (i j : Nat) (qa : QA) : QS := fun D ρ G => qa ρ G fun ts G1 => match ts with | [v, w] => putK ρ i (some v) (fun ρ1 => putK ρ1 j (some w) fun ρ2 => D.nx ρ2 G1) | _ => False
theorem s_par {i j : Nat} {x y : Str} {a b : Expr} {qa : QA} {px py pt : Pos} {kt k2 pt2} (hc : X.calm = true) (hN : X.N.Nodup) (hi : X.N[i]? = some x) (hj : X.N[j]? = some y) (hij : i ≠ j)
    (hx : X.env.scope.names.lookup x = some .local) (hy : X.env.scope.names.lookup y = some .local) (ha : PA X [a, b] (cA X.K qa))
    (hw : swappedStores [.Tuple [.Name x px, .Name y py] kt pt] (.Tuple [a, b] k2 pt2) X.env = pure (some [x, y]))
    (hs : swapsWithSole [.Tuple [.Name x px, .Name y py] kt pt] (.Tuple [a, b] k2 pt2) pos.line X.env = pure false := by rfl) :
    PS X (.Assign [.Tuple [.Name x px, .Name y py] kt pt] (.Tuple [a, b] k2 pt2) pos) (cS X.K (qPar i j qa)) := PS.wk (ps_par hc hN hi hj hij hx hy ha hw hs) fun D σ H h => by
  obtain ⟨ρ, G, D', e, a, q, f⟩ := h
  refine ⟨ρ, G, _, e, a, q, fun vs H1 ts G1 k1 a1 r1 q1 => ?_⟩
  split at q1
  · obtain ⟨v, w, rfl, h1, h2⟩ := rpl2 r1
    exact ⟨v, w, rfl, f.nx _ H1 _ G1 k1 (((e.mono k1).put h1 i).put h2 j) a1 (putK_put (putK_put q1))⟩
  · exact q1.elim
def qPar3 (i j l : Nat) (qa : QA) : QS := fun D ρ G => qa ρ G fun ts G1 => match ts with | [u, v, w] => putK ρ i (some u) (fun ρ1 => putK ρ1 j (some v) fun ρ2 => putK ρ2 l (some w) fun ρ3 => D.nx ρ3 G1) | _ => False
theorem s_par3 {i j l : Nat} {x y z : Str} {a b c : Expr} {qa : QA} {px py pz pt pos : Pos} {kt k2 pt2} (hc : X.calm = true) (hN : X.N.Nodup) (hi : X.N[i]? = some x) (hj : X.N[j]? = some y) (hl : X.N[l]? = some z) (hij : i ≠ j) (hil : i ≠ l) (hjl : j ≠ l)
    (hx : X.env.scope.names.lookup x = some .local) (hy : X.env.scope.names.lookup y = some .local) (hz : X.env.scope.names.lookup z = some .local) (ha : PA X [a, b, c] (cA X.K qa))
    (hw : swappedStores [.Tuple [.Name x px, .Name y py, .Name z pz] kt pt] (.Tuple [a, b, c] k2 pt2) X.env = pure (some [x, y, z]))
    (hs : swapsWithSole [.Tuple [.Name x px, .Name y py, .Name z pz] kt pt] (.Tuple [a, b, c] k2 pt2) pos.line X.env = pure false := by rfl) :
    PS X (.Assign [.Tuple [.Name x px, .Name y py, .Name z pz] kt pt] (.Tuple [a, b, c] k2 pt2) pos) (cS X.K (qPar3 i j l qa)) := PS.wk (ps_par3 hc hN hi hj hl hij hil hjl hx hy hz ha hw hs) fun D σ H h => by
  obtain ⟨ρ, G, D', e, a, q, f⟩ := h
  refine ⟨ρ, G, _, e, a, q, fun vs H1 ts G1 k1 a1 r1 q1 => ?_⟩
  split at q1
  · obtain ⟨v, r, rfl, h1, r2⟩ := r1
    obtain ⟨w, z, rfl, h2, h3⟩ := rpl2 r2
    exact ⟨v, w, z, rfl, f.nx _ H1 _ G1 k1 ((((e.mono k1).put h1 i).put h2 j).put h3 l) a1 (putK_put (putK_put (putK_put q1)))⟩
  · exact q1.elim
/-! o[i] = e -/
def fSetL : T → T → T → Gp → (Gp → Prop) → Prop := fun o i v G Q => match o, i with
  | .ref a, .int k => ∃ ts n, G a = some (.lst ts) ∧ ixN ts.length k = some n ∧ Q (gput G a (.lst (ts.set n v)))
  | _, _ => False
abbrev QSet := T → T → T → Gp → (Gp → Prop) → Prop
def cSet (K : PySem.W.Frag) (f : QSet) : TSet := fun o i v H KQ => ∃ x y z G Q, Rp K H x o ∧ Rp K H y i ∧ Rp K H z v ∧ Abs K H G ∧ f x y z G Q ∧ ∀ H' G', Tups H H' → Abs K H' G' → Q G' → KQ H'
theorem set_lst : PSet X (cSet X.K fSetL) := by
  intro pins s σ H o i v ov iv u KQ I ro ri rv h
  obtain ⟨x, y, z, G, Q, hx, hy, hz, ha, hf, hk⟩ := h
  unfold fSetL at hf
  split at hf
  · obtain ⟨ts, n, hg, h1, hf⟩ := hf
    cases hx
    cases hy
    obtain ⟨vs, hp, r⟩ := ha _ _ hg
    have wr : Wr H _ := Wr.of hp (fun _ z => by cases z) (fun _ _ z => by cases z)
    have k := Tups.set (o := .lst (vs.set n v)) wr
    refine L2.set_list pins s σ H _ _ v ov iv u KQ I ro ri rv ⟨_, vs, _, n, rfl, rfl, hp, by rw [r.length]; exact h1, ?_⟩
    exact hk _ _ k (ha.put (o := .lst (ts.set n z)) wr ⟨_, upd_same, (r.set hz n).mono k⟩) hf
  · exact hf.elim
def gSb (qo qi : QE) (f : QSet) : QG := fun t ρ G Q => qo ρ G fun o G1 => qi ρ G1 fun i G2 => f o i t G2 fun G3 => Q ρ G3
theorem g_sub {o i : Expr} {qo qi : QE} {f : QSet} (ho : PE X o (cE X.K qo)) (hi : PE X i (cE X.K qi)) (hs : PSet X (cSet X.K f))
    (ha : ∀ v, assign (.Subscript o i pos) X.env v = (do
      let ov ← holding [v] (eval o X.env)
      let iv ← holding [v, ov] (eval i X.env)
      standAt pos
      holding [v, ov, iv] (setItem ov iv v)
      release [v, ov, iv] []) := by intro _; rfl) : PG X (.Subscript o i pos) (cG X.K own (gSb qo qi f)) := PG.wk (pg_sub ho hi hs ha) fun v σ H KQ h => by
  obtain ⟨t, ρ, G, Q, r, e, a, q, g⟩ := h
  refine ⟨ρ, G, _, e, a, q, fun w H1 u G1 k1 a1 r1 q1 => ?_⟩
  refine ⟨ρ, G1, _, e.mono k1, a1, q1, fun w2 H2 u2 G2 k2 a2 r2 q2 => ?_⟩
  exact ⟨u, u2, t, G2, _, r1.mono k2, r2, r.mono (k1.trans k2), a2, q2, fun H3 G3 k3 a3 q3 => g _ H3 ρ G3 rfl ((k1.trans k2).trans k3) (e.mono ((k1.trans k2).trans k3)) a3 q3⟩

/-! ### loops -/
def Wk (P : REnv → Gp → Prop) : REnv → Gp → Prop := fun ρ G => ∃ ρ1 G1, ELe ρ1 ρ ∧ Sub G1 G ∧ P ρ1 G1
theorem Wk.of {P : REnv → Gp → Prop} {ρ : REnv} {G : Gp} (h : P ρ G) : Wk P ρ G := ⟨ρ, G, ELe.refl ρ, Sub.refl G, h⟩
def qWhile (c : QT) (b : QS) : QS := fun D ρ G => ∃ I : Nat → REnv → Gp → Prop, (∃ m, I m ρ G) ∧ ∀ m ρ G, I m ρ G →
  c ρ G fun k G1 => (k = true → b { D with nx := Wk fun ρ' G' => ∃ m', m' < m ∧ I m' ρ' G', ct := Wk fun ρ' G' => ∃ m', m' < m ∧ I m' ρ' G', bk := D.nx } ρ G1) ∧ (k = false → D.nx ρ G1)
theorem s_while {c : Expr} {body : List Stmt} {qc : QT} {qb : QS} (hp : PassesOwn (model X.prog X.w) X.A X.env X.xe) (hc : PT X c (cT X.K qc)) (hb : PSs X body (cS X.K qb)) : PS X (.While c body [] pos) (cS X.K (qWhile qc qb)) :=
  PS.wk (ps_while hp hc hb) fun D σ H h => by
    obtain ⟨ρ, G, D', e, a, ⟨J, ⟨m0, i0⟩, turn⟩, f⟩ := h
    refine ⟨fun m σ' H' => Tups H H' ∧ ∃ ρ' G', EnvR X.K H' ρ' σ' ∧ Abs X.K H' G' ∧ J m ρ' G', ⟨m0, Tups.refl H, ρ, G, e, a, i0⟩, ?_⟩
    rintro m σ1 H1 ⟨k1, ρ1, G1, e1, a1, j1⟩
    refine ⟨ρ1, G1, _, e1, a1, turn m ρ1 G1 j1, fun b H2 G2 k2 a2 q2 => ?_⟩
    cases b with
    | true =>
      rw [if_pos rfl]
      refine ⟨fun σ' H' => Tups H H' ∧ ∃ ρ' G', EnvR X.K H' ρ' σ' ∧ Abs X.K H' G' ∧ ∃ m', m' < m ∧ J m' ρ' G', fun σ' H' ⟨k, ρ', G', e', a', m', hm, j'⟩ => ⟨m', hm, k, ρ', G', e', a', j'⟩, ?_⟩
      have k12 := k1.trans k2
      have fol : FolS X.K H2 (Wk fun ρ' G' => ∃ m', m' < m ∧ J m' ρ' G') (fun σ' H' => Tups H H' ∧ ∃ ρ' G', EnvR X.K H' ρ' σ' ∧ Abs X.K H' G' ∧ ∃ m', m' < m ∧ J m' ρ' G') :=
        fun σ' H' ρ' G' k3 e3 a3 ⟨ρ4, G4, le, sb, q4⟩ => ⟨k12.trans k3, ρ4, G4, e3.le le, a3.sub sb, q4⟩
      exact ⟨ρ1, G2, _, e1.mono k2, a2, q2.1 rfl, ⟨fol, f.rt.from k12, f.nx.from k12, fol⟩⟩
    | false =>
      rw [if_neg Bool.false_ne_true]
      exact f.nx σ1 H2 ρ1 G2 (k1.trans k2) (e1.mono k2) a2 (q2.2 rfl)
def qFor (qi : QI) (qg : QG) (b : QS) : QS := fun D ρ G => qi ρ G fun ts St G1 => ∃ I : Nat → REnv → Gp → Prop, I 0 ρ G1 ∧ (∀ i ρ G, i ≤ ts.length → I i ρ G → St G) ∧
  (∀ i t ρ G, ts[i]? = some t → I i ρ G → qg t ρ G fun ρ2 G2 => b { D with nx := Wk (I (i + 1)), ct := Wk (I (i + 1)), bk := D.nx } ρ2 G2) ∧ ∀ ρ G, I ts.length ρ G → D.nx ρ G
theorem s_for {iter : Expr} {body : List Stmt} {qi : QI} {qb : QS} (hp : PassesOwn (model X.prog X.w) X.A X.env X.xe) (hc : X.calm = true) (hi : PI X tg iter (cI X.K qi)) (hg : PG X tg (cG X.K own qg)) (hb : PSs X body (cS X.K qb))
    (hs : ∀ x, foldedSetIterable iter X.env x = pure x := by intro _; rfl) : PS X (.For tg iter body [] pos) (cS X.K (qFor qi qg qb)) := PS.wk (ps_for hp hc hi hg hb hs) fun D σ H h => by
  obtain ⟨ρ, G, D', e, a, q, f⟩ := h
  refine ⟨ρ, G, _, e, a, q, fun J H1 ts St G1 k1 a1 w ⟨I, i0, hst, turn, done⟩ => ?_⟩
  refine ⟨fun i m σ' H' => m = ts.length - i ∧ i ≤ ts.length ∧ Tups H1 H' ∧ ∃ ρ' G', EnvR X.K H' ρ' σ' ∧ Abs X.K H' G' ∧ I i ρ' G', ⟨ts.length, by simp, Nat.zero_le _, Tups.refl H1, ρ, G1, e.mono k1, a1, i0⟩, ?_⟩
  rintro i m σ2 H2 ⟨rfl, hi, k2, ρ2, G2, e2, a2, j2⟩
  have st := hst i ρ2 G2 hi j2
  by_cases hlt : i < ts.length
  · refine .inr ⟨w.goes i H2 G2 hlt k2 a2 st, fun σ' H' => Tups H1 H' ∧ ∃ ρ' G', EnvR X.K H' ρ' σ' ∧ Abs X.K H' G' ∧ I (i + 1) ρ' G', fun σ' H' ⟨k, p⟩ => ⟨ts.length - (i + 1), by omega, rfl, hlt, k, p⟩, fun x H3 y => ?_⟩
    obtain ⟨k3, a3, t, ht, r3⟩ := w.yields i H2 G2 x H3 hlt k2 a2 st y
    have k23 := k2.trans k3
    refine ⟨t, ρ2, G2, _, r3, e2.mono k3, a3, turn i t ρ2 G2 ht j2, fun σ4 H4 ρ4 G4 _ k4 e4 a4 q4 => ?_⟩
    have k14 := k23.trans k4
    have fol : FolS X.K H4 (Wk (I (i + 1))) (fun σ' H' => Tups H1 H' ∧ ∃ ρ' G', EnvR X.K H' ρ' σ' ∧ Abs X.K H' G' ∧ I (i + 1) ρ' G') :=
      fun σ' H' ρ' G' k5 e5 a5 ⟨ρ6, G6, le, sb, q6⟩ => ⟨k14.trans k5, ρ6, G6, e5.le le, a5.sub sb, q6⟩
    exact ⟨ρ4, G4, _, e4, a4, q4, ⟨fol, f.rt.from (k1.trans k14), f.nx.from (k1.trans k14), fol⟩⟩
  · have e' : i = ts.length := by omega
    subst e'
    exact .inl ⟨w.stops H2 G2 k2 a2 st, f.nx σ2 H2 ρ2 G2 (k1.trans k2) e2 a2 (done ρ2 G2 j2)⟩
end
end Lw

set_option Elab.async false
set_option linter.all false
set_option maxRecDepth 100000
set_option maxHeartbeats 4000000
namespace Lw
open PySem PySem.Spec PyProof.Rows L2

/-! ### what is walked -/
section
variable {K : PySem.W.Frag} {H1 : Hp} {a b : Addr}
theorem wt_of {J : It} {n : Nat} {Gd : Hp → Prop} {Y : Nat → Hp → V → Hp → Prop} {ts : List T} {St : Gp → Prop} (w : Walk J n Gd Y) (hn : n = ts.length) (hg : ∀ H G, Tups H1 H → Abs K H G → St G → Gd H)
    (hy : ∀ i H G x H', i < ts.length → Tups H1 H → Abs K H G → St G → Y i H x H' → Tups H H' ∧ Abs K H' G ∧ ∃ t, ts[i]? = some t ∧ Rp K H' t x) : WalkT K J H1 ts St := by
  subst hn
  exact ⟨fun i H G hi k a s => w.goes i H hi (hg H G k a s), fun H G k a s => w.stops H (hg H G k a s), fun i H G x H' hi k a s y => hy i H G x H' hi k a s (w.yields i H x H' hi (hg H G k a s) y)⟩
theorem wt_tup {ts : List T} {vs : List V} (hp : H1 a = some (.tup vs)) (r : RpL K H1 ts vs) : WalkT K (Itt K a) H1 ts (fun _ => True) :=
  wt_of (walk_tup (xs := vs)) r.length (fun H G k _ _ => SqT.of (k.t _ _ hp)) fun i H G x H' hi k a _ y => by
    obtain ⟨e, hx⟩ := y
    subst e
    exact ⟨Tups.refl _, a, (r.mono k).get hx⟩
theorem list_eq {H : Hp} {xs ys : List V} (h : H a = some (.lst xs)) (h' : H a = some (.lst ys)) : xs = ys := by
  rw [h] at h'; cases h'; rfl
/-- the list at a, which holds ts through the loop -/
theorem wt_list {ts : List T} : WalkT K (Itl K a) H1 ts (fun G => G a = some (.lst ts)) where
  goes := fun i H G hi k ab s => by
    obtain ⟨vs, hp, r⟩ := ab _ _ s
    obtain ⟨v, hv, _⟩ := r.at (show ts[i]? = some ts[i] by simp [hi])
    exact ⟨vs, v, SqL.of hp, hv⟩
  stops := fun H G k ab s => by
    obtain ⟨vs, hp, r⟩ := ab _ _ s
    exact ⟨vs, SqL.of hp, by rw [r.length]; exact Nat.le_refl _⟩
  yields := fun i H G x H' hi k ab s y => by
    obtain ⟨e, hy⟩ := y
    subst e
    obtain ⟨vs, hp, r⟩ := ab _ _ s
    exact ⟨Tups.refl _, ab, r.get (hy vs (SqL.of hp))⟩
theorem wt_range {lo : Int} {n : Nat} : WalkT K (Itr lo n) H1 ((List.range n).map fun i : Nat => T.int (lo + i)) (fun _ => True) :=
  wt_of walk_range (by simp) (fun _ _ _ _ _ => trivial) fun i H G x H' hi k a _ y => by
    obtain ⟨e, hx⟩ := y
    subst e hx
    rw [List.length_map, List.length_range] at hi
    exact ⟨Tups.refl _, a, .int (lo + i), by simp [hi], rfl⟩
/-- the pairs that enumerate gives -/
def enumT (ts : List T) : List T := (List.range ts.length).map fun i : Nat => T.tup [.int i, ts.getD i .non]
theorem enumT_len {ts : List T} : (enumT ts).length = ts.length := by unfold enumT; rw [List.length_map, List.length_range]
theorem enumT_at {ts : List T} {i : Nat} {t : T} (h : ts[i]? = some t) : (enumT ts)[i]? = some (.tup [.int i, t]) := by
  have hi := (List.getElem?_eq_some_iff.mp h).1
  unfold enumT
  rw [List.getElem?_map, List.getElem?_range hi]
  show some (T.tup [.int i, ts.getD i .non]) = _
  rw [List.getD_eq_getElem?_getD, h]
  rfl
theorem enumT_get {ts : List T} {i : Nat} {t : T} (h : (enumT ts)[i]? = some t) : ∃ u, ts[i]? = some u ∧ t = .tup [.int i, u] := by
  have hi : i < ts.length := by
    have := (List.getElem?_eq_some_iff.mp h).1
    rw [enumT_len] at this; exact this
  have e := enumT_at (ts := ts) (i := i) (t := ts[i]) (by simp [hi])
  rw [e] at h
  exact ⟨ts[i], by simp [hi], (Option.some.inj h).symm⟩
theorem pair_new {H : Hp} {p : Addr} {t u : T} {v w : V} (hp : H p = none) (h1 : Rp K H t v) (h2 : Rp K H u w) : Rp K (upd H p (.tup [v, w])) (.tup [t, u]) (.ref p) := by
  have k : Tups H (upd H p (.tup [v, w])) := Tups.new hp
  exact ⟨p, [v, w], rfl, upd_same, v, [w], rfl, h1.mono k, w, [], rfl, h2.mono k, rfl⟩
theorem wt_enum {ts : List T} : WalkT K (Ite K a) H1 (enumT ts) (fun G => G a = some (.lst ts)) where
  goes := fun i H G hi k ab s => by
    rw [enumT_len] at hi
    obtain ⟨vs, hp, r⟩ := ab _ _ s
    obtain ⟨v, hv, _⟩ := r.at (show ts[i]? = some ts[i] by simp [hi])
    exact ⟨vs, v, SqL.of hp, hv⟩
  stops := fun H G k ab s => by
    obtain ⟨vs, hp, r⟩ := ab _ _ s
    exact ⟨vs, SqL.of hp, by rw [r.length, enumT_len]; exact Nat.le_refl _⟩
  yields := fun i H G x H' hi k ab s y => by
    obtain ⟨p, z, rfl, hp0, rfl, hz⟩ := y
    obtain ⟨vs, hp, r⟩ := ab _ _ s
    obtain ⟨t, ht, rt⟩ := r.get (hz vs (SqL.of hp))
    exact ⟨Tups.new hp0, ab.grow hp0, _, enumT_at ht, pair_new hp0 (show Rp K H (.int i) (.int i) from rfl) rt⟩
end

section
variable {X : Cx} {tg : Expr} {l : Expr} {qe : QE} {qa : QA}
/-- over a list or a tuple: which, is told by the value -/
def qiTup (qe : QE) : QI := fun ρ G R => qe ρ G fun x G1 => match x with | .tup ts => R ts (fun _ => True) G1 | _ => False
def qiLst (qe : QE) : QI := fun ρ G R => qe ρ G fun x G1 => match x with | .ref a => ∃ ts, G1 a = some (.lst ts) ∧ R ts (fun G => G a = some (.lst ts)) G1 | _ => False
theorem i_tup (hl : PE X l (cE X.K qe)) : PI X tg l (cI X.K (qiTup qe)) := PI.wk (pi_tup hl) fun σ H R h => by
  obtain ⟨ρ, G, Q, e, a, q, f⟩ := h
  refine ⟨ρ, G, _, e, a, q, fun v H1 t G1 k1 a1 r1 q1 => ?_⟩
  split at q1
  · obtain ⟨p, vs, rfl, hp, r⟩ := r1
    exact ⟨p, rfl, ⟨vs, SqT.of hp⟩, f _ H1 _ _ G1 k1 a1 (wt_tup hp r) q1⟩
  · exact q1.elim
theorem i_lst (hl : PE X l (cE X.K qe)) : PI X tg l (cI X.K (qiLst qe)) := PI.wk (pi_list hl) fun σ H R h => by
  obtain ⟨ρ, G, Q, e, a, q, f⟩ := h
  refine ⟨ρ, G, _, e, a, q, fun v H1 t G1 k1 a1 r1 q1 => ?_⟩
  split at q1
  · cases r1
    obtain ⟨ts, hg, q1⟩ := q1
    obtain ⟨vs, hp, r⟩ := a1 _ _ hg
    exact ⟨_, rfl, ⟨vs, SqL.of hp⟩, f _ H1 _ _ G1 k1 a1 wt_list q1⟩
  · exact q1.elim
def rngT (n : Nat) : List T := (List.range n).map fun i : Nat => T.int i
def qiRng1 (qa : QA) : QI := fun ρ G R => qa ρ G fun ts G1 => match ts with | [.int j] => (-1000000 ≤ j ∧ j ≤ 1000000) ∧ R (rngT j.toNat) (fun _ => True) G1 | _ => False
def qiRng2 (qa : QA) : QI := fun ρ G R => qa ρ G fun ts G1 => match ts with
  | [.int i, .int j] => (-1000000 ≤ i ∧ i ≤ 1000000 ∧ -1000000 ≤ j ∧ j ≤ 1000000) ∧ R ((List.range (j - i).toNat).map fun n : Nat => T.int (i + n)) (fun _ => True) G1
  | _ => False
theorem i_rng1 {a : Expr} {p pos : Pos} (hg : Gl X "range") (hm : X.mg "range" = none) (ha : PA X [a] (cA X.K qa)) (hs : starEach [a] X.env = [(false, eval a X.env)] := by rfl) : PI X tg (.Call (.Name "range" p) [a] [] pos) (cI X.K (qiRng1 qa)) :=
  PI.wk (pi_range1 hg hm ha hs) fun σ H R h => by
    obtain ⟨ρ, G, Q, e, a, q, f⟩ := h
    refine ⟨ρ, G, _, e, a, q, fun vs H1 ts G1 k1 a1 r1 q1 => ?_⟩
    split at q1
    · obtain ⟨v, rfl, h1⟩ := rpl1 r1
      cases h1
      rename_i j
      have w := wt_range (K := X.K) (H1 := H1) (lo := 0) (n := j.toNat)
      have e1 : ((List.range j.toNat).map fun i : Nat => T.int (0 + (i : Int))) = rngT j.toNat := by unfold rngT; simp only [Int.zero_add]
      rw [e1] at w
      exact ⟨j, rfl, by omega, by omega, f _ H1 _ _ G1 k1 a1 w q1.2⟩
    · exact q1.elim
theorem i_rng2 {a b : Expr} {p pos : Pos} (hg : Gl X "range") (hm : X.mg "range" = none) (ha : PA X [a, b] (cA X.K qa)) (hs : starEach [a, b] X.env = [(false, eval a X.env), (false, eval b X.env)] := by rfl) (hs2 : starEach [b] X.env = [(false, eval b X.env)] := by rfl) :
    PI X tg (.Call (.Name "range" p) [a, b] [] pos) (cI X.K (qiRng2 qa)) := PI.wk (pi_range2 hg hm ha hs hs2) fun σ H R h => by
  obtain ⟨ρ, G, Q, e, a, q, f⟩ := h
  refine ⟨ρ, G, _, e, a, q, fun vs H1 ts G1 k1 a1 r1 q1 => ?_⟩
  split at q1
  · obtain ⟨v, w, rfl, h1, h2⟩ := rpl2 r1
    cases h1; cases h2
    exact ⟨_, _, rfl, ⟨by omega, by omega, by omega, by omega⟩, f _ H1 _ _ G1 k1 a1 wt_range q1.2⟩
  · exact q1.elim
def qiEnumL (qa : QA) : QI := fun ρ G R => qa ρ G fun ts G1 => match ts with | [.ref a] => ∃ ts, G1 a = some (.lst ts) ∧ R (enumT ts) (fun G => G a = some (.lst ts)) G1 | _ => False
theorem i_enumL {e : Expr} {p pos tpos : Pos} {elts : List Expr} {kk : Nat} (hg : Gl X "enumerate") (hm : X.mg "enumerate" = none) (ha : PA X [e] (cA X.K qa)) (hs : starEach [e] X.env = [(false, eval e X.env)] := by rfl) :
    PI X (.Tuple elts kk tpos) (.Call (.Name "enumerate" p) [e] [] pos) (cI X.K (qiEnumL qa)) := PI.wk (pi_enum hg hm ha hs) fun σ H R h => by
  obtain ⟨ρ, G, Q, e, a, q, f⟩ := h
  refine ⟨ρ, G, _, e, a, q, fun vs H1 ts G1 k1 a1 r1 q1 => ?_⟩
  split at q1
  · obtain ⟨v, rfl, h1⟩ := rpl1 r1
    cases h1
    obtain ⟨us, hg, q1⟩ := q1
    obtain ⟨ws, hp, r⟩ := a1 _ _ hg
    exact ⟨_, ws, rfl, SqL.of hp, f _ H1 _ _ G1 k1 a1 wt_enum q1⟩
  · exact q1.elim

/-! ### comprehensions -/
def wipeT (ρ : REnv) : List Nat → REnv
  | [] => ρ
  | v :: vs => put (wipeT ρ vs) v none
def wipeK (ρ : REnv) : List Nat → (REnv → Prop) → Prop
  | [], k => k ρ
  | v :: vs, k => wipeK ρ vs fun ρ' => putK ρ' v none k
theorem wipeK_wipe {ρ : REnv} : ∀ {vs : List Nat} {k : REnv → Prop}, wipeK ρ vs k → k (wipeT ρ vs)
  | [], _, h => h
  | v :: vs, k, h => putK_put (wipeK_wipe (vs := vs) (k := fun ρ' => putK ρ' v none k) h)
theorem EnvR.wipe {K : PySem.W.Frag} {H : Hp} {ρ : REnv} {σ : L2.St} (e : EnvR K H ρ σ) : ∀ vs : List Nat, EnvR K H (wipeT ρ vs) (L2.wipe σ vs)
  | [] => e
  | v :: vs => EnvR.putN v (EnvR.wipe e vs)
/-- I: by the turn, what is made so far, the heap (the new list at D within) -/
def qLc (qi : QI) (qg : QG) (qt : QT) (qe : QE) (own : List Nat) : QE := fun ρ G Q => qi ρ G fun ts St G1 => ∀ D, G1 D = none → ts.length ≤ 100000 ∧ ∃ I : Nat → List T → Gp → Prop, I 0 [] (gput G1 D (.lst [])) ∧ (∀ i acc G, i ≤ ts.length → I i acc G → St G ∧ G D = some (.lst acc) ∧ acc.length ≤ i) ∧
  (∀ i t acc G, ts[i]? = some t → I i acc G → wipeK ρ own fun ρ1 => qg t ρ1 G fun ρ2 G2 => qt ρ2 G2 fun b G3 => (b = true → qe ρ2 G3 fun y G4 => G4 D = some (.lst acc) ∧ ∃ G5, Sub G5 (gput G4 D (.lst (acc ++ [y]))) ∧ I (i + 1) (acc ++ [y]) G5) ∧ (b = false → ∃ G5, Sub G5 G3 ∧ I (i + 1) acc G5)) ∧
  ∀ acc G, I ts.length acc G → Q (.ref D) G
def qYes : QT := fun _ G Q => Q true G
theorem ts_nil : PTs X [] (cT X.K qYes) := ⟨fun pins s σ H Q I h => by
  obtain ⟨ρ, G, Q, e, a, q, f⟩ := h
  exact wpAny_tests_nil ⟨H, I, f true H G (Tups.refl H) a q⟩⟩
theorem ts_one {c : Expr} {t : QT} (h : PT X c (cT X.K t)) : PTs X [c] (cT X.K t) := pts_one h
variable {elt iter : Expr} {ifs : List Expr} {scope : Scope} {own : List (Str × Nat)} {pos : Pos} {qi : QI} {qg : QG} {qt : QT} {qel : QE}
theorem lc_wk : ∀ σ H KQ, cE X.K (qLc qi qg qt qel (own.map (·.2))) σ H KQ → tLc (cI X.K qi) (cG X.K (own.map (·.2)) qg) (cT X.K qt) (cE X.K qel) (own.map (·.2)) σ H KQ := fun σ H KQ h => by
  obtain ⟨ρ, G, Q, e, a, q, f⟩ := h
  refine ⟨ρ, G, _, e, a, q, fun J H1 ts St G1 k1 a1 w q1 => fun D hD => ?_⟩
  obtain ⟨hz, I, i0, hst, turn, done⟩ := q1 D (a1.free hD)
  have kD : Tups H1 (upd H1 D (.lst [])) := Tups.new hD
  refine ⟨fun i m H' => m = ts.length - i ∧ i ≤ ts.length ∧ Tups H1 H' ∧ ∃ acc G', Abs X.K H' G' ∧ I i acc G',
    ⟨ts.length, by simp, Nat.zero_le _, kD, [], _, a1.put (o := .lst []) ⟨fun xs z => (by rw [hD] at z; cases z), fun o xs z => (by rw [hD] at z; cases z)⟩ ⟨[], upd_same, rfl⟩, i0⟩, ?_⟩
  rintro i m H2 ⟨rfl, hi, k2, acc, G2, a2, j2⟩
  obtain ⟨st, gd, hl⟩ := hst i acc G2 hi j2
  have e2 : EnvR X.K H2 ρ σ := e.mono (k1.trans k2)
  by_cases hlt : i < ts.length
  · refine .inr ⟨w.goes i H2 G2 hlt k2 a2 st, fun H' => Tups H1 H' ∧ ∃ acc G', Abs X.K H' G' ∧ I (i + 1) acc G', fun H' p => ⟨ts.length - (i + 1), by omega, rfl, hlt, p⟩, fun x H3 y => ?_⟩
    obtain ⟨k3, a3, t, ht, r3⟩ := w.yields i H2 G2 x H3 hlt k2 a2 st y
    have k23 := k2.trans k3
    refine ⟨t, _, G2, _, r3, (e2.mono k3).wipe _, a3, wipeK_wipe (turn i t acc G2 ht j2), fun σ4 H4 ρ4 G4 w4 k4 e4 a4 q4 => ⟨?_, ?_⟩⟩
    · rw [w4]
      exact wipe_wipe
    · refine ⟨ρ4, G4, _, e4, a4, q4, fun b H5 G5 k5 a5 q5 => ?_⟩
      have k15 := (k23.trans k4).trans k5
      cases b with
      | false =>
        show (if false = true then _ else _)
        rw [if_neg Bool.false_ne_true]
        obtain ⟨G6, sb, j6⟩ := q5.2 rfl
        exact ⟨k15, acc, G6, a5.sub sb, j6⟩
      | true =>
        show (if true = true then _ else _)
        rw [if_pos rfl]
        refine ⟨ρ4, G5, _, e4.mono k5, a5, q5.1 rfl, fun v H6 y6 G6 k6 a6 r6 ⟨gd6, G7, sb, j7⟩ => ?_⟩
        obtain ⟨vs, hv, rv⟩ := a6 _ _ gd6
        have hz2 : acc.length < 100000 := by
          have := (List.getElem?_eq_some_iff.mp ht).1
          omega
        have wr : Wr H6 D := Wr.of hv (fun _ z => by cases z) (fun _ _ z => by cases z)
        have k7 := Tups.set (o := .lst (vs ++ [v])) wr
        refine ⟨vs, hv, by rw [rv.length]; exact Nat.lt_of_lt_of_le hz2 (by decide), (k15.trans k6).trans k7, acc ++ [y6], G7, Abs.sub (a6.put (o := .lst (acc ++ [y6])) wr ⟨_, upd_same, (rv.append (RpL.one r6)).mono k7⟩) sb, j7⟩
  · have e' : i = ts.length := by omega
    subst e'
    exact .inl ⟨w.stops H2 G2 k2 a2 st, f _ H2 (.ref D) G2 (k1.trans k2) a2 rfl (done acc G2 j2)⟩
theorem e_lc (hc : X.calm = true) (hN : X.N.Nodup) (hi : PI X tg iter (cI X.K qi)) (ok : BlkOk X.N X.env.scope scope own)
    (hg : ∀ (s : Shared) (H : Hp) (C : Addr) (cl : List (Str × Addr)) (fp : List Addr), PG (X.blk s H scope (compEnvC scope cl C X.env) fp) tg (cG X.K (own.map (·.2)) qg)) (ht : ∀ (s : Shared) (H : Hp) (C : Addr) (cl : List (Str × Addr)) (fp : List Addr), PTs (X.blk s H scope (compEnvC scope cl C X.env) fp) ifs (cT X.K qt))
    (he : ∀ (s : Shared) (H : Hp) (C : Addr) (cl : List (Str × Addr)) (fp : List Addr), PE (X.blk s H scope (compEnvC scope cl C X.env) fp) elt (cE X.K qel)) (hs : ∀ x, foldedSetIterable iter X.env x = pure x := by intro _; rfl) :
    PE X (.ListComp elt [⟨tg, iter, ifs, 0⟩] scope pos) (cE X.K (qLc qi qg qt qel (own.map (·.2)))) := PE.wk (pe_lc hc hN hi ok hg ht he hs) lc_wk
theorem s_setLc {i : Nat} {y : Str} {py spos : Pos} (hc : X.calm = true) (hN : X.N.Nodup) (hy : X.N[i]? = some y) (hyl : X.env.scope.names.lookup y = some .local)
    (hsw : swapsWith (.ListComp elt [⟨tg, iter, ifs, 0⟩] scope pos) (some (.Name y py)) spos.line X.env = pure true) (hi : PI X tg iter (cI X.K qi)) (ok : BlkOk X.N X.env.scope scope own)
    (hg : ∀ (s : Shared) (H : Hp) (C : Addr) (cl : List (Str × Addr)) (fp : List Addr), PG (X.blk s H scope (compEnvC scope cl C X.env) fp) tg (cG X.K (own.map (·.2)) qg)) (ht : ∀ (s : Shared) (H : Hp) (C : Addr) (cl : List (Str × Addr)) (fp : List Addr), PTs (X.blk s H scope (compEnvC scope cl C X.env) fp) ifs (cT X.K qt))
    (he : ∀ (s : Shared) (H : Hp) (C : Addr) (cl : List (Str × Addr)) (fp : List Addr), PE (X.blk s H scope (compEnvC scope cl C X.env) fp) elt (cE X.K qel)) (hs : ∀ x, foldedSetIterable iter X.env x = pure x := by intro _; rfl) :
    PS X (.Assign [.Name y py] (.ListComp elt [⟨tg, iter, ifs, 0⟩] scope pos) spos) (cS X.K (qAsg (qLc qi qg qt qel (own.map (·.2))) (gNm i))) := PS.wk (ps_setLc hc hN hy hyl hsw hi ok hg ht he hs) fun D σ H h => by
  obtain ⟨ρ, G, D', e, a, q, f⟩ := h
  exact lc_wk σ H _ ⟨ρ, G, _, e, a, q, fun v H1 t G1 k1 a1 r1 q1 => f.nx _ H1 _ G1 k1 ((e.mono k1).put r1 i) a1 (putK_put q1)⟩
end

/-! ### a def's promise by its body -/
section
variable {P : Program} {w : World} {K : PySem.W.Frag} {mg : Str → Option Value} {base : Heap}
def startT (N : List Str) (ts : List T) : REnv := ts.map some ++ List.replicate (N.length - ts.length) none
/-- what a def hands back: what it made besides may be dropped -/
def Ret (Q : TK) : TK := fun t G => ∃ G1, Sub G1 G ∧ Q t G1
theorem Ret.of {Q : TK} {t : T} {G : Gp} (h : Q t G) : Ret Q t G := ⟨G, Sub.refl G, h⟩
def endOf (Q : TK) : QD := { nx := fun _ G => Ret Q .non G, rt := Ret Q }
theorem okq {x qual : Str} {st : Stmt} {f : Addr} {fd : FuncData} {N ps : List Str} {k : Nat} {sp : QSp} {q : QS} (F : Fun K x qual st f fd) (S : FnScope N ps (defScope st)) (len : ∀ ts G Q E, sp ts G Q E → ts.length = ps.length)
    (der : ∀ (cdv : Value) (A : Around) (outer : List PySem.Env) (s : Shared) (H : Hp) (E : XK), Room k (A.deeper (envOfC qual (defScope st) s.heap.objs.size f cdv)) → PSs (cxOf CX0 P w K mg base N qual (defScope st) f cdv A outer s H E).nox (defBody st) (cS K q))
    (run : ∀ ts G Q E, sp ts G Q E → normK (startT N ts) fun ρ => q (endOf Q) ρ G) : FnOk P w K mg base CX0 (k + 1) f fd ps (cSp K sp) := by
  refine F.ok S (fun vs H Q E h => ?_) (fun cdv A outer s H vs KQ E hr h => ⟨_, der cdv A outer s H E hr, ?_⟩)
  · obtain ⟨ts, G, Q, E', r, a, h, _⟩ := h
    rw [r.length]
    exact len _ _ _ _ h
  · obtain ⟨ts, G, Q, E', r, a, h, g, _⟩ := h
    have e : EnvR K H (startT N ts) (L2.start N vs) := by
      unfold startT L2.start
      rw [r.length]
      exact EnvR.start _ r
    refine ⟨startT N ts, G, endOf Q, e, a, normK_norm (run ts G Q E' h), ⟨fun σ' H' ρ' G' k1 e1 a1 ⟨G2, sb, q1⟩ => g .non H' .non G2 k1 (a1.sub sb) rfl q1, fun v H' t G' k1 a1 r1 ⟨G2, sb, q1⟩ => g v H' t G2 k1 (a1.sub sb) r1 q1, fun _ _ _ _ _ _ _ z => z.elim, fun _ _ _ _ _ _ _ z => z.elim⟩⟩
end

/-! ### the law's own -/
/-- the law's promise: it hands back True -/
def spLaw : QSp := fun ts G Q _ => ∃ ns : List Int, ts = [.scr ns] ∧ ns.length ≤ 63 ∧ (∀ b, G b = none) ∧ ∀ G', Q (.bl true) G'
theorem law_sp {K : PySem.W.Frag} {H : Hp} {a : Addr} {ns : List Int} (hl : ns.length ≤ 63) (hO : Only H) (hS : SqL K H a (ns.map V.int)) : cSp K spLaw [.ref a] H (fun v _ => v = .bl true) fun _ _ _ => False := by
  refine ⟨[.scr ns], fun _ => none, fun t _ => t = .bl true, X0, ⟨.ref a, [], rfl, ⟨a, rfl, ?_⟩, rfl⟩, fun _ _ z => (by cases z), ⟨ns, rfl, hl, fun _ => rfl, fun _ => rfl⟩, fun v H' t G' _ _ r e => ?_, folx0⟩
  · rcases hS with (h | h) | h
    · rcases hO a with z | ⟨o, xs, z⟩
      · rw [h] at z; cases z
      · rw [h] at z; cases z
    · exact .inl h
    · exact .inr h
  · subst e
    exact r
end Lw

set_option Elab.async false
set_option linter.all false
set_option maxRecDepth 100000
set_option maxHeartbeats 4000000
namespace Lw
open PySem PySem.Spec PyProof.Rows L2

/-! ### enumerate of a tuple -/
section
open AutoSeq1 (wpAny_loadPart')
theorem meets_enumerate_newT {v : Value} {o : Obj} {H : Heap → Prop} (B : Begins v o H) :
    Meets (Builtin.«enumerate.__new__» ⟨[.type "enumerate", v], []⟩) (fun _ R s => H s.heap ∧
      R (.ok (.ret (.ref (s.heap.push o).objs.size))) { s with heap := (s.heap.push o).push { cls := .type "enumerate", data := .fields #[.none, .bool false, .ref s.heap.objs.size, rawInt 0, .none, .none] } }) :=
  .of_wp fun prog w A R s h => by
    obtain ⟨hp, g, d, tk, os⟩ := s; obtain ⟨h1, h⟩ := h
    have hsub := sub_enumerate
    have q1 : ∀ {A' : Around} {E : Value → Shared → Prop} {Q : Value → Shared → Prop}, Q (.ref hp.objs.size) ⟨hp.push o, g, d, tk, os⟩ → wpAny (model prog w) A' (pyIter v) Q E ⟨hp, g, d, tk, os⟩ :=
      fun q => B.iter prog w _ _ ⟨hp, g, d, tk, os⟩ _ h1 q
    wp_walk using q1
    refine wpAny_stack_any fun st => wpAny_pure ?_
    split
    · rename_i c _ _ _ _ _
      cases (c == Value.type "enumerate")
      · wp_walk using q1
        exact ⟨_, rfl, h⟩
      · wp_walk using q1
        exact ⟨_, rfl, h⟩
    · wp_walk using q1
      exact ⟨_, rfl, h⟩
end
theorem enum1_begins {prog : Program} {w : World} {A : Around} {E : Value → Shared → Prop} {s : Shared} {v : Value} {o : Obj} {H : Heap → Prop} {Q : Value → Shared → Prop} (B : Begins v o H) (h1 : H s.heap)
    (h : ∀ h', IsEnum h' (s.heap.objs.size + 1) s.heap.objs.size 0 .none → h'.get? s.heap.objs.size = some o → h'.objs.size = s.heap.objs.size + 2 →
      (∀ b o, s.heap.get? b = some o → h'.get? b = some o) → Q (.ref (s.heap.objs.size + 1)) { s with heap := h' }) :
    wpAny (model prog w) A (call (.type "enumerate") [v]) Q E s := by
  refine callType_new F.called_enumerate (by decide) (F.typeCall_enumerate_1 _) (F.newCall_enumerate_1 _) (fun obj => F.args_object_init_2 obj _) F.entry_enumerate_new
    (meets_enumerate_newT B) ⟨h1, ?_⟩
  have hz : (s.heap.push o).objs.size = s.heap.objs.size + 1 := Heap.size_push ..
  show _ ∧ _
  rw [hz]
  have he : IsEnum ((s.heap.push o).push { cls := .type "enumerate", data := .fields #[.none, .bool false, .ref s.heap.objs.size, rawInt 0, .none, .none] }) (s.heap.objs.size + 1) s.heap.objs.size 0 .none := by
    have := Heap.get?_push_size (s.heap.push o) (o := { cls := .type "enumerate", data := .fields #[.none, .bool false, .ref s.heap.objs.size, rawInt 0, .none, .none] }) rfl
    rw [hz] at this; exact this
  refine ⟨⟨_, he, rfl⟩, h _ he (Heap.get?_push_of_some _ (Heap.get?_push_size _ B.free)) (by rw [Heap.size_push, hz]) fun b o x => Heap.get?_push_of_some _ (Heap.get?_push_of_some _ x)⟩
def IteT (K : PySem.W.Frag) (a : Addr) : It :=
  ⟨fun i H => ∃ (xs : List V) (x : V), SqT K H a xs ∧ xs[i]? = some x, fun i H v H' => ∃ T x, v = .ref T ∧ H T = none ∧ H' = upd H T (.tup [.int (i : Nat), x]) ∧ ∀ xs, SqT K H a xs → xs[i]? = some x, fun i H => ∃ xs : List V, SqT K H a xs ∧ xs.length ≤ i⟩
theorem turn_enumT {P : Program} {w : World} {K : PySem.W.Frag} {elts : List Expr} {kk : Nat} {tpos : Pos} (a e it : Addr) :
    Turn P w K (.Tuple elts kk tpos) (IteT K a) [e, it] e (fun i h => (∃ old, IsEnum h e it ((i : Nat) : Int) old) ∧ h.IsTupleIter it a i ∧ e ≠ it) where
  mem := by simp
  obj := fun i h st b hb => by
    obtain ⟨⟨old, he⟩, ⟨o, ho, hc, hd⟩, _⟩ := st
    have e' : b = e ∨ b = it := by simpa using hb
    rcases e' with z | z
    · rw [z]; exact ⟨_, he, fun v q => nomatch q⟩
    · rw [z]; exact ⟨o, ho, fun v q => by rw [hd] at q; cases q⟩
  keep := fun i h h' st k => let ⟨⟨old, he⟩, hi, hne⟩ := st; ⟨⟨old, k e (by simp) _ he⟩, hi.at fun o q => k it (by simp) o q, hne⟩
  item := by
    intro X hP hw hK hc i pins s σ H E I hf st hg
    subst hP hw hK
    obtain ⟨⟨old, he⟩, hit, hne⟩ := st
    obtain ⟨xs, x, hq, hx⟩ := hg
    obtain ⟨its, rv, p, hz⟩ := I.tuple hq
    have p' : s.heap.IsTuple a its.toArray := p
    obtain ⟨u, hu, ru⟩ := rv.get hx
    have hel : e < s.heap.objs.size := Heap.lt_size he
    have hil : it < s.heap.objs.size := by obtain ⟨_, q, _⟩ := hit; exact Heap.lt_size q
    have hat : a ≠ it := by
      rintro rfl
      obtain ⟨o, h1, h2, _⟩ := hit
      obtain ⟨o', h3, h4, _⟩ := p'
      rw [h1] at h3; cases h3
      rw [h2] at h4; exact absurd (Value.type.inj h4) (by decide)
    have hae : a ≠ e := by
      rintro rfl
      obtain ⟨o', h3, h4, _⟩ := p'
      have : IsEnum s.heap a it ((i : Nat) : Int) old := he
      unfold IsEnum at this
      rw [this] at h3; cases h3
      exact absurd (Value.type.inj h4) (by decide)
    refine wpAny_pyNext_enum_itemD (Draws.tuple (prog := X.prog) (w := X.w) (A := X.A.in1) (I.ok.hd hc) it a hat its.toArray) he ⟨hit, p'⟩ (by rw [List.size_toArray]; exact (List.getElem?_eq_some_iff.mp hu).1) hne (by simp; exact ⟨hne, fun z => hae z.symm⟩) fun x2 h' tk hx2 ho hst hT hsz hk => ?_
    have e2 : x2 = u := by
      have : its[i]? = some x2 := by simpa using hx2
      rw [hu] at this; cases this; rfl
    subst e2
    refine ⟨_, rfl, wpAny_letOwnedTupleGo_enum (s := { s with heap := h', toks := tk + 1 }) ho fun h'' he' sb => ?_⟩
    have hT2 : h''.get? s.heap.objs.size = some { cls := .type "tuple", data := .seq #[.int i tk, x2] } := (sb.2 _ (Nat.ne_of_gt hel)).trans hT
    have new : ObjOk X.prog X.w (upd H s.heap.objs.size (.tup [.int (i : Nat), x])) h'' s.heap.objs.size (.tup [.int (i : Nat), x]) :=
      ⟨by show 2 ≤ sizeLine; decide, [.int i tk, x2], .cons ⟨_, rfl⟩ (.cons ru .nil), ⟨_, hT2, rfl, _, rfl⟩⟩
    have I1 : Inv X pins σ (upd H s.heap.objs.size (.tup [.int (i : Nat), x])) { s with heap := h'', toks := tk + 1 } :=
      I.turnedNew (ch := [e, it]) (fun b ob hb q => (sb.2 b (fun z => hb (by simp [z]))).trans (hk b ob (fun z => hb (by simp [z])) (fun z => hb (by simp [z])) q)) hf (Nat.le_refl _) new
    refine ⟨.ref s.heap.objs.size, _, I1, rfl, ⟨_, x, rfl, I.hok.fresh (Nat.le_refl _), rfl, fun ys hy => by rw [I.tuple_inj hy hq]; exact hx⟩, ⟨⟨x2, ?_⟩, hst.1.at fun o q => (sb.2 it (Ne.symm hne)).trans q, hne⟩, fun b hb => ?_⟩
    · have e1 : ((i + 1 : Nat) : Int) = (i : Int) + 1 := by omega
      rw [e1]; exact he'
    · have hb' : b < s.heap.objs.size := by
        have e' : b = e ∨ b = it := by simpa using hb
        rcases e' with z | z
        · rw [z]; exact hel
        · rw [z]; exact hil
      rw [upd_ne (Nat.ne_of_lt hb')]
      exact (hf b hb).1
  done := by
    intro X hP hw hK hc i pins s σ H E I hf st hg
    subst hP hw hK
    obtain ⟨⟨old, he⟩, hit, hne⟩ := st
    obtain ⟨xs, hq, hx⟩ := hg
    obtain ⟨its, rv, p, hz⟩ := I.tuple hq
    have p' : s.heap.IsTuple a its.toArray := p
    obtain ⟨f0, f1, f2, f3, f4, f5⟩ := hf it (by simp)
    have hl := rv.length
    have hT : s.TypeIs (.ref e) "enumerate" := ⟨_, he, rfl⟩
    unfold pyNext
    refine wpAny_bind (wpAny_attempt (wpAny_callSpecial?_slot (name := Str.ofString "__next__") hT F.slot_enumerate_next
      (wpAny_call_entry F.slot_enumerate_next hT F.entry_enumerate_next ?_ (F.args_enumerate_next_1 _))))
    show wpAny _ _ (field (.ref e) 2 >>= _) _ _ _
    refine wpAny_bind (wpAny_field he rfl (x := .ref it) rfl ?_)
    refine wpAny_bind (wpAny_nextOf_tuple_end (A := X.A.in1) (I.ok.hd hc) hit p' (by simp; omega) fun h' x he' hx' => ?_)
    obtain ⟨o, ho, hc2⟩ := hx'
    refine wpAny_bind (wpAny_isInstance (T := "StopIteration") (b := true) ⟨o, ho, hc2⟩ isSubtype_stop ?_)
    exact wpAny_pure ⟨rfl, I.turned (t' := s.toks) (fun b o hb q => he' b o hb q) f0 f1 f3 f4 f5⟩
  self := fun A i s Q E st h => let ⟨⟨_, he⟩, _⟩ := st; wpAny_pyIter_enum he h
def iEnumT (K : PySem.W.Frag) (ta : TA) : TI := fun σ H R => ta σ H fun vs H1 => ∃ a xs, vs = [.ref a] ∧ SqT K H1 a xs ∧ R (IteT K a) H1
theorem pi_enumT {X : Cx} {e : Expr} {ta : TA} {p pos tpos : Pos} {elts : List Expr} {kk : Nat} (hg : Gl X "enumerate") (hm : X.mg "enumerate" = none) (ha : PA X [e] ta) (hs : starEach [e] X.env = [(false, eval e X.env)] := by rfl) :
    PI X (.Tuple elts kk tpos) (.Call (.Name "enumerate" p) [e] [] pos) (iEnumT X.K ta) := by
  refine ⟨fun pins s σ H R I h => ?_⟩
  refine Call_ (ld_blt I hg hm boot_enumerate (PyProof.Rows.callWith_type1 (thn (ha.run pos pins s σ H _ I h) fun us s1 ⟨vs, H1, I1, r1, q1⟩ => ?_) hs rfl))
  obtain ⟨a, xs, ex, hq, q⟩ := q1
  subst ex
  cases r1 with
  | cons r rr =>
    cases rr
    cases r
    obtain ⟨its, rv, p', hz⟩ := I1.tuple hq
    refine enum1_begins (begins_tuple a its.toArray) (show s1.heap.IsTuple a its.toArray from p') fun h' he hit hsz hk => wpAny_pyIter_enum he ?_
    have I2 : Inv X pins σ H1 { s1 with heap := h' } := I1.kept (t' := s1.toks) hk
    refine ⟨s1.heap.objs.size + 1, [s1.heap.objs.size + 1, s1.heap.objs.size], _, _, H1, rfl, I2, turn_enumT a (s1.heap.objs.size + 1) s1.heap.objs.size, ⟨⟨.none, he⟩, ⟨_, hit, rfl, rfl⟩, Nat.succ_ne_self _⟩, fun b hb => ?_, q⟩
    have e' : b = s1.heap.objs.size + 1 ∨ b = s1.heap.objs.size := by simpa using hb
    have hle : s1.heap.objs.size ≤ b := by
      rcases e' with z | z
      · rw [z]; exact Nat.le_add_right _ _
      · rw [z]; exact Nat.le_refl _
    exact I1.fpOk hle (I1.hok.fresh hle)
theorem wt_enumT {K : PySem.W.Frag} {H1 : Hp} {a : Addr} {ts : List T} {vs : List V} (hp : H1 a = some (.tup vs)) (r : RpL K H1 ts vs) : WalkT K (IteT K a) H1 (enumT ts) (fun _ => True) where
  goes := fun i H G hi k ab s => by
    rw [enumT_len] at hi
    obtain ⟨v, hv, _⟩ := r.at (show ts[i]? = some ts[i] by simp [hi])
    exact ⟨vs, v, SqT.of (k.t _ _ hp), hv⟩
  stops := fun H G k ab s => ⟨vs, SqT.of (k.t _ _ hp), by rw [r.length, enumT_len]; exact Nat.le_refl _⟩
  yields := fun i H G x H' hi k ab s y => by
    obtain ⟨p, z, rfl, hp0, rfl, hz⟩ := y
    obtain ⟨t, ht, rt⟩ := (r.mono k).get (hz vs (SqT.of (k.t _ _ hp)))
    exact ⟨Tups.new hp0, ab.grow hp0, _, enumT_at ht, pair_new hp0 (show Rp K H (.int i) (.int i) from rfl) rt⟩
section
variable {X : Cx} {qa : QA}
def qiEnumT (qa : QA) : QI := fun ρ G R => qa ρ G fun ts G1 => match ts with | [.tup us] => R (enumT us) (fun _ => True) G1 | _ => False
theorem i_enumT {e : Expr} {p pos tpos : Pos} {elts : List Expr} {kk : Nat} (hg : Gl X "enumerate") (hm : X.mg "enumerate" = none) (ha : PA X [e] (cA X.K qa)) (hs : starEach [e] X.env = [(false, eval e X.env)] := by rfl) :
    PI X (.Tuple elts kk tpos) (.Call (.Name "enumerate" p) [e] [] pos) (cI X.K (qiEnumT qa)) := PI.wk (pi_enumT hg hm ha hs) fun σ H R h => by
  obtain ⟨ρ, G, Q, e, a, q, f⟩ := h
  refine ⟨ρ, G, _, e, a, q, fun vs H1 ts G1 k1 a1 r1 q1 => ?_⟩
  split at q1
  · obtain ⟨v, rfl, h1⟩ := rpl1 r1
    obtain ⟨p, ws, rfl, hp, r⟩ := h1
    exact ⟨p, ws, rfl, SqT.of hp, f _ H1 _ _ G1 k1 a1 (wt_enumT hp r) q1⟩
  · exact q1.elim
end
end Lw

set_option Elab.async false
set_option linter.all false
set_option maxRecDepth 100000
set_option maxHeartbeats 4000000
namespace Lw
open PySem PySem.Spec PyProof.Rows L2

/-! ### either of two rules -/
section
variable {X : Cx}
theorem c2_or {K : PySem.W.Frag} {f g h : Q2} (s : ∀ x y G Q, h x y G Q → f x y G Q ∨ g x y G Q) {v w : V} {H : Hp} {KQ : VK} (q : c2 K h v w H KQ) : c2 K f v w H KQ ∨ c2 K g v w H KQ := by
  obtain ⟨x, y, G, Q, hx, hy, ha, hf, hk⟩ := q
  rcases s x y G Q hf with z | z
  · exact .inl ⟨x, y, G, Q, hx, hy, ha, z, hk⟩
  · exact .inr ⟨x, y, G, Q, hx, hy, ha, z, hk⟩
theorem o_or {o : Value → Value → Sem Value} {f g h : Q2} (a : OpR X o (c2 X.K f)) (b : OpR X o (c2 X.K g)) (s : ∀ x y G Q, h x y G Q → f x y G Q ∨ g x y G Q) : OpR X o (c2 X.K h) := fun pins st σ H v w u u' KQ I rv rw' q =>
  (c2_or s q).elim (fun z => a pins st σ H v w u u' KQ I rv rw' z) (fun z => b pins st σ H v w u u' KQ I rv rw' z)
theorem pi_or {tg l : Expr} {q1 q2 q : QI} (a : PI X tg l (cI X.K q1)) (b : PI X tg l (cI X.K q2)) (s : ∀ ρ G R, q ρ G R → q1 ρ G R ∨ q2 ρ G R) : PI X tg l (cI X.K q) := ⟨fun pins st σ H R I h => by
  obtain ⟨ρ, G, Q, e, ab, h, f⟩ := h
  rcases s ρ G Q h with z | z
  · exact a.run pins st σ H R I ⟨ρ, G, Q, e, ab, z, f⟩
  · exact b.run pins st σ H R I ⟨ρ, G, Q, e, ab, z, f⟩⟩
end

/-! ### defs by name -/
structure DefOk (P : Program) (w : World) (K : PySem.W.Frag) (mg : Str → Option Value) (base : Heap) (k : Nat) (x : Str) (ps : List Str) (sp : QSp) : Prop where
  ex : ∃ f fd, FnOk P w K mg base CX0 k f fd ps (cSp K sp) ∧ mg x = some (.ref f) ∧ PySem.W.keepIn K (.ref f) = true ∧ L2.Binds K fd ps []
structure FunAt (K : PySem.W.Frag) (mg : Str → Option Value) (x qual : Str) (st : Stmt) (ps : List Str) : Prop where
  ex : ∃ f fd, Fun K x qual st f fd ∧ mg x = some (.ref f) ∧ L2.Binds K fd ps []
section
variable {P : Program} {w : World} {K : PySem.W.Frag} {mg : Str → Option Value} {base : Heap}
theorem funAt_mk {x qual : Str} {st : Stmt} {ps : List Str} {h : Heap} {f : Addr} {oc : Value} {od an : Option Addr} {osl : Array (Option Value)} {kV doc pm cdv ct : Value} (X : K.In h) (G : h.Ns mainGlobals mg)
    (a : PySem.W.nsIn K mainGlobals x = some (some (.ref f))) (l : K.lookup f = some ⟨oc, od, .func (PySem.W.fnOf x qual (defArgs st) (defBody st) (defScope st) .none kV doc pm an cdv ct), osl⟩)
    (c : PySem.W.codeIn K cdv qual = true) (k : PySem.W.keepIn K (.ref f) = true)
    (hb : ∀ (kV doc pm : Value) (an : Option Addr) (cdv ct : Value) (us : List Value), us.length = ps.length → bindArgs (PySem.W.fnOf x qual (defArgs st) (defBody st) (defScope st) .none kV doc pm an cdv ct) ⟨us, []⟩ = pure (ps.zip us)) : FunAt K mg x qual st ps :=
  have F := fun_mk (st := st) l c k
  ⟨⟨f, _, F, PySem.W.mg_of X G a, F.binds hb⟩⟩
theorem okd {x qual : Str} {st : Stmt} {N ps : List Str} {k : Nat} {sp : QSp} {q : QS} (F : FunAt K mg x qual st ps) (S : FnScope N ps (defScope st)) (len : ∀ ts G Q E, sp ts G Q E → ts.length = ps.length)
    (der : ∀ (f : Addr) (cdv : Value) (A : Around) (outer : List PySem.Env) (s : Shared) (H : Hp) (E : XK), Room k (A.deeper (envOfC qual (defScope st) s.heap.objs.size f cdv)) → PSs (cxOf CX0 P w K mg base N qual (defScope st) f cdv A outer s H E).nox (defBody st) (cS K q))
    (run : ∀ ts G Q E, sp ts G Q E → normK (startT N ts) fun ρ => q (endOf Q) ρ G) : DefOk P w K mg base (k + 1) x ps sp := by
  obtain ⟨f, fd, F, m, b⟩ := F.ex
  exact ⟨f, fd, okq F S len (der f) run, m, F.kp, b⟩
end
section
variable {X : Cx} {k : Nat} {x : Str} {ps : List Str} {sp : QSp} {qa : QA} {p pos : Pos} {e : Expr} {es : List Expr}
theorem e_callD (D : DefOk X.prog X.w X.K X.mg X.base k x ps sp) (hr : Room k X.A) (hg : Gl X x) (ha : PA X (e :: es) (cA X.K qa)) (hdb : (x == ("__debug__" : Str)) = false := by decide)
    (he : starEach (e :: es) X.env = (false, eval e X.env) :: starEach es X.env := by rfl) (hpl : (backTo pos (starEach es X.env)).any (·.1) = false := by rfl) : PE X (.Call (.Name x p) (e :: es) [] pos) (cE X.K (qCall sp qa)) := by
  obtain ⟨f, fd, F, m, kp, b⟩ := D.ex
  exact e_call F hr hg m kp b pass0 ha hdb he hpl
end
/-! ### universal rules -/
section
variable {X : Cx} {tg : Expr} {l : Expr} {qe : QE} {qa : QA}
def qiSeq (qe : QE) : QI := fun ρ G R => qe ρ G fun x G1 => match x with
  | .tup ts => R ts (fun _ => True) G1
  | .ref a => ∃ ts, G1 a = some (.lst ts) ∧ R ts (fun G => G a = some (.lst ts)) G1
  | _ => False
theorem pi_seq {l : Expr} {tl : TE} (hl : PE X l tl) : PI X tg l (fun σ H R => tl σ H fun x H1 => ∃ a, x = .ref a ∧ ((∃ xs, SqL X.K H1 a xs) ∧ R (Itl X.K a) H1 ∨ (∃ xs, SqT X.K H1 a xs) ∧ R (Itt X.K a) H1)) := by
  refine ⟨fun pins s σ H R I h => ?_⟩
  refine thn (hl.run pins s σ H _ I h) fun v s1 ⟨x, H1, I1, r1, q1⟩ => ?_
  obtain ⟨a, e, q⟩ := q1
  subst e
  cases r1
  rcases q with ⟨⟨xs, hq⟩, q⟩ | ⟨⟨xs, hq⟩, q⟩
  · obtain ⟨its, rv, p, hz⟩ := I1.list hq
    refine wpAny_pyIter_list p.isList ?_
    refine ⟨s1.heap.objs.size, [s1.heap.objs.size], _, _, H1, rfl, I1.kept (t' := s1.toks) fun b o e => Heap.get?_push_of_some _ e, turn_list a _, ⟨_, Heap.get?_push_size _ rfl, rfl, rfl⟩, fun b hb => ?_, q⟩
    have e : b = s1.heap.objs.size := by simpa using hb
    subst e
    exact I1.fpOk (Nat.le_refl _) (I1.hok.fresh (Nat.le_refl _))
  · obtain ⟨its, rv, p, hz⟩ := I1.tuple hq
    refine wpAny_pyIter_tuple (show s1.heap.IsTuple a its.toArray from p) ?_
    refine ⟨s1.heap.objs.size, [s1.heap.objs.size], _, _, H1, rfl, I1.kept (t' := s1.toks) fun b o e => Heap.get?_push_of_some _ e, turn_tuple a _, ⟨_, Heap.get?_push_size _ rfl, rfl, rfl⟩, fun b hb => ?_, q⟩
    have e : b = s1.heap.objs.size := by simpa using hb
    subst e
    exact I1.fpOk (Nat.le_refl _) (I1.hok.fresh (Nat.le_refl _))
theorem i_seq (hl : PE X l (cE X.K qe)) : PI X tg l (cI X.K (qiSeq qe)) := PI.wk (pi_seq hl) fun σ H R h => by
  obtain ⟨ρ, G, Q, e, a, q, f⟩ := h
  refine ⟨ρ, G, _, e, a, q, fun v H1 t G1 k1 a1 r1 q1 => ?_⟩
  split at q1
  · obtain ⟨p, vs, rfl, hp, r⟩ := r1
    exact ⟨p, rfl, .inr ⟨⟨vs, SqT.of hp⟩, f _ H1 _ _ G1 k1 a1 (wt_tup hp r) q1⟩⟩
  · cases r1
    obtain ⟨ts, hg, q1⟩ := q1
    obtain ⟨vs, hp, r⟩ := a1 _ _ hg
    exact ⟨_, rfl, .inl ⟨⟨vs, SqL.of hp⟩, f _ H1 _ _ G1 k1 a1 wt_list q1⟩⟩
  · exact q1.elim
/-- t * n, a tuple -/
def fMulT : Q2 := fun x y G Q => match x, y with
  | .int i, .int j => MulOk i j ∧ Q (.int (i * j)) G
  | .tup ts, .int k => ts ≠ [] ∧ 2 ≤ k ∧ k ≤ 1000 ∧ ts.length ≤ 1000 ∧ Q (.tup (List.replicate k.toNat ts).flatten) G
  | _, _ => False
theorem o_mul : OpR X (binaryOp .Mult) (c2 X.K fMulT) := by
  intro pins s σ H v w u u' KQ I rv rw' h2
  obtain ⟨x, y, G, Q, hx, hy, ha, hf, hk⟩ := h2
  unfold fMulT at hf
  split at hf
  · exact op_mulW pins s σ H v w u u' KQ I rv rw' ⟨_, _, hx, hy, hf.1.w, hk _ H (.int _) G (Tups.refl H) ha rfl hf.2⟩
  · rename_i ts k
    obtain ⟨h1, h2, h3, h4, hf⟩ := hf
    obtain ⟨p, vs, rfl, hp, r⟩ := hx
    refine op_repT pins s σ H _ _ u u' KQ I rv rw' ⟨p, k, vs, rfl, hy, SqT.of hp, fun e => h1 (by subst e; exact List.eq_nil_of_length_eq_zero r.length.symm), h2, h3, by rw [r.length]; exact h4, fun l hl => ?_⟩
    have kk : Tups H (upd H l (.tup (List.replicate k.toNat vs).flatten)) := Tups.new hl
    exact hk _ _ (.tup (List.replicate k.toNat ts).flatten) G kk (ha.grow hl) ⟨l, _, rfl, upd_same, (r.flat k.toNat).mono kk⟩ hf
  · exact hf.elim
/-! ### == of data -/
/-- a value without objects of its own, as data -/
def pd : T → Option PyData
  | .non => some .none
  | .bl b => some (.bool b)
  | .int i => some (.int i)
  | .str x => some (.str x)
  | .tup ts => (pds ts).map PyData.tuple
  | _ => none
where pds : List T → Option (List PyData)
  | [] => some []
  | t :: ts => match pd t, pds ts with | some d, some ds => some (d :: ds) | _, _ => none
end
end Lw

set_option Elab.async false
set_option linter.all false
set_option maxRecDepth 100000
set_option maxHeartbeats 4000000
namespace Lw
open PySem PySem.Spec PyProof.Rows L2

/-! ### == of values without objects -/
mutual
def pdT : T → PyData
  | .non => .none
  | .bl b => .bool b
  | .int i => .int i
  | .str x => .str x
  | .tup ts => .tuple (pdTs ts)
  | _ => .none
def pdTs : List T → List PyData
  | [] => []
  | t :: ts => pdT t :: pdTs ts
end
mutual
def okT : T → Bool
  | .non => true
  | .bl _ => true
  | .int _ => true
  | .str x => PyData.strOk x
  | .tup ts => okTs ts
  | _ => false
def okTs : List T → Bool
  | [] => true
  | t :: ts => okT t && okTs ts
end
mutual
def dpT : T → Nat
  | .tup ts => dpTs ts + 1
  | _ => 0
def dpTs : List T → Nat
  | [] => 0
  | t :: ts => max (dpT t) (dpTs ts)
end
mutual
def teq : T → T → Bool
  | .non, .non => true
  | .bl a, .bl b => a == b
  | .bl a, .int j => (if a then 1 else 0) == j
  | .int i, .bl b => i == (if b then 1 else 0)
  | .int i, .int j => decide (i = j)
  | .str x, .str y => decide (x = y)
  | .tup xs, .tup ys => teqs xs ys
  | _, _ => false
def teqs : List T → List T → Bool
  | [], [] => true
  | x :: xs, y :: ys => teq x y && teqs xs ys
  | _, _ => false
end
mutual
theorem pd_can : ∀ t : T, okT t = true → PyData.canLay0 (pdT t) = true
  | .non, _ => rfl
  | .bl _, _ => rfl
  | .int _, _ => rfl
  | .str x, h => h
  | .tup ts, h => pds_can ts h
  | .ref _, h => by cases h
  | .ty _, h => by cases h
  | .scr _, h => by cases h
theorem pds_can : ∀ ts : List T, okTs ts = true → PyData.canLayAll0 (pdTs ts) = true
  | [], _ => rfl
  | t :: ts, h => by
    have h' : (okT t && okTs ts) = true := h
    rw [Bool.and_eq_true] at h'
    show (PyData.canLay0 (pdT t) && PyData.canLayAll0 (pdTs ts)) = true
    rw [pd_can t h'.1, pds_can ts h'.2]; rfl
end
mutual
theorem pd_eqv : ∀ t u : T, okT t = true → okT u = true → PyData.eqv (pdT t) (pdT u) = teq t u := by
  intro t u ht hu
  cases t <;> cases u <;> first
    | rfl
    | (simp only [pdT, PyData.eqv, teq]; done)
    | exact absurd ht Bool.false_ne_true
    | exact absurd hu Bool.false_ne_true
    | (simp only [pdT, PyData.eqv, teq, Bool.beq_eq_decide_eq]; done)
    | (simp only [pdT, PyData.eqv, teq]; exact pds_eqv _ _ ht hu)
theorem pds_eqv : ∀ ts us : List T, okTs ts = true → okTs us = true → PyData.eqvAll (pdTs ts) (pdTs us) = teqs ts us
  | [], [], _, _ => rfl
  | [], _ :: _, _, _ => rfl
  | _ :: _, [], _, _ => rfl
  | t :: ts, u :: us, h, h2 => by
    have h' : (okT t && okTs ts) = true := h
    have h2' : (okT u && okTs us) = true := h2
    rw [Bool.and_eq_true] at h' h2'
    show (PyData.eqv (pdT t) (pdT u) && PyData.eqvAll (pdTs ts) (pdTs us)) = (teq t u && teqs ts us)
    rw [pd_eqv t u h'.1 h2'.1, pds_eqv ts us h'.2 h2'.2]
end
mutual
theorem pd_depth : ∀ t : T, okT t = true → (pdT t).depth ≤ dpT t + 1
  | .non, _ => by decide
  | .bl _, _ => by simp [pdT, PyData.depth]
  | .int _, _ => by simp [pdT, PyData.depth]
  | .str x, h => by simp [pdT, PyData.depth]
  | .tup ts, h => by
    have := pds_depth ts h
    show PyData.depth (.tuple (pdTs ts)) ≤ dpTs ts + 1 + 1
    simp only [PyData.depth]
    omega
  | .ref _, h => by cases h
  | .ty _, h => by cases h
  | .scr _, h => by cases h
theorem pds_depth : ∀ ts : List T, okTs ts = true → PyData.depthAll (pdTs ts) ≤ dpTs ts + 1
  | [], _ => by simp [pdTs, PyData.depthAll]
  | t :: ts, h => by
    have h' : (okT t && okTs ts) = true := h
    rw [Bool.and_eq_true] at h'
    have h1 := pd_depth t h'.1
    have h2 := pds_depth ts h'.2
    show PyData.depthAll (pdT t :: pdTs ts) ≤ max (dpT t) (dpTs ts) + 1
    simp only [PyData.depthAll]
    omega
end
mutual
theorem pd_dp {K : PySem.W.Frag} {H : Hp} : ∀ (t : T) (v : V), okT t = true → Rp K H t v → Dp K H v (pdT t)
  | .non, _, _, h => by cases h; exact .non
  | .bl b, _, _, h => by cases h; exact .bl b
  | .int i, _, _, h => by cases h; exact .int i
  | .str x, _, _, h => by cases h; exact .str x
  | .tup ts, _, o, ⟨a, vs, e, h, r⟩ => by subst e; exact .tup (SqT.of h) (pds_dp ts vs o r)
  | .ref _, _, o, _ => by cases o
  | .ty _, _, o, _ => by cases o
  | .scr _, _, o, _ => by cases o
theorem pds_dp {K : PySem.W.Frag} {H : Hp} : ∀ (ts : List T) (vs : List V), okTs ts = true → RpL K H ts vs → DpAll K H vs (pdTs ts)
  | [], _, _, h => by rw [show _ = [] from h]; exact .nil
  | t :: ts, _, o, ⟨v, r, e, h, hr⟩ => by
    have h' : (okT t && okTs ts) = true := o
    rw [Bool.and_eq_true] at h'
    subst e
    exact .cons (pd_dp t v h'.1 h) (pds_dp ts r h'.2 hr)
end
/-- what == asks of a value: no objects in it, not too deep -/
def eqOk (t : T) : Bool := okT t && decide (dpT t ≤ 50)
def eqOks (ts : List T) : Bool := okTs ts && decide (dpTs ts ≤ 50)
theorem eqOk_ok {t : T} (h : eqOk t = true) : okT t = true := ((Bool.and_eq_true _ _).mp h).1
theorem eqOk_dp {t : T} (h : eqOk t = true) : dpT t ≤ 50 := of_decide_eq_true ((Bool.and_eq_true _ _).mp h).2
theorem eqOks_ok {t : List T} (h : eqOks t = true) : okTs t = true := ((Bool.and_eq_true _ _).mp h).1
theorem eqOks_dp {t : List T} (h : eqOks t = true) : dpTs t ≤ 50 := of_decide_eq_true ((Bool.and_eq_true _ _).mp h).2
def fEq (neg : Bool) : Q2 := fun x y G Q => match x, y with
  | .int i, .int j => Q (.bl (neg != decide (i = j))) G
  | .str i, .str j => Q (.bl (neg != decide (i = j))) G
  | .bl i, .bl j => Q (.bl (neg != decide (i = j))) G
  | .ref a, .ref b => ∃ xs ys, G a = some (.lst xs) ∧ G b = some (.lst ys) ∧ eqOks xs = true ∧ eqOks ys = true ∧ Q (.bl (neg != teqs xs ys)) G
  | .ref a, y => ∃ xs, G a = some (.lst xs) ∧ eqOks xs = true ∧ eqOk y = true ∧ Q (.bl neg) G
  | x, .ref a => ∃ xs, G a = some (.lst xs) ∧ eqOks xs = true ∧ eqOk x = true ∧ Q (.bl neg) G
  | x, y => eqOk x = true ∧ eqOk y = true ∧ Q (.bl (neg != teq x y)) G
section
variable {X : Cx}
theorem shp {t : T} (h : okT t = true) (d : dpT t ≤ 50) : SeqAt.shaped (pdT t) = true := by
  unfold SeqAt.shaped
  rw [pd_can t h]
  have := pd_depth t h
  exact decide_eq_true (by omega)
theorem shpL {ts : List T} (h : okTs ts = true) (d : dpTs ts ≤ 50) : SeqAt.shaped (.list (pdTs ts)) = true := by
  unfold SeqAt.shaped
  have e : PyData.canLay0 (.list (pdTs ts)) = true := pds_can ts h
  rw [e]
  have := pds_depth ts h
  exact decide_eq_true (by simp only [PyData.depth]; omega)
theorem eqv_list_no {xs : List PyData} {t : T} (h : okT t = true) : PyData.eqv (.list xs) (pdT t) = false := by
  cases t <;> first | rfl | (simp only [pdT, PyData.eqv]; done) | cases h
theorem eqv_no_list {xs : List PyData} {t : T} (h : okT t = true) : PyData.eqv (pdT t) (.list xs) = false := by
  cases t <;> first | rfl | (simp only [pdT, PyData.eqv]; done) | cases h
theorem Abs.dlist {K : PySem.W.Frag} {H : Hp} {G : Gp} {a : Addr} {xs : List T} (ha : Abs K H G) (g : G a = some (.lst xs)) (o : okTs xs = true) : Dp K H (.ref a) (.list (pdTs xs)) := by
  obtain ⟨vs, hp, r⟩ := ha _ _ g
  exact .lst (SqL.of hp) (pds_dp xs vs o r)
theorem feq_dp {K : PySem.W.Frag} {neg : Bool} {x y : T} {v w : V} {H : Hp} {G : Gp} {Q : TK} (hx : Rp K H x v) (hy : Rp K H y w) (ha : Abs K H G) (hf : fEq neg x y G Q) :
    (∃ d e, Dp K H v d ∧ Dp K H w e ∧ SeqAt.shaped d = true ∧ SeqAt.shaped e = true ∧ Q (.bl (neg != PyData.eqv d e)) G) ∨ ∃ i j, v = .str i ∧ w = .str j ∧ Q (.bl (neg != decide (i = j))) G := by
  unfold fEq at hf
  split at hf
  · cases hx; cases hy
    exact .inl ⟨_, _, .int _, .int _, rfl, rfl, by simp only [PyData.eqv, Bool.beq_eq_decide_eq]; exact hf⟩
  · cases hx; cases hy
    exact .inr ⟨_, _, rfl, rfl, hf⟩
  · cases hx; cases hy
    exact .inl ⟨_, _, .bl _, .bl _, rfl, rfl, by simp only [PyData.eqv, Bool.beq_eq_decide_eq]; exact hf⟩
  · obtain ⟨xs, ys, g1, g2, o1, o2, q⟩ := hf
    have d1 := eqOks_dp o1
    have d2 := eqOks_dp o2
    have o1 := eqOks_ok o1
    have o2 := eqOks_ok o2
    cases hx; cases hy
    exact .inl ⟨_, _, ha.dlist g1 o1, ha.dlist g2 o2, shpL o1 d1, shpL o2 d2, by rw [show PyData.eqv (.list (pdTs xs)) (.list (pdTs ys)) = teqs xs ys from by simp only [PyData.eqv]; exact pds_eqv xs ys o1 o2]; exact q⟩
  · obtain ⟨xs, g1, o1, o2, q⟩ := hf
    have d1 := eqOks_dp o1
    have d2 := eqOk_dp o2
    have o1 := eqOks_ok o1
    have o2 := eqOk_ok o2
    cases hx
    exact .inl ⟨_, _, ha.dlist g1 o1, pd_dp _ _ o2 hy, shpL o1 d1, shp o2 d2, by rw [eqv_list_no o2, Bool.bne_false]; exact q⟩
  · obtain ⟨xs, g1, o1, o2, q⟩ := hf
    have d1 := eqOks_dp o1
    have d2 := eqOk_dp o2
    have o1 := eqOks_ok o1
    have o2 := eqOk_ok o2
    cases hy
    exact .inl ⟨_, _, pd_dp _ _ o2 hx, ha.dlist g1 o1, shp o2 d2, shpL o1 d1, by rw [eqv_no_list o2, Bool.bne_false]; exact q⟩
  · obtain ⟨o1, o2, q⟩ := hf
    have d1 := eqOk_dp o1
    have d2 := eqOk_dp o2
    have o1 := eqOk_ok o1
    have o2 := eqOk_ok o2
    exact .inl ⟨_, _, pd_dp _ _ o1 hx, pd_dp _ _ o2 hy, shp o1 d1, shp o2 d2, by rw [pd_eqv _ _ o1 o2]; exact q⟩
theorem o_eq (hu : X.A.units + 64 < cLine) : OpR X (compareOp .Eq) (c2 X.K (fEq false)) := by
  intro pins s σ H v w u u' KQ I rv rw' h2
  obtain ⟨x, y, G, Q, hx, hy, ha, hf, hk⟩ := h2
  rcases feq_dp hx hy ha hf with ⟨d, e, d1, d2, s1, s2, q⟩ | ⟨i, j, rfl, rfl, q⟩
  case inr => exact op_eq pins s σ H _ _ u u' KQ I rv rw' ⟨rfl, hk _ H (.bl (decide (i = j))) G (Tups.refl H) ha (show V.bl _ = V.bl _ from congrArg V.bl (by by_cases e : i = j <;> simp [e])) (by rw [Bool.false_bne] at q; exact q)⟩
  exact op_eqD hu pins s σ H v w u u' KQ I rv rw' ⟨d, e, d1, d2, s1, s2, hk _ H (.bl _) G (Tups.refl H) ha rfl (by rw [Bool.false_bne] at q; exact q)⟩
theorem o_ne (hu : X.A.units + 64 < cLine) : OpR X (compareOp .NotEq) (c2 X.K (fEq true)) := by
  intro pins s σ H v w u u' KQ I rv rw' h2
  obtain ⟨x, y, G, Q, hx, hy, ha, hf, hk⟩ := h2
  rcases feq_dp hx hy ha hf with ⟨d, e, d1, d2, s1, s2, q⟩ | ⟨i, j, rfl, rfl, q⟩
  case inr => exact op_ne pins s σ H _ _ u u' KQ I rv rw' ⟨rfl, hk _ H (.bl (!decide (i = j))) G (Tups.refl H) ha (show V.bl _ = V.bl _ from congrArg V.bl (by by_cases e : i = j <;> simp [e])) (by rw [Bool.true_bne] at q; exact q)⟩
  exact op_neD hu pins s σ H v w u u' KQ I rv rw' ⟨d, e, d1, d2, s1, s2, hk _ H (.bl _) G (Tups.refl H) ha rfl (by rw [Bool.true_bne] at q; exact q)⟩
end
end Lw

set_option Elab.async false
set_option linter.all false
set_option maxRecDepth 100000
set_option maxHeartbeats 4000000
namespace Lw
open PySem PySem.Spec PyProof.Rows L2
section
variable {X : Cx}
/-! ### enumerate of a list or a tuple -/
def iEnumA (K : PySem.W.Frag) (ta : TA) : TI := fun σ H R => ta σ H fun vs H1 => ∃ a, vs = [.ref a] ∧ ((∃ xs, SqL K H1 a xs) ∧ R (Ite K a) H1 ∨ (∃ xs, SqT K H1 a xs) ∧ R (IteT K a) H1)
theorem pi_enumA {e : Expr} {ta : TA} {p pos tpos : Pos} {elts : List Expr} {kk : Nat} (hg : Gl X "enumerate") (hm : X.mg "enumerate" = none) (ha : PA X [e] ta) (hs : starEach [e] X.env = [(false, eval e X.env)] := by rfl) :
    PI X (.Tuple elts kk tpos) (.Call (.Name "enumerate" p) [e] [] pos) (iEnumA X.K ta) := by
  refine ⟨fun pins s σ H R I h => ?_⟩
  refine Call_ (ld_blt I hg hm boot_enumerate (PyProof.Rows.callWith_type1 (thn (ha.run pos pins s σ H _ I h) fun us s1 ⟨vs, H1, I1, r1, q1⟩ => ?_) hs rfl))
  obtain ⟨a, ex, q⟩ := q1
  subst ex
  cases r1 with
  | cons r rr =>
    cases rr
    cases r
    have pins2 : ∀ b : Addr, b ∈ [s1.heap.objs.size + 1, s1.heap.objs.size] → FpOk X pins H1 b := fun b hb => by
      have e' : b = s1.heap.objs.size + 1 ∨ b = s1.heap.objs.size := by simpa using hb
      have hle : s1.heap.objs.size ≤ b := by
        rcases e' with z | z
        · rw [z]; exact Nat.le_add_right _ _
        · rw [z]; exact Nat.le_refl _
      exact I1.fpOk hle (I1.hok.fresh hle)
    rcases q with ⟨⟨xs, hq⟩, q⟩ | ⟨⟨xs, hq⟩, q⟩
    · obtain ⟨its, rv, p', hz⟩ := I1.list hq
      refine call_enumerate_list p'.isList fun h' he hit hsz hk => wpAny_pyIter_enum he ?_
      have I2 : Inv X pins σ H1 { s1 with heap := h' } := I1.kept (t' := s1.toks) hk
      exact ⟨s1.heap.objs.size + 1, [s1.heap.objs.size + 1, s1.heap.objs.size], _, _, H1, rfl, I2, turn_enum a (s1.heap.objs.size + 1) s1.heap.objs.size, ⟨⟨.none, he⟩, hit, Nat.succ_ne_self _⟩, pins2, q⟩
    · obtain ⟨its, rv, p', hz⟩ := I1.tuple hq
      refine enum1_begins (begins_tuple a its.toArray) (show s1.heap.IsTuple a its.toArray from p') fun h' he hit hsz hk => wpAny_pyIter_enum he ?_
      have I2 : Inv X pins σ H1 { s1 with heap := h' } := I1.kept (t' := s1.toks) hk
      exact ⟨s1.heap.objs.size + 1, [s1.heap.objs.size + 1, s1.heap.objs.size], _, _, H1, rfl, I2, turn_enumT a (s1.heap.objs.size + 1) s1.heap.objs.size, ⟨⟨.none, he⟩, ⟨_, hit, rfl, rfl⟩, Nat.succ_ne_self _⟩, pins2, q⟩
variable {qa : QA}
def qiEnum (qa : QA) : QI := fun ρ G R => qa ρ G fun ts G1 => match ts with
  | [.tup us] => R (enumT us) (fun _ => True) G1
  | [.ref a] => ∃ us, G1 a = some (.lst us) ∧ R (enumT us) (fun G => G a = some (.lst us)) G1
  | _ => False
theorem i_enum {e : Expr} {p pos tpos : Pos} {elts : List Expr} {kk : Nat} (hg : Gl X "enumerate") (hm : X.mg "enumerate" = none) (ha : PA X [e] (cA X.K qa)) (hs : starEach [e] X.env = [(false, eval e X.env)] := by rfl) :
    PI X (.Tuple elts kk tpos) (.Call (.Name "enumerate" p) [e] [] pos) (cI X.K (qiEnum qa)) := PI.wk (pi_enumA hg hm ha hs) fun σ H R h => by
  obtain ⟨ρ, G, Q, e, a, q, f⟩ := h
  refine ⟨ρ, G, _, e, a, q, fun vs H1 ts G1 k1 a1 r1 q1 => ?_⟩
  split at q1
  · obtain ⟨v, rfl, h1⟩ := rpl1 r1
    obtain ⟨p, ws, rfl, hp, r⟩ := h1
    exact ⟨p, rfl, .inr ⟨⟨ws, SqT.of hp⟩, f _ H1 _ _ G1 k1 a1 (wt_enumT hp r) q1⟩⟩
  · obtain ⟨v, rfl, h1⟩ := rpl1 r1
    cases h1
    obtain ⟨us, hg, q1⟩ := q1
    obtain ⟨ws, hp, r⟩ := a1 _ _ hg
    exact ⟨_, rfl, .inl ⟨⟨ws, SqL.of hp⟩, f _ H1 _ _ G1 k1 a1 wt_enum q1⟩⟩
  · exact q1.elim
/-! ### module constants, the negative -/
theorem e_glI {x : Str} {n : Int} {pos : Pos} (hg : Gl X x) (hm : ∃ t, X.mg x = some (.int n t)) (hd : (x == ("__debug__" : Str)) = false := by decide) : PE X (.Name x pos) (cE X.K (qC (.int n))) := by
  obtain ⟨t, hm⟩ := hm
  exact e_glob (v := .int n) hg hm ⟨t, rfl⟩ (fun _ => rfl) hd
theorem e_glS {x z : Str} {pos : Pos} (hg : Gl X x) (hm : ∃ t, X.mg x = some (.str z t)) (hd : (x == ("__debug__" : Str)) = false := by decide) : PE X (.Name x pos) (cE X.K (qC (.str z))) := by
  obtain ⟨t, hm⟩ := hm
  exact e_glob (v := .str z) hg hm ⟨t, rfl⟩ (fun _ => rfl) hd
def qUn (f : Q1) (qa : QE) : QE := fun ρ G Q => qa ρ G fun x G1 => f x G1 Q
def fNeg : Q1 := fun x G Q => match x with | .int i => Q (.int (-i)) G | _ => False
theorem e_neg {a : Expr} {qe : QE} {pos : Pos} (ha : PE X a (cE X.K qe)) : PE X (.UnaryOp .USub a pos) (cE X.K (qUn fNeg qe)) := PE.wk (pe_un un_neg ha) fun σ H KQ h => by
  obtain ⟨ρ, G, Q, e, a, q, f⟩ := h
  refine ⟨ρ, G, _, e, a, q, fun v H1 t G1 k1 a1 r1 q1 => ?_⟩
  unfold fNeg at q1
  split at q1
  · cases r1
    exact ⟨_, rfl, f _ H1 (.int _) G1 k1 a1 rfl q1⟩
  · exact q1.elim
/-! ### two comparisons in a row -/
variable {a b c : Expr} {qa qb qc : QE} {f g : Q2} {pos : Pos} {op op' : CmpOp}
theorem chain_wk : ∀ σ H KQ, cE X.K (qChain f g qa qb qc) σ H KQ → tChain (c2 X.K f) (c2 X.K g) (cE X.K qa) (cE X.K qb) (cE X.K qc) σ H KQ := fun σ H KQ h => by
  obtain ⟨ρ, G, Q, e, a, q, k⟩ := h
  refine ⟨ρ, G, _, e, a, q, fun v H1 t G1 k1 a1 r1 q1 => ?_⟩
  refine ⟨ρ, G1, _, e.mono k1, a1, q1, fun w H2 u G2 k2 a2 r2 q2 => ?_⟩
  refine ⟨t, u, G2, _, r1.mono k2, r2, a2, q2, fun z H3 z' G3 k3 a3 r3 q3 => ?_⟩
  have kk := (k1.trans k2).trans k3
  split at q3
  · rename_i kb
    cases r3
    refine ⟨kb, rfl, ?_⟩
    cases kb with
    | true =>
      rw [if_pos rfl]
      exact ⟨ρ, G3, _, e.mono kk, a3, q3.1 rfl, fun w4 H4 t4 G4 k4 a4 r4 q4 => ⟨u, t4, G4, Q, (r2.mono k3).mono k4, r4, a4, q4, k.from (kk.trans k4)⟩⟩
    | false =>
      rw [if_neg Bool.false_ne_true]
      exact k (.bl false) H3 (.bl false) G3 kk a3 rfl (q3.2 rfl)
  · exact q3.elim
theorem e_chain (ho : OpR X (compareOp op) (c2 X.K f)) (ho' : OpR X (compareOp op') (c2 X.K g)) (ha : PE X a (cE X.K qa)) (hb : PE X b (cE X.K qb)) (hc : PE X c (cE X.K qc)) (hm : lastMarks [op, op'] [b, c] = false := by with_unfolding_all rfl) :
    PE X (.Compare a [op, op'] [b, c] pos) (cE X.K (qChain f g qa qb qc)) := PE.wk (pe_chain ho ho' ha hb hc hm) chain_wk
theorem t_chain (ho : OpR X (compareOp op) (c2 X.K f)) (ho' : OpR X (compareOp op') (c2 X.K g)) (ha : PE X a (cE X.K qa)) (hb : PE X b (cE X.K qb)) (hc : PE X c (cE X.K qc)) (hm : lastMarks [op, op'] [b, c] = false := by with_unfolding_all rfl) :
    PT X (.Compare a [op, op'] [b, c] pos) (cT X.K (qTB (qChain f g qa qb qc))) := PT.wk (pt_chain ho ho' ha hb hc hm) fun σ H KQ h => by
  obtain ⟨ρ, G, Q, e, a, q, k⟩ := h
  refine chain_wk σ H _ ⟨ρ, G, _, e, a, q, fun v H1 t G1 k1 a1 r1 q1 => ?_⟩
  cases t with
  | bl b => exact ⟨b, r1, k b H1 G1 k1 a1 q1⟩
  | _ => exact q1.elim
end
end Lw

set_option Elab.async false
set_option linter.all false
set_option maxRecDepth 100000
set_option maxHeartbeats 4000000
namespace Lw
open PySem PySem.Spec PyProof.Rows L2
/-! ### isinstance -/
def isT : T → TyN → Bool
  | .int _, .int => true
  | .bl _, .int => true
  | .bl _, .bool => true
  | .str _, .str => true
  | .tup _, .tuple => true
  | _, _ => false
def isL : TyN → Bool
  | .list => true
  | _ => false
def isAny (f : TyN → Bool) : List T → Option Bool
  | [] => some false
  | .ty n :: r => (isAny f r).map fun b => f n || b
  | _ => none
def clsT (f : TyN → Bool) : T → Option Bool
  | .ty n => some (f n)
  | .tup cs => isAny f cs
  | _ => none
def isPure : T → Bool
  | .non => true
  | .bl _ => true
  | .int _ => true
  | .str _ => true
  | .tup _ => true
  | _ => false
def fIsi : QC := fun ts G Q => match ts with
  | [.ref a, c] => ∃ xs, G a = some (.lst xs) ∧ (match clsT isL c with | some b => Q (.bl b) G | none => False)
  | [x, c] => (match isPure x with | true => (match clsT (isT x) c with | some b => Q (.bl b) G | none => False) | false => False)
  | _ => False
theorem kit_none (n : TyN) : kitB "NoneType" n.name = some (isT .non n) := by cases n <;> decide +kernel
theorem kit_bool (n : TyN) : kitB "bool" n.name = some (isT (.bl true) n) := by cases n <;> decide +kernel
theorem kit_int (n : TyN) : kitB "int" n.name = some (isT (.int 0) n) := by cases n <;> decide +kernel
theorem kit_str (n : TyN) : kitB "str" n.name = some (isT (.str "") n) := by cases n <;> decide +kernel
theorem kit_tuple (n : TyN) : kitB "tuple" n.name = some (isT (.tup []) n) := by cases n <;> decide +kernel
theorem kit_list (n : TyN) : kitB "list" n.name = some (isL n) := by cases n <;> decide +kernel
theorem isT_bl (b c : Bool) (n : TyN) : isT (.bl b) n = isT (.bl c) n := by cases n <;> rfl
theorem isT_int (b c : Int) (n : TyN) : isT (.int b) n = isT (.int c) n := by cases n <;> rfl
theorem isT_str (b c : Str) (n : TyN) : isT (.str b) n = isT (.str c) n := by cases n <;> rfl
theorem isT_tup (b c : List T) (n : TyN) : isT (.tup b) n = isT (.tup c) n := by cases n <;> rfl
section
variable {X : Cx}
theorem isAny_ok {K : PySem.W.Frag} {H : Hp} {tn : String} {f : TyN → Bool} (hk : ∀ n : TyN, kitB tn n.name = some (f n)) : ∀ {cs : List T} {vs : List V} {b : Bool}, isAny f cs = some b → RpL K H cs vs →
    ∃ us : List Value, Paired ClsV vs us ∧ PySem.W.kitAny K (.type tn) us = some b
  | [], _, b, h, r => by
    rw [show _ = [] from r]
    cases h
    exact ⟨[], .nil, rfl⟩
  | c :: cs, _, b, h, ⟨v, vr, e, hv, hr⟩ => by
    subst e
    cases c with
    | ty n =>
      cases e2 : isAny f cs with
      | none => simp [isAny, e2] at h
      | some b' =>
        obtain ⟨us, p, k⟩ := isAny_ok hk e2 hr
        have hb : (f n || b') = b := by simpa [isAny, e2] using h
        rw [show v = V.ty n.name from hv]
        refine ⟨.type n.name :: us, .cons (.ty _) p, kitAny_cons (b := f n) (kit_ty (hk n)) (fun z => ?_) (fun z => ?_)⟩
        · rw [z, Bool.false_or] at hb; rw [k, hb]
        · rw [z, Bool.true_or] at hb; exact hb.symm
    | _ => simp [isAny] at h
theorem isi_go {pins : List (Addr × Obj)} {s : Shared} {σ : L2.St} {H : Hp} {v w : V} {u u' : Value} {KQ : VK} {c : T} {tn : String} {f : TyN → Bool} {b : Bool} {us : List Value} (I : Inv X pins σ H s) (r : Vals [v, w] us) (hc : Rp X.K H c w) (ty : TyX X.K H v (.type tn))
    (hk : ∀ n : TyN, kitB tn n.name = some (f n)) (h : clsT f c = some b) (q : KQ (.bl b) H) : wpAny (model X.prog X.w) X.A (call (.builtin "isinstance") us) (EP X pins σ KQ) X.xe s := by
  cases c with
  | ty n =>
    cases h
    rw [show w = V.ty n.name from hc] at r
    exact call_isi pins s σ H _ us KQ I r ⟨v, .ty n.name, .type tn, .type n.name, f n, rfl, .ty _, ty, kit_ty (hk n), q⟩
  | tup cs =>
    obtain ⟨p, vs, rfl, hp, rr⟩ := hc
    obtain ⟨us', pr, k⟩ := isAny_ok hk h rr
    exact call_isiT pins s σ H _ us KQ I r ⟨v, p, vs, .type tn, us', b, rfl, hp, pr, ty, k, q⟩
  | _ => cases h
theorem b_isi : CallR X (.builtin "isinstance") (cC X.K fIsi) := by
  intro pins s σ H vs us KQ I r h
  obtain ⟨ts, G, Q, hr, ha, hf, hk⟩ := h
  have fin : ∀ b : Bool, Q (.bl b) G → KQ (.bl b) H := fun b q => hk _ H (.bl b) G (Tups.refl H) ha rfl q
  unfold fIsi at hf
  split at hf
  · rename_i a c
    obtain ⟨v, w, rfl, h1, h2⟩ := rpl2 hr
    cases h1
    obtain ⟨xs, hg, hf⟩ := hf
    obtain ⟨ws, hp, rr⟩ := ha _ _ hg
    split at hf
    · rename_i b hb
      exact isi_go (u := .none) (u' := .none) I r h2 (.base (.lst hp)) kit_list hb (fin b hf)
    · exact hf.elim
  · rename_i x c _
    obtain ⟨v, w, rfl, h1, h2⟩ := rpl2 hr
    split at hf
    · split at hf
      · rename_i b hb
        cases x with
        | non => cases h1; exact isi_go (u := .none) (u' := .none) I r h2 (.base .non) kit_none hb (fin b hf)
        | bl k => cases h1; exact isi_go (u := .none) (u' := .none) I r h2 (.base (.bl k)) (fun n => by rw [isT_bl k true]; exact kit_bool n) hb (fin b hf)
        | int k => cases h1; exact isi_go (u := .none) (u' := .none) I r h2 (.base (.int k)) (fun n => by rw [isT_int k 0]; exact kit_int n) hb (fin b hf)
        | str k => cases h1; exact isi_go (u := .none) (u' := .none) I r h2 (.base (.str k)) (fun n => by rw [isT_str k ""]; exact kit_str n) hb (fin b hf)
        | tup k =>
          obtain ⟨p, vs, rfl, hp, rr⟩ := h1
          exact isi_go (u := .none) (u' := .none) I r h2 (.base (.tup hp)) (fun n => by rw [isT_tup k []]; exact kit_tuple n) hb (fin b hf)
        | ref k => rename_i e; cases e
        | ty k => rename_i e; cases e
        | scr k => rename_i e; cases e
      · exact hf.elim
    · exact hf.elim
  · exact hf.elim
/-! ### is, is not: None and bools -/
def isN : T → Bool
  | .non => true
  | _ => false
def fIs (neg : Bool) : Q2 := fun x y G Q => match x, y with
  | x, .non => Q (.bl (neg != isN x)) G
  | .bl a, .bl b => Q (.bl (neg != decide (a = b))) G
  | _, _ => False
theorem rp_non {K : PySem.W.Frag} {H : Hp} {x : T} {v : V} (h : Rp K H x v) : decide (v = .non) = isN x := by
  cases x with
  | non => cases h; rfl
  | bl b => cases h; rfl
  | int b => cases h; rfl
  | str b => cases h; rfl
  | tup b => obtain ⟨a, vs, rfl, _⟩ := h; rfl
  | ref b => cases h; rfl
  | ty b => cases h; rfl
  | scr b => obtain ⟨a, rfl, _⟩ := h; rfl
theorem o_is : OpR X (compareOp .Is) (c2 X.K (fIs false)) := by
  intro pins s σ H v w u u' KQ I rv rw' h2
  obtain ⟨x, y, G, Q, hx, hy, ha, hf, hk⟩ := h2
  unfold fIs at hf
  split at hf
  · cases hy
    exact op_isN pins s σ H _ _ u u' KQ I rv rw' ⟨rfl, hk _ H (.bl _) G (Tups.refl H) ha (show V.bl _ = V.bl _ by rw [rp_non hx]) (by rw [Bool.false_bne] at hf; exact hf)⟩
  · cases hx; cases hy
    exact op_isBl pins s σ H _ _ u u' KQ I rv rw' ⟨_, _, rfl, rfl, hk _ H (.bl _) G (Tups.refl H) ha rfl (by rw [Bool.false_bne] at hf; exact hf)⟩
  · exact hf.elim
theorem o_isnot : OpR X (compareOp .IsNot) (c2 X.K (fIs true)) := by
  intro pins s σ H v w u u' KQ I rv rw' h2
  obtain ⟨x, y, G, Q, hx, hy, ha, hf, hk⟩ := h2
  unfold fIs at hf
  split at hf
  · cases hy
    exact op_notN pins s σ H _ _ u u' KQ I rv rw' ⟨rfl, hk _ H (.bl _) G (Tups.refl H) ha (show V.bl _ = V.bl _ by rw [rp_non hx]) (by rw [Bool.true_bne] at hf; exact hf)⟩
  · cases hx; cases hy
    exact op_notBl pins s σ H _ _ u u' KQ I rv rw' ⟨_, _, rfl, rfl, hk _ H (.bl _) G (Tups.refl H) ha rfl (by rw [Bool.true_bne] at hf; exact hf)⟩
  · exact hf.elim
/-! ### all, any of bools -/
def fAll : QC := fun ts G Q => match ts with
  | [.ref a] => ∃ bs : List Bool, G a = some (.lst (bs.map T.bl)) ∧ Q (.bl (bs.all id)) G
  | _ => False
def fAny : QC := fun ts G Q => match ts with
  | [.ref a] => ∃ bs : List Bool, G a = some (.lst (bs.map T.bl)) ∧ Q (.bl (bs.any id)) G
  | _ => False
theorem RpL.bls {K : PySem.W.Frag} {H : Hp} : ∀ {ns : List Bool} {vs : List V}, RpL K H (ns.map T.bl) vs → vs = ns.map V.bl
  | [], _, h => h
  | n :: ns, _, ⟨v, r, e, h, hr⟩ => by rw [e, show v = V.bl n from h, RpL.bls hr]; rfl
theorem b_all (hc : X.calm = true) : CallR X (.builtin "all") (cC X.K fAll) := by
  intro pins s σ H vs us KQ I r h
  obtain ⟨ts, G, Q, hr, ha, hf, hk⟩ := h
  unfold fAll at hf
  split at hf
  · obtain ⟨v, rfl, h1⟩ := rpl1 hr
    cases h1
    obtain ⟨bs, hg, hf⟩ := hf
    obtain ⟨ws, hp, rr⟩ := ha _ _ hg
    rw [rr.bls] at hp
    exact cr_all hc pins s σ H _ us KQ I r ⟨_, bs, rfl, SqL.of hp, hk _ H (.bl _) G (Tups.refl H) ha rfl hf⟩
  · exact hf.elim
theorem b_any (hc : X.calm = true) : CallR X (.builtin "any") (cC X.K fAny) := by
  intro pins s σ H vs us KQ I r h
  obtain ⟨ts, G, Q, hr, ha, hf, hk⟩ := h
  unfold fAny at hf
  split at hf
  · obtain ⟨v, rfl, h1⟩ := rpl1 hr
    cases h1
    obtain ⟨bs, hg, hf⟩ := hf
    obtain ⟨ws, hp, rr⟩ := ha _ _ hg
    rw [rr.bls] at hp
    exact cr_any hc pins s σ H _ us KQ I r ⟨_, bs, rfl, SqL.of hp, hk _ H (.bl _) G (Tups.refl H) ha rfl hf⟩
  · exact hf.elim
/-! ### slices -/
abbrev QO := REnv → Gp → (Option Int → Gp → Prop) → Prop
def cO (K : PySem.W.Frag) (q : QO) : TO := fun σ H KQ => ∃ ρ G Q, EnvR K H ρ σ ∧ Abs K H G ∧ q ρ G Q ∧ ∀ o H' G', Tups H H' → Abs K H' G' → Q o G' → KQ o H'
def qoN : QO := fun _ G Q => Q none G
def qoS (qe : QE) : QO := fun ρ G Q => qe ρ G fun x G1 => match x with | .int i => Q (some i) G1 | _ => False
theorem PO.wk {e : Option Expr} {t t' : TO} (h : PO X e t) (w : ∀ σ H Q, t' σ H Q → t σ H Q) : PO X e t' := ⟨fun p s σ H Q I q => h.run p s σ H Q I (w σ H Q q)⟩
theorem o_none : PO X none (cO X.K qoN) := PO.wk po_none fun σ H KQ h => by
  obtain ⟨ρ, G, Q, e, a, q, f⟩ := h
  exact f none H G (Tups.refl H) a q
theorem o_some {e : Expr} {qe : QE} (h : PE X e (cE X.K qe)) : PO X (some e) (cO X.K (qoS qe)) := PO.wk (po_some h) fun σ H KQ h => by
  obtain ⟨ρ, G, Q, e, a, q, f⟩ := h
  refine ⟨ρ, G, _, e, a, q, fun v H1 t G1 k1 a1 r1 q1 => ?_⟩
  cases t with
  | int i => cases r1; exact ⟨i, rfl, f (some i) H1 G1 k1 a1 q1⟩
  | _ => exact q1.elim
def cutT {α : Type} (xs : List α) (lo hi : Option Int) : List α := (xs.drop (HT.sIx xs.length 0 lo)).take (HT.sIx xs.length xs.length hi - HT.sIx xs.length 0 lo)
abbrev QSl := T → Option Int → Option Int → Gp → TK → Prop
def fSl : QSl := fun x lo hi G Q => match x with
  | .tup ts => Q (.tup (cutT ts lo hi)) G
  | .ref a => ∃ ts, G a = some (.lst ts) ∧ ∀ p, G p = none → Q (.ref p) (gput G p (.lst (cutT ts lo hi)))
  | .str z => z.length ≤ 100000 ∧ Q (.str ⟨(cutT z.cps.toList lo hi).toArray⟩) G
  | _ => False
def cSl (K : PySem.W.Frag) (f : QSl) : V → Option Int → Option Int → Hp → VK → Prop := fun v lo hi H KQ => ∃ x G Q, Rp K H x v ∧ Abs K H G ∧ f x lo hi G Q ∧ Fol K H Q KQ
theorem RpL.cut {K : PySem.W.Frag} {H : Hp} {ts : List T} {vs : List V} (r : RpL K H ts vs) (lo hi : Option Int) : RpL K H (cutT ts lo hi) (cutV vs lo hi) := by
  unfold cutT cutV
  rw [r.length]
  exact (r.drop _).take _
theorem sl_seq : SlR X (cSl X.K fSl) := by
  intro pins s σ H v u vl vu lo hi sl KQ I rx hs pl pu h
  obtain ⟨x, G, Q, hx, ha, hf, hk⟩ := h
  unfold fSl at hf
  split at hf
  · rename_i ts
    obtain ⟨p, vs, rfl, hp, r⟩ := hx
    refine sl_tupA pins s σ H _ u vl vu lo hi sl KQ I rx hs pl pu ⟨p, vs, rfl, SqT.of hp, fun e => ?_, fun e q hq => ?_⟩
    · have ec : cutT ts lo hi = ts := by
        unfold cutT
        rw [← r.length, e.1, e.2, List.drop_zero, Nat.sub_zero, r.length, List.take_length]
      rw [ec] at hf
      exact hk _ H (.tup ts) G (Tups.refl H) ha ⟨p, vs, rfl, hp, r⟩ hf
    · have k : Tups H (upd H q (.tup (cutV vs lo hi))) := Tups.new hq
      exact hk _ _ (.tup _) G k (ha.grow hq) ⟨q, _, rfl, upd_same, (r.cut lo hi).mono k⟩ hf
  · obtain ⟨ts, hg, hf⟩ := hf
    cases hx
    obtain ⟨vs, hp, r⟩ := ha _ _ hg
    refine sl_list pins s σ H _ u vl vu lo hi sl KQ I rx hs pl pu ⟨_, vs, rfl, SqL.of hp, fun q hq => ?_⟩
    have k : Tups H (upd H q (.lst (cutV vs lo hi))) := Tups.new hq
    exact hk _ _ _ _ k (ha.put (o := .lst (cutT ts lo hi)) ⟨fun xs z => (by rw [hq] at z; cases z), fun o xs z => (by rw [hq] at z; cases z)⟩ ⟨_, upd_same, (r.cut lo hi).mono k⟩) (show Rp X.K _ (.ref q) _ from rfl) (hf q (ha.free hq))
  · cases hx
    exact sl_str pins s σ H _ u vl vu lo hi sl KQ I rx hs pl pu ⟨_, rfl, sz100 hf.1, hk _ H (.str _) G (Tups.refl H) ha rfl hf.2⟩
  · exact hf.elim
def qSl (f : QSl) (qe : QE) (ql qh : QO) : QE := fun ρ G Q => qe ρ G fun x G1 => ql ρ G1 fun l G2 => qh ρ G2 fun u G3 => f x l u G3 Q
theorem e_slice {f : QSl} {e : Expr} {lo hi : Option Expr} {qe : QE} {ql qh : QO} {p2 pos : Pos} (hr : SlR X (cSl X.K f)) (he : PE X e (cE X.K qe)) (hl : PO X lo (cO X.K ql)) (hu : PO X hi (cO X.K qh)) :
    PE X (.Subscript e (.Slice lo hi none p2) pos) (cE X.K (qSl f qe ql qh)) := PE.wk (pe_slice hr he hl hu) fun σ H KQ h => by
  obtain ⟨ρ, G, Q, e, a, q, g⟩ := h
  refine ⟨ρ, G, _, e, a, q, fun v H1 t G1 k1 a1 r1 q1 => ?_⟩
  refine ⟨ρ, G1, _, e.mono k1, a1, q1, fun l H2 G2 k2 a2 q2 => ?_⟩
  refine ⟨ρ, G2, _, e.mono (k1.trans k2), a2, q2, fun u H3 G3 k3 a3 q3 => ?_⟩
  exact ⟨t, G3, Q, r1.mono (k2.trans k3), a3, q3, g.from ((k1.trans k2).trans k3)⟩
end
end Lw

set_option Elab.async false
set_option linter.all false
set_option maxRecDepth 100000
set_option maxHeartbeats 4000000
namespace Lw
open PySem PySem.Spec PyProof.Rows L2
section
variable {X : Cx} {a b : Expr} {rest : List Expr} {pos : Pos} {qa qb : QE} {tA tB' : QT}
/-! ### and, or whose second part changes nothing: one way -/
def qOrVP (t u : QE) : QE := fun ρ G Q => t ρ G fun x G1 => match x with | .bl c => ∃ d, u ρ G1 (fun y G2 => y = .bl d ∧ G2 = G1) ∧ Q (.bl (c || d)) G1 | _ => False
def qAndVP (t u : QE) : QE := fun ρ G Q => t ρ G fun x G1 => match x with | .bl c => ∃ d, u ρ G1 (fun y G2 => y = .bl d ∧ G2 = G1) ∧ Q (.bl (c && d)) G1 | _ => False
def qOrP (t u : QT) : QT := fun ρ G Q => t ρ G fun c G1 => ∃ d, u ρ G1 (fun y G2 => y = d ∧ G2 = G1) ∧ Q (c || d) G1
def qAndP (t u : QT) : QT := fun ρ G Q => t ρ G fun c G1 => ∃ d, u ρ G1 (fun y G2 => y = d ∧ G2 = G1) ∧ Q (c && d) G1
theorem e_orP (ha : PE X a (cE X.K qa)) (hb : PE X (.BoolOp .Or (b :: rest) pos) (cE X.K qb)) : PE X (.BoolOp .Or (a :: b :: rest) pos) (cE X.K (qOrVP qa qb)) := PE.wk (pe_or ha hb) fun σ H KQ h => by
  obtain ⟨ρ, G, Q, e, a, q, f⟩ := h
  refine ⟨ρ, G, _, e, a, q, fun v H1 t G1 k1 a1 r1 q1 => ?_⟩
  cases t with
  | bl b =>
    refine ⟨b, r1, ?_⟩
    obtain ⟨d, hd, q1⟩ := q1
    cases b with
    | true => exact f (.bl true) H1 (.bl true) G1 k1 a1 rfl q1
    | false => exact ⟨ρ, G1, _, e.mono k1, a1, hd, fun v H2 t G2 k2 a2 r2 ⟨e1, e2⟩ => by subst e1 e2; exact f v H2 (.bl d) _ (k1.trans k2) a2 r2 q1⟩
  | _ => exact q1.elim
theorem e_andP (ha : PE X a (cE X.K qa)) (hb : PE X (.BoolOp .And (b :: rest) pos) (cE X.K qb)) : PE X (.BoolOp .And (a :: b :: rest) pos) (cE X.K (qAndVP qa qb)) := PE.wk (pe_and ha hb) fun σ H KQ h => by
  obtain ⟨ρ, G, Q, e, a, q, f⟩ := h
  refine ⟨ρ, G, _, e, a, q, fun v H1 t G1 k1 a1 r1 q1 => ?_⟩
  cases t with
  | bl b =>
    refine ⟨b, r1, ?_⟩
    obtain ⟨d, hd, q1⟩ := q1
    cases b with
    | false => exact f (.bl false) H1 (.bl false) G1 k1 a1 rfl q1
    | true => exact ⟨ρ, G1, _, e.mono k1, a1, hd, fun v H2 t G2 k2 a2 r2 ⟨e1, e2⟩ => by subst e1 e2; exact f v H2 (.bl d) _ (k1.trans k2) a2 r2 q1⟩
  | _ => exact q1.elim
theorem w_orP (ha : PT X a (cT X.K tA)) (hb : PW X (.BoolOp .Or (b :: rest) pos) (cT X.K tB')) : PW X (.BoolOp .Or (a :: b :: rest) pos) (cT X.K (qOrP tA tB')) := PW.wk (pw_or ha hb) fun σ H KQ h => by
  obtain ⟨ρ, G, Q, e, a, q, f⟩ := h
  refine ⟨ρ, G, _, e, a, q, fun b H1 G1 k1 a1 q1 => ?_⟩
  obtain ⟨d, hd, q1⟩ := q1
  cases b with
  | true => exact f true H1 G1 k1 a1 q1
  | false => exact ⟨ρ, G1, _, e.mono k1, a1, hd, fun b H2 G2 k2 a2 ⟨e1, e2⟩ => by subst e1 e2; exact f b H2 _ (k1.trans k2) a2 q1⟩
theorem w_andP (ha : PT X a (cT X.K tA)) (hb : PW X (.BoolOp .And (b :: rest) pos) (cT X.K tB')) : PW X (.BoolOp .And (a :: b :: rest) pos) (cT X.K (qAndP tA tB')) := PW.wk (pw_and ha hb) fun σ H KQ h => by
  obtain ⟨ρ, G, Q, e, a, q, f⟩ := h
  refine ⟨ρ, G, _, e, a, q, fun b H1 G1 k1 a1 q1 => ?_⟩
  obtain ⟨d, hd, q1⟩ := q1
  cases b with
  | false => exact f false H1 G1 k1 a1 q1
  | true => exact ⟨ρ, G1, _, e.mono k1, a1, hd, fun b H2 G2 k2 a2 ⟨e1, e2⟩ => by subst e1 e2; exact f b H2 _ (k1.trans k2) a2 q1⟩
end
end Lw

set_option Elab.async false
set_option linter.all false
set_option maxRecDepth 100000
set_option maxHeartbeats 4000000
namespace Lw
open PySem PySem.Spec PyProof.Rows L2
/-! ### tuple * n, n from nought on -/
theorem tuple_mulS (l : Addr) (items : Array Value) (n : Nat) (dd : Option Addr) (sl : Array (Option Value)) (x : Int) (u : Tok) (c0 : (decide (x < -(2 ^ 63)) || decide (x ≥ 2 ^ 63)) = false) (c1 : (items.isEmpty || x == 1) = true) :
    Meets (Builtin.«tuple.__mul__» ⟨[.ref l, .int x u], []⟩) (fun _ R s => s.heap.get? l = some { cls := .type "tuple", dict := dd, data := .seq items n, slots := sl } ∧
      R (.ok (.ret (Value.ref l))) s) :=
  .of_wp fun prog w A R s h => by
    obtain ⟨hp, g, d, tk, os⟩ := s
    obtain ⟨hl, h⟩ := h
    have f1 := AutoSeq1.idx_int
    wp_walk using wpAny_loadPart' hl
    repeat (first
      | (refine wpAny_ite_false (decide_eq_false (by rw [c0]; exact Bool.false_ne_true)) ?_; wp_walk using wpAny_loadPart' hl)
      | (refine wpAny_ite_true (decide_eq_true (by rw [c1])) ?_; wp_walk using wpAny_loadPart' hl))
    exact ⟨_, rfl, h⟩

theorem tuple_mul0 (l : Addr) (items : Array Value) (n : Nat) (dd : Option Addr) (sl : Array (Option Value)) (x : Int) (u : Tok) (c0 : (decide (x < -(2 ^ 63)) || decide (x ≥ 2 ^ 63)) = false) (c1 : (items.isEmpty || x == 1) = false) (c2 : (decide (x ≤ 0) || items.isEmpty) = true) :
    Meets (Builtin.«tuple.__mul__» ⟨[.ref l, .int x u], []⟩) (fun _ R s => s.heap.get? l = some { cls := .type "tuple", dict := dd, data := .seq items n, slots := sl } ∧
      R (.ok (.ret (Value.ref s.heap.objs.size))) { s with heap := s.heap.push { cls := Value.type "tuple", data := Data.seq #[] }, toks := s.toks }) :=
  .of_wp fun prog w A R s h => by
    obtain ⟨hp, g, d, tk, os⟩ := s
    obtain ⟨hl, h⟩ := h
    have f1 := AutoSeq1.idx_int
    wp_walk using wpAny_loadPart' hl
    repeat (first
      | (refine wpAny_ite_false (decide_eq_false (by rw [c0]; exact Bool.false_ne_true)) ?_; wp_walk using wpAny_loadPart' hl)
      | (refine wpAny_ite_false (decide_eq_false (by rw [c1]; exact Bool.false_ne_true)) ?_; wp_walk using wpAny_loadPart' hl)
      | (refine wpAny_ite_true (decide_eq_true (by rw [c2])) ?_; wp_walk using wpAny_loadPart' hl))
    exact ⟨_, rfl, h⟩
section
variable {X : Cx}
/-- t * 1, () * n: the tuple itself -/
def rRepS (K : PySem.W.Frag) : R2 := fun x y H Q => ∃ l k xs, x = .ref l ∧ y = .int k ∧ SqT K H l xs ∧ (xs = [] ∨ k = 1) ∧ 0 ≤ k ∧ k ≤ 1000 ∧ Q (.ref l) H
theorem op_repS : OpR X (binaryOp .Mult) (rRepS X.K) := by
  intro pins s σ H x y v u Q I rx ry h
  obtain ⟨l, k, xs, rfl, rfl, hT, hne, h1, h2, q⟩ := h
  cases rx
  obtain ⟨t, rfl⟩ := ry
  obtain ⟨its, r, ⟨⟨cls, dd, data, sl⟩, ho, hc, n, hd⟩, hs⟩ := I.tuple hT
  simp only at hc hd
  subst hc hd
  have hle : its.length = xs.length := r.length.symm
  have c0 : (decide (k < -(2 ^ 63)) || decide (k ≥ 2 ^ 63)) = false := by
    rw [decide_eq_false (by omega), decide_eq_false (by omega)] <;> rfl
  have c1 : (its.toArray.isEmpty || k == 1) = true := by
    rcases hne with z | z
    · subst z
      cases its with
      | nil => rfl
      | cons a b => cases hle
    · subst z; simp
  refine wpAny_binaryOp_repeat_ref (T := "tuple") (U := "int") (by decide) ⟨_, ho, rfl⟩ (fun s' => typeIs_int s' k t) noFill_tuple_mul F.fills_int_mul F.slot_int_rmul repeat_tuple F.slot_int_index.lookup
    (call_meets F.slot_int_rmul (typeIs_int s k t) F.entry_int_rmul (F.args_int_rmul_2 _ _) (int_rmul_tuple k t l its.toArray n dd sl)
      ⟨ho, rfl, ⟨_, ho, rfl⟩, call_meets F.slot_tuple_mul ⟨_, ho, rfl⟩ F.entry_tuple_mul (F.args_tuple_mul_2 _ _) (tuple_mulS l its.toArray n dd sl k t c0 c1) ⟨ho, ?_⟩⟩)
  exact ⟨.ref l, _, I, rfl, q⟩
/-- t * 0 -/
def rRep0 (K : PySem.W.Frag) : R2 := fun x y H Q => ∃ l xs, x = .ref l ∧ y = .int 0 ∧ SqT K H l xs ∧ xs ≠ [] ∧ ∀ p, H p = none → Q (.ref p) (upd H p (.tup []))
theorem op_rep0 : OpR X (binaryOp .Mult) (rRep0 X.K) := by
  intro pins s σ H x y v u Q I rx ry h
  obtain ⟨l, xs, rfl, rfl, hT, hne, q⟩ := h
  cases rx
  obtain ⟨t, rfl⟩ := ry
  obtain ⟨its, r, ⟨⟨cls, dd, data, sl⟩, ho, hc, n, hd⟩, hs⟩ := I.tuple hT
  simp only at hc hd
  subst hc hd
  have hle : its.length = xs.length := r.length.symm
  have hn : its ≠ [] := fun e => hne (by
    rw [e] at hle
    exact List.eq_nil_of_length_eq_zero hle.symm)
  have hi : its.toArray.isEmpty = false := by
    cases its with
    | nil => exact absurd rfl hn
    | cons a b => rfl
  have c1 : (its.toArray.isEmpty || (0 : Int) == 1) = false := by rw [hi]; rfl
  have c2 : (decide ((0 : Int) ≤ 0) || its.toArray.isEmpty) = true := by rw [hi]; rfl
  refine wpAny_binaryOp_repeat_ref (T := "tuple") (U := "int") (by decide) ⟨_, ho, rfl⟩ (fun s' => typeIs_int s' 0 t) noFill_tuple_mul F.fills_int_mul F.slot_int_rmul repeat_tuple F.slot_int_index.lookup
    (call_meets F.slot_int_rmul (typeIs_int s 0 t) F.entry_int_rmul (F.args_int_rmul_2 _ _) (int_rmul_tuple 0 t l its.toArray n dd sl)
      ⟨ho, rfl, ⟨_, ho, rfl⟩, call_meets F.slot_tuple_mul ⟨_, ho, rfl⟩ F.entry_tuple_mul (F.args_tuple_mul_2 _ _) (tuple_mul0 l its.toArray n dd sl 0 t (by decide) c1 c2) ⟨ho, ?_⟩⟩)
  refine ⟨.ref s.heap.objs.size, _, I.laid (t' := s.toks) (o := .tup []) (fun b ob q => Heap.get?_push_of_some _ q) (Nat.le_refl _) ?_, rfl, q _ (I.hok.fresh (Nat.le_refl _))⟩
  exact ⟨by rw [sizeLine_eq]; exact Nat.zero_le _, [], .nil, IsTup.new _ _⟩
/-- * of ints; tuple * n, n from 0 to 1000 -/
def fMul2 : Q2 := fun x y G Q => match x, y with
  | .int i, .int j => MulOk i j ∧ Q (.int (i * j)) G
  | .tup ts, .int k => 0 ≤ k ∧ k ≤ 1000 ∧ ts.length ≤ 1000 ∧ Q (.tup (List.replicate k.toNat ts).flatten) G
  | _, _ => False
theorem o_mul2 : OpR X (binaryOp .Mult) (c2 X.K fMul2) := by
  intro pins s σ H v w u u' KQ I rv rw' h2
  obtain ⟨x, y, G, Q, hx, hy, ha, hf, hk⟩ := h2
  unfold fMul2 at hf
  split at hf
  · exact op_mulW pins s σ H v w u u' KQ I rv rw' ⟨_, _, hx, hy, hf.1.w, hk _ H (.int _) G (Tups.refl H) ha rfl hf.2⟩
  · rename_i ts k
    obtain ⟨h2, h3, h4, hf⟩ := hf
    by_cases hs : ts = [] ∨ k = 1
    · have hf' : Q (.tup ts) G := by
        have e : (List.replicate k.toNat ts).flatten = ts := by
          rcases hs with z | z
          · subst z; simp
          · subst z; simp
        rw [e] at hf; exact hf
      obtain ⟨p, vs, rfl, hp, r⟩ := hx
      refine op_repS pins s σ H _ _ u u' KQ I rv rw' ⟨p, k, vs, rfl, hy, SqT.of hp, ?_, h2, h3, hk _ H (.tup ts) G (Tups.refl H) ha ⟨p, vs, rfl, hp, r⟩ hf'⟩
      rcases hs with z | z
      · subst z; exact .inl (List.eq_nil_of_length_eq_zero r.length)
      · exact .inr z
    · by_cases hz : k = 0
      · subst hz
        obtain ⟨p, vs, rfl, hp, r⟩ := hx
        refine op_rep0 pins s σ H _ _ u u' KQ I rv rw' ⟨p, vs, rfl, hy, SqT.of hp, fun e => hs (.inl (by subst e; exact List.eq_nil_of_length_eq_zero r.length.symm)), fun l hl => ?_⟩
        have kk : Tups H (upd H l (.tup [])) := Tups.new hl
        exact hk _ _ (.tup []) G kk (ha.grow hl) ⟨l, [], rfl, upd_same, rfl⟩ hf
      · refine o_mul pins s σ H v w u u' KQ I rv rw' ⟨.tup ts, .int k, G, Q, hx, hy, ha, ⟨fun e => hs (.inl e), by omega, h3, h4, hf⟩, hk⟩
  · exact hf.elim
/-! ### a test that is one or the other -/
def tIfT (t ta tb : TT) : TT := fun σ H Q => t σ H fun c H1 => if c = true then ta σ H1 Q else tb σ H1 Q
theorem pt_ifExp {c a b : Expr} {tA ta tb : TT} {pos : Pos} (hc : PT X c tA) (ha : PT X a ta) (hb : PT X b tb) : PT X (.IfExp c a b pos) (tIfT tA ta tb) := by
  refine ⟨fun pins s σ H Q I h => ?_⟩
  refine isTrue_IfExp (thn (hc.run pins s σ H _ I h) fun d s1 ⟨H1, I1, q1⟩ => ?_)
  cases d with
  | true => exact ha.run pins s1 σ H1 Q I1 q1
  | false => exact hb.run pins s1 σ H1 Q I1 q1
def qIfT (t ta tb : QT) : QT := fun ρ G Q => t ρ G fun c G1 => (c = true → ta ρ G1 Q) ∧ (c = false → tb ρ G1 Q)
theorem t_if {c a b : Expr} {tA ta tb : QT} {pos : Pos} (hc : PT X c (cT X.K tA)) (ha : PT X a (cT X.K ta)) (hb : PT X b (cT X.K tb)) : PT X (.IfExp c a b pos) (cT X.K (qIfT tA ta tb)) := PT.wk (pt_ifExp hc ha hb) fun σ H KQ h => by
  obtain ⟨ρ, G, Q, e, a, q, f⟩ := h
  refine ⟨ρ, G, _, e, a, q, fun b H1 G1 k1 a1 q1 => ?_⟩
  cases b with
  | true => exact ⟨ρ, G1, Q, e.mono k1, a1, q1.1 rfl, fun b H' G' k2 => f b H' G' (k1.trans k2)⟩
  | false => exact ⟨ρ, G1, Q, e.mono k1, a1, q1.2 rfl, fun b H' G' k2 => f b H' G' (k1.trans k2)⟩
/-! ### name += int -/
def qAugI (i : Nat) (qe : QE) : QS := fun D ρ G => match nth ρ i with
  | some (some (.int a)) => qe ρ G fun y G1 => match y with
    | .int b => putK ρ i (some (.int (a + b))) fun ρ1 => D.nx ρ1 G1
    | _ => False
  | _ => False
theorem s_augI {i : Nat} {x : Str} {e : Expr} {qe : QE} {pos' pos : Pos} (hN : X.N.Nodup) (hi : X.N[i]? = some x) (hx : Loc X.env.scope x) (he : PE X e (cE X.K qe)) (hf : X.fn x = true ∨ X.env.scope.names.lookup x = some .local := by first | exact .inl rfl | exact .inr rfl | assumption) :
    PS X (.AugAssign (.Name x pos') .Add e pos) (cS X.K (qAugI i qe)) := PS.wk (ps_aug hN hi hx he ip_add hf) fun D σ H h => by
  obtain ⟨ρ, G, D', e, a, q, f⟩ := h
  unfold qAugI at q
  split at q
  · rename_i n hn
    obtain ⟨v, hv, rv⟩ := e.get hn
    cases rv
    refine ⟨.int n, hv, ρ, G, _, e, a, q, fun v H1 t G1 k1 a1 r1 q1 => ?_⟩
    split at q1
    · rename_i m
      cases r1
      exact ⟨n, m, rfl, rfl, f.nx _ H1 _ G1 k1 ((e.mono k1).put (show Rp X.K H1 (.int (n + m)) (.int (n + m)) from rfl) i) a1 (putK_put q1)⟩
    · exact q1.elim
  · exact q.elim
end
end Lw

set_option Elab.async false
set_option linter.all false
set_option maxRecDepth 100000
set_option maxHeartbeats 4000000
namespace Lw
open PySem PySem.Spec PyProof.Rows L2
theorem un65 {k : Nat} {A : Around} (r : Room k A) : A.units + 65 < cLine := by have := r.un; omega
section
variable {X : Cx}
/-! ### x in a list of data -/
theorem any_eqv (x : T) (hx : okT x = true) : ∀ ts : List T, okTs ts = true → ((pdTs ts).any fun z => PyData.eqv z (pdT x)) = ts.any fun t => teq t x
  | [], _ => rfl
  | t :: ts, h => by
    have h' : okT t = true ∧ okTs ts = true := by
      have : (okT t && okTs ts) = true := h
      exact (Bool.and_eq_true _ _).mp this
    show (PyData.eqv (pdT t) (pdT x) || (pdTs ts).any fun z => PyData.eqv z (pdT x)) = (teq t x || ts.any fun t => teq t x)
    rw [any_eqv x hx ts h'.2, pd_eqv t x h'.1 hx]
def fIn (neg : Bool) : Q2 := fun x y G Q => match y with
  | .ref a => ∃ ts, G a = some (.lst ts) ∧ eqOks ts = true ∧ eqOk x = true ∧ Q (.bl (neg != ts.any fun t => teq t x)) G
  | _ => False
theorem o_in (hu : X.A.units + 65 < cLine) : OpR X (compareOp .In) (c2 X.K (fIn false)) := by
  intro pins s σ H v w u u' KQ I rv rw' h2
  obtain ⟨x, y, G, Q, hx, hy, ha, hf, hk⟩ := h2
  unfold fIn at hf
  split at hf
  · obtain ⟨ts, hg, o1, o2, q⟩ := hf
    cases hy
    refine op_inD hu pins s σ H _ _ u u' KQ I rv rw' ⟨_, _, pd_dp _ _ (eqOk_ok o2) hx, ha.dlist hg (eqOks_ok o1), shp (eqOk_ok o2) (eqOk_dp o2), shpL (eqOks_ok o1) (eqOks_dp o1), ?_⟩
    rw [any_eqv x (eqOk_ok o2) ts (eqOks_ok o1)]
    exact hk _ H (.bl _) G (Tups.refl H) ha rfl (by rw [Bool.false_bne] at q; exact q)
  · exact hf.elim
theorem o_notin (hu : X.A.units + 65 < cLine) : OpR X (compareOp .NotIn) (c2 X.K (fIn true)) := by
  intro pins s σ H v w u u' KQ I rv rw' h2
  obtain ⟨x, y, G, Q, hx, hy, ha, hf, hk⟩ := h2
  unfold fIn at hf
  split at hf
  · obtain ⟨ts, hg, o1, o2, q⟩ := hf
    cases hy
    refine op_notInD hu pins s σ H _ _ u u' KQ I rv rw' ⟨_, _, pd_dp _ _ (eqOk_ok o2) hx, ha.dlist hg (eqOks_ok o1), shp (eqOk_ok o2) (eqOk_dp o2), shpL (eqOks_ok o1) (eqOks_dp o1), ?_⟩
    rw [any_eqv x (eqOk_ok o2) ts (eqOks_ok o1)]
    exact hk _ H (.bl _) G (Tups.refl H) ha rfl (by rw [Bool.true_bne] at q; exact q)
  · exact hf.elim
/-! ### max of a list of ints -/
def intsOf : List T → Option (List Int)
  | [] => some []
  | .int i :: ts => (intsOf ts).map (i :: ·)
  | _ => none
def fMaxL : QC := fun ts G Q => match ts with
  | [.ref a] => ∃ ns : List Int, G a = some (.lst (ns.map T.int)) ∧ ns ≠ [] ∧ ∀ m, m ∈ ns → (∀ y, y ∈ ns → y ≤ m) → Q (.int m) G
  | _ => False
theorem b_max1 (hc : X.calm = true) : CallR X (.builtin "max") (cC X.K fMaxL) := by
  intro pins s σ H vs us KQ I r h
  obtain ⟨ts, G, Q, hr, ha, hf, hk⟩ := h
  unfold fMaxL at hf
  split at hf
  · obtain ⟨ns, hg, hne, q⟩ := hf
    obtain ⟨v, rfl, h1⟩ := rpl1 hr
    cases h1
    obtain ⟨vs, hp, r'⟩ := ha _ _ hg
    have e := r'.ints
    subst e
    exact cr_max hc pins s σ H _ us KQ I r ⟨_, ns, rfl, SqL.of hp, List.length_pos_iff.mpr hne, fun m h1 h2 => hk _ H (.int m) G (Tups.refl H) ha rfl (q m h1 h2)⟩
  · exact hf.elim
/-! ### a list's methods -/
abbrev QM := T → List T → Gp → TK → Prop
def cM (K : PySem.W.Frag) (f : QM) : V → List V → Hp → VK → Prop := fun v vs H KQ => ∃ x ts G Q, Rp K H x v ∧ RpL K H ts vs ∧ Abs K H G ∧ f x ts G Q ∧ Fol K H Q KQ
def qBM (f : QM) (qo : QE) (qa : QA) : QE := fun ρ G Q => qo ρ G fun x G1 => match x with
  | .ref a => (∃ xs, G1 a = some (.lst xs)) ∧ qa ρ G1 fun ts G2 => f (.ref a) ts G2 Q
  | _ => False
theorem e_bm {o e : Expr} {es : List Expr} {qo : QE} {qa : QA} {name : Str} {apos cpos : Pos} {id : String} {f : QM} (pa : PlainAttrs "list") (slot : Slot "list" name id) (hty : typeOf (.builtin id) = pure (.type "method_descriptor")) (hm : MtR X id (cM X.K f)) (ho : PE X o (cE X.K qo)) (ha : PA X (e :: es) (cA X.K qa))
    (hbase : attributeBase o name X.env (eval o X.env) = eval o X.env := by rfl)
    (hfew : ((backTo cpos (starEach (e :: es) X.env)).all (fun x => !x.1) && (backToKw cpos (keywordEach [] X.env)).all (fun x => x.1.isSome)
      && decide ((e :: es).length + ([] : List Keyword).length + (if ([] : List Keyword).isEmpty then 0 else 1) < 30)) = true := by rfl)
    (hline : (apos.endLine == cpos.line) = true := by rfl) (hs : starEach (e :: es) X.env = (false, eval e X.env) :: starEach es X.env := by rfl) (hplain : (backTo cpos (starEach es X.env)).any (·.1) = false := by rfl) :
    PE X (.Call (.Attribute o name apos) (e :: es) [] cpos) (cE X.K (qBM f qo qa)) := PE.wk (pe_bm pa slot hty hm ho ha hbase hfew hline hs hplain) fun σ H KQ h => by
  obtain ⟨ρ, G, Q, e, a, q, g⟩ := h
  refine ⟨ρ, G, _, e, a, q, fun v H1 t G1 k1 a1 r1 q1 => ?_⟩
  split at q1
  · rename_i p
    obtain ⟨⟨xs, hg⟩, q1⟩ := q1
    cases r1
    obtain ⟨vs, hp, r⟩ := a1 _ _ hg
    refine ⟨.inl ⟨rfl, _, SqL.of hp⟩, ρ, G1, _, e.mono k1, a1, q1, fun vs H2 ts G2 k2 a2 r2 q2 => ?_⟩
    exact ⟨.ref p, ts, G2, Q, rfl, r2, a2, q2, g.from (k1.trans k2)⟩
  · exact q1.elim
def fAppend : QM := fun x ts G Q => match x, ts with
  | .ref a, [y] => ∃ xs, G a = some (.lst xs) ∧ xs.length < 100000 ∧ Q .non (gput G a (.lst (xs ++ [y])))
  | _, _ => False
theorem m_append : MtR X "list.append" (cM X.K fAppend) := by
  intro pins s σ H x xs v us KQ I rv rs h
  obtain ⟨t, ts, G, Q, hx, hr, ha, hf, hk⟩ := h
  unfold fAppend at hf
  split at hf
  · obtain ⟨ys, hg, hz, q⟩ := hf
    cases hx
    obtain ⟨w, rfl, hw⟩ := rpl1 hr
    obtain ⟨vs, hp, r⟩ := ha _ _ hg
    have wr : Wr H _ := Wr.of hp (fun _ z => by cases z) (fun _ _ z => by cases z)
    have k := Tups.set (o := .lst (vs ++ [w])) wr
    refine mt_append pins s σ H _ _ v us KQ I rv rs ⟨_, vs, w, rfl, rfl, hp, by rw [r.length]; exact Nat.lt_of_lt_of_le hz (sz100 (Nat.le_refl _)), ?_⟩
    exact hk _ _ .non _ k (ha.put (o := .lst (ys ++ [_])) wr ⟨_, upd_same, (r.append (RpL.one hw)).mono k⟩) rfl q
  · exact hf.elim
end
end Lw

set_option Elab.async false
set_option linter.all false
set_option maxRecDepth 100000
set_option maxHeartbeats 4000000
namespace Lw
open PySem PySem.Spec PyProof.Rows L2
/-! ### the order of data: ints, texts, tuples of such, by a code -/
def cdS : List Nat → List Int
  | [] => [0]
  | c :: cs => 1 :: (c : Int) :: cdS cs
mutual
def cdP : PyData → List Int
  | .int i => [i]
  | .str x => cdS x.cps.toList
  | .tuple ds => cdPs ds
  | _ => []
def cdPs : List PyData → List Int
  | [] => [0]
  | d :: ds => 1 :: (cdP d ++ cdPs ds)
end
mutual
def cmpb : PyData → PyData → Bool
  | .int _, .int _ => true
  | .str _, .str _ => true
  | .tuple xs, .tuple ys => cmpbs xs ys
  | _, _ => false
def cmpbs : List PyData → List PyData → Bool
  | x :: xs, y :: ys => cmpb x y && cmpbs xs ys
  | _, _ => true
end
abbrev plt (x y : PyData) : Bool := HT.lexLt (cdP x) (cdP y)
theorem lex_same : ∀ (l r s : List Int), HT.lexLt (l ++ r) (l ++ s) = HT.lexLt r s
  | [], _, _ => rfl
  | a :: l, r, s => by rw [List.cons_append, List.cons_append, HT.lexLt_cons, if_pos rfl, lex_same l r s]
theorem cdS_ne : ∀ (x y : List Nat) (r s : List Int), x ≠ y → HT.lexLt (cdS x ++ r) (cdS y ++ s) = decide (x < y)
  | [], [], _, _, h => absurd rfl h
  | [], b :: y, r, s, _ => by
    show HT.lexLt (0 :: r) (1 :: ((b : Int) :: cdS y ++ s)) = _
    rw [HT.lexLt_cons, if_neg (by decide), decide_eq_true (List.nil_lt_cons b y)]; rfl
  | a :: x, [], r, s, _ => by
    show HT.lexLt (1 :: ((a : Int) :: cdS x ++ r)) (0 :: s) = _
    rw [HT.lexLt_cons, if_neg (by decide), decide_eq_false (List.not_lt_nil _)]; rfl
  | a :: x, b :: y, r, s, h => by
    show HT.lexLt (1 :: ((a : Int) :: (cdS x ++ r))) (1 :: ((b : Int) :: (cdS y ++ s))) = _
    rw [HT.lexLt_cons, if_pos rfl, HT.lexLt_cons]
    by_cases e : a = b
    · subst e
      rw [if_pos rfl, cdS_ne x y r s (fun z => h (by rw [z]))]
      have q : (a :: x < a :: y) ↔ x < y := by rw [List.cons_lt_cons_iff]; simp
      exact decide_eq_decide.mpr q.symm
    · rw [if_neg (by omega)]
      have q : (a :: x < b :: y) ↔ a < b := by rw [List.cons_lt_cons_iff]; simp [e]
      exact decide_eq_decide.mpr (by rw [q]; omega)
mutual
theorem cd_eq : ∀ x y : PyData, cmpb x y = true → PyData.eqv x y = true → x = y
  | .int i, .int j, _, h => by simp only [PyData.eqv, beq_iff_eq] at h; rw [h]
  | .str i, .str j, _, h => congrArg PyData.str (eq_of_beq (show (i == j) = true from by simpa only [PyData.eqv] using h))
  | .tuple xs, .tuple ys, h, h2 => by
    have h2' : PyData.eqvAll xs ys = true := by simpa only [PyData.eqv] using h2
    rw [cds_eq xs ys h h2']
theorem cds_eq : ∀ xs ys : List PyData, cmpbs xs ys = true → PyData.eqvAll xs ys = true → xs = ys
  | [], [], _, _ => rfl
  | [], _ :: _, _, h => by simp [PyData.eqvAll] at h
  | _ :: _, [], _, h => by simp [PyData.eqvAll] at h
  | x :: xs, y :: ys, h, h2 => by
    have h' : cmpb x y = true ∧ cmpbs xs ys = true := by
      have : (cmpb x y && cmpbs xs ys) = true := h
      exact (Bool.and_eq_true _ _).mp this
    have h2' : PyData.eqv x y = true ∧ PyData.eqvAll xs ys = true := by simpa [PyData.eqvAll] using h2
    rw [cd_eq x y h'.1 h2'.1, cds_eq xs ys h'.2 h2'.2]
end
mutual
theorem eqv_self : ∀ x y : PyData, cmpb x y = true → x = y → PyData.eqv x y = true
  | .int i, .int j, _, h => by cases h; simp [PyData.eqv]
  | .str i, .str j, _, h => by cases h; simp [PyData.eqv]
  | .tuple xs, .tuple ys, h, h2 => by
    cases h2
    simp only [PyData.eqv]
    exact eqvs_self xs xs h rfl
theorem eqvs_self : ∀ xs ys : List PyData, cmpbs xs ys = true → xs = ys → PyData.eqvAll xs ys = true
  | [], [], _, _ => by simp [PyData.eqvAll]
  | [], _ :: _, _, h => by cases h
  | _ :: _, [], _, h => by cases h
  | x :: xs, y :: ys, h, h2 => by
    have h' : cmpb x y = true ∧ cmpbs xs ys = true := by
      have : (cmpb x y && cmpbs xs ys) = true := h
      exact (Bool.and_eq_true _ _).mp this
    cases h2
    simp [PyData.eqvAll, eqv_self x x h'.1 rfl, eqvs_self xs xs h'.2 rfl]
end
mutual
theorem cd_ne : ∀ (x y : PyData) (r s : List Int), cmpb x y = true → PyData.eqv x y = false → HT.lexLt (cdP x ++ r) (cdP y ++ s) = plt x y
  | .int i, .int j, r, s, _, h => by
    have hn : i ≠ j := fun z => by subst z; simp [PyData.eqv] at h
    show HT.lexLt (i :: r) (j :: s) = HT.lexLt [i] [j]
    rw [HT.lexLt_cons, HT.lexLt_cons, if_neg hn, if_neg hn]
  | .str i, .str j, r, s, _, h => by
    have hn : i.cps.toList ≠ j.cps.toList := fun z => by
      have hc : i.cps = j.cps := Array.toList_inj.mp z
      have : i = j := by cases i; cases j; simpa using hc
      subst this; simp [PyData.eqv] at h
    show HT.lexLt (cdS _ ++ r) (cdS _ ++ s) = HT.lexLt (cdS _) (cdS _)
    rw [cdS_ne _ _ _ _ hn, ← List.append_nil (cdS i.cps.toList), ← List.append_nil (cdS j.cps.toList), cdS_ne _ _ _ _ hn]
  | .tuple xs, .tuple ys, r, s, h, h2 => cds_ne xs ys r s h (by simpa only [PyData.eqv] using h2)
theorem cds_ne : ∀ (xs ys : List PyData) (r s : List Int), cmpbs xs ys = true → PyData.eqvAll xs ys = false → HT.lexLt (cdPs xs ++ r) (cdPs ys ++ s) = HT.lexLt (cdPs xs) (cdPs ys)
  | [], [], _, _, _, h => by simp [PyData.eqvAll] at h
  | [], y :: ys, r, s, _, _ => by
    show HT.lexLt (0 :: r) (1 :: (cdP y ++ cdPs ys ++ s)) = HT.lexLt [0] (1 :: (cdP y ++ cdPs ys))
    rw [HT.lexLt_cons, HT.lexLt_cons]; rfl
  | x :: xs, [], r, s, _, _ => by
    show HT.lexLt (1 :: (cdP x ++ cdPs xs ++ r)) (0 :: s) = HT.lexLt (1 :: (cdP x ++ cdPs xs)) [0]
    rw [HT.lexLt_cons, HT.lexLt_cons]; rfl
  | x :: xs, y :: ys, r, s, h, h2 => by
    have h' : cmpb x y = true ∧ cmpbs xs ys = true := by
      have : (cmpb x y && cmpbs xs ys) = true := h
      exact (Bool.and_eq_true _ _).mp this
    show HT.lexLt (1 :: (cdP x ++ cdPs xs ++ r)) (1 :: (cdP y ++ cdPs ys ++ s)) = HT.lexLt (1 :: (cdP x ++ cdPs xs)) (1 :: (cdP y ++ cdPs ys))
    rw [HT.lexLt_cons, HT.lexLt_cons, if_pos rfl, if_pos rfl]
    cases e : PyData.eqv x y with
    | true =>
      have ex := cd_eq x y h'.1 e
      subst ex
      have e2 : PyData.eqvAll xs ys = false := by simpa [PyData.eqvAll, e] using h2
      rw [List.append_assoc, List.append_assoc, lex_same, lex_same, cds_ne xs ys r s h'.2 e2]
    | false =>
      rw [List.append_assoc, List.append_assoc, cd_ne x y _ _ h'.1 e, cd_ne x y _ _ h'.1 e]
end
theorem plt_tup_nil {y : PyData} {ys : List PyData} : HT.lexLt (cdPs []) (cdPs (y :: ys)) = true := by
  show HT.lexLt [0] (1 :: (cdP y ++ cdPs ys)) = true
  rw [HT.lexLt_cons, if_neg (by decide)]; rfl
theorem plt_tup_nil2 {x : PyData} {xs : List PyData} : HT.lexLt (cdPs (x :: xs)) (cdPs []) = false := by
  show HT.lexLt (1 :: (cdP x ++ cdPs xs)) [0] = false
  rw [HT.lexLt_cons, if_neg (by decide)]; rfl
theorem plt_tup_cons {x y : PyData} {xs ys : List PyData} (h : cmpb x y = true) : HT.lexLt (cdPs (x :: xs)) (cdPs (y :: ys)) = if PyData.eqv x y = true then HT.lexLt (cdPs xs) (cdPs ys) else plt x y := by
  show HT.lexLt (1 :: (cdP x ++ cdPs xs)) (1 :: (cdP y ++ cdPs ys)) = _
  rw [HT.lexLt_cons, if_pos rfl]
  cases e : PyData.eqv x y with
  | true =>
    have ex := cd_eq x y h e
    subst ex
    rw [lex_same, if_pos rfl]
  | false => rw [cd_ne x y _ _ h e, if_neg Bool.false_ne_true]
theorem lexAt_shift {e r : Nat → Bool} {z : Bool} : ∀ (k i : Nat), Ob.lexAt e r z (i + 1) k = Ob.lexAt (fun j => e (j + 1)) (fun j => r (j + 1)) z i k
  | 0, _ => rfl
  | k + 1, i => by rw [Ob.lexAt_succ, Ob.lexAt_succ, lexAt_shift k (i + 1)]
abbrev pairLt (xs ys : List PyData) (j : Nat) : Bool := plt (xs.getD j .none) (ys.getD j .none)
theorem lexAt_cd : ∀ (xs ys : List PyData), cmpbs xs ys = true → Ob.lexAt (SeqAt.pairEq xs ys) (pairLt xs ys) (decide (xs.length < ys.length)) 0 (min xs.length ys.length) = HT.lexLt (cdPs xs) (cdPs ys)
  | [], [], _ => by
    show false = HT.lexLt [0] [0]
    rw [HT.lexLt_cons, if_pos rfl]; rfl
  | [], y :: ys, _ => by rw [plt_tup_nil]; simp [Ob.lexAt]
  | x :: xs, [], _ => by rw [plt_tup_nil2]; simp [Ob.lexAt]
  | x :: xs, y :: ys, h => by
    have h' : cmpb x y = true ∧ cmpbs xs ys = true := by
      have : (cmpb x y && cmpbs xs ys) = true := h
      exact (Bool.and_eq_true _ _).mp this
    have em : min (x :: xs).length (y :: ys).length = min xs.length ys.length + 1 := by simp only [List.length_cons]; omega
    rw [em, Ob.lexAt_succ, lexAt_shift, plt_tup_cons h'.1]
    have ez : decide ((x :: xs).length < (y :: ys).length) = decide (xs.length < ys.length) := decide_eq_decide.mpr (by simp only [List.length_cons]; omega)
    rw [ez]
    show (if PyData.eqv x y = true then Ob.lexAt (SeqAt.pairEq xs ys) (pairLt xs ys) _ 0 _ else plt x y) = _
    rw [lexAt_cd xs ys h'.2]
/-! ### < of data in the model -/
section
open PySem.SeqAt
theorem rc_ltI : ∀ (i j : Int) (A : Around) (s : Shared) (a b : Value) (as bs : List Addr), Reads s.heap a (.int i) as → Reads s.heap b (.int j) bs → Ob.RcOp .Lt A s a b (plt (.int i) (.int j))
  | i, j, A, s, _, _, _, _, ra, rb => by
    cases ra; cases rb
    have e : plt (.int i) (.int j) = decide (i < j) := by
      show HT.lexLt [i] [j] = _
      rw [HT.lexLt_cons]
      by_cases h : i = j
      · subst h; simp [HT.lexLt]
      · rw [if_neg h]
    rw [e]
    exact Ob.RcOp.lt_int _ _ _ _
theorem plt_str (i j : Str) : plt (.str i) (.str j) = decide (i.cps.toList < j.cps.toList) := by
  show HT.lexLt (cdS _) (cdS _) = _
  by_cases h : i.cps.toList = j.cps.toList
  · rw [h]
    have := lex_same (cdS j.cps.toList) [] []
    rw [List.append_nil] at this
    rw [this, decide_eq_false (List.lt_irrefl _)]; rfl
  · rw [← List.append_nil (cdS i.cps.toList), ← List.append_nil (cdS j.cps.toList), cdS_ne _ _ _ _ h]
theorem rc_ltS : ∀ (i j : Str) (A : Around) (s : Shared) (a b : Value) (as bs : List Addr), Reads s.heap a (.str i) as → Reads s.heap b (.str j) bs → Ob.RcOp .Lt A s a b (plt (.str i) (.str j))
  | i, j, A, s, _, _, _, _, ra, rb => by
    cases ra; cases rb
    rw [plt_str]
    exact fun _ _ _ _ h => P.lt_str h
/-- the items of two lists, compared -/
def LtAll (xs ys : List PyData) : Prop := ∀ (A : Around) (s : Shared) (vs ws : List Value) (as bs : List Addr), ReadsAll s.heap vs xs as → ReadsAll s.heap ws ys bs → cmpbs xs ys = true → PyData.canLayAll0 xs = true → PyData.canLayAll0 ys = true →
  A.units + min (PyData.depthAll xs) (PyData.depthAll ys) < cLine → ∀ j (h1 : j < vs.length) (h2 : j < ws.length), Ob.RcOp .Lt A s vs[j] ws[j] (pairLt xs ys j)
def LtOne (x y : PyData) : Prop := ∀ (A : Around) (s : Shared) (a b : Value) (as bs : List Addr), Reads s.heap a x as → Reads s.heap b y bs → cmpb x y = true → x.canLay0 = true → y.canLay0 = true →
  A.units + min x.depth y.depth < cLine → Ob.RcOp .Lt A s a b (plt x y)
theorem rc_ltT (xs ys : List PyData) (rec : LtAll xs ys) : LtOne (.tuple xs) (.tuple ys) := fun A s _ _ _ _ ra rb hc ha hb hu => by
  cases ra with
  | tuple h1 h2 h3 h4 =>
    cases rb with
    | tuple k1 k2 k3 k4 =>
      have hu' := room_in hu
      have l1 := ReadsAll.length _ _ _ h4
      have l2 := ReadsAll.length _ _ _ k4
      have q := Ob.RcOp.tuples_lt (A := A) (s := s) (e := pairEq xs ys) (r := pairLt xs ys) ⟨_, h1, h2, _, h3⟩ ⟨_, k1, k2, _, k3⟩ (room_here hu) (fun j j1 j2 => by
        have := eqAt_readsAll xs ys A.in1 s _ _ _ _ h4 k4 ha hb hu' j (by simpa using j1) (by simpa using j2)
        simpa using this) (fun j j1 j2 _ => by
        have := rec A.in1 s _ _ _ _ h4 k4 hc ha hb hu' j (by simpa using j1) (by simpa using j2)
        simpa using this)
      rw [Array.length_toList] at l1 l2
      rw [l1, l2, lexAt_cd xs ys hc] at q
      exact q
theorem ltOne_no {x y : PyData} (h : cmpb x y = false) : LtOne x y := fun _ _ _ _ _ _ _ _ hc => by rw [h] at hc; cases hc
theorem ltAll_cons {x y : PyData} {xs ys : List PyData} (h1 : LtOne x y) (h2 : LtAll xs ys) : LtAll (x :: xs) (y :: ys) := fun A s _ _ _ _ ra rb hc ha hb hu j j1 j2 => by
  have ha' : x.canLay0 = true ∧ PyData.canLayAll0 xs = true := by simpa [PyData.canLayAll0] using ha
  have hb' : y.canLay0 = true ∧ PyData.canLayAll0 ys = true := by simpa [PyData.canLayAll0] using hb
  have hc' : cmpb x y = true ∧ cmpbs xs ys = true := by
    have : (cmpb x y && cmpbs xs ys) = true := hc
    exact (Bool.and_eq_true _ _).mp this
  have hu : A.units + min (max x.depth (PyData.depthAll xs)) (max y.depth (PyData.depthAll ys)) < cLine := hu
  cases ra with
  | cons r rs =>
    cases rb with
    | cons r' rs' =>
      cases j with
      | zero => exact h1 A s _ _ _ _ r r' hc'.1 ha'.1 hb'.1 (room_head hu)
      | succ j => exact h2 A s _ _ _ _ rs rs' hc'.2 ha'.2 hb'.2 (room_tail hu) j (Nat.lt_of_succ_lt_succ j1) (Nat.lt_of_succ_lt_succ j2)
theorem ltAll_nil {ys : List PyData} : LtAll [] ys := fun _ _ _ _ _ _ ra _ _ _ _ _ j j1 _ => by cases ra; exact absurd j1 (Nat.not_lt_zero _)
theorem ltAll_nil2 {xs : List PyData} : LtAll xs [] := fun _ _ _ _ _ _ _ rb _ _ _ _ j _ j2 => by cases rb; exact absurd j2 (Nat.not_lt_zero _)
mutual
theorem rc_lt0 : ∀ (x y : PyData), LtOne x y
  | .int i, y => by
    cases y with
    | int j => exact fun A s a b as bs ra rb _ _ _ _ => rc_ltI i j A s a b as bs ra rb
    | _ => exact ltOne_no rfl
  | .str i, y => by
    cases y with
    | str j => exact fun A s a b as bs ra rb _ _ _ _ => rc_ltS i j A s a b as bs ra rb
    | _ => exact ltOne_no rfl
  | .tuple xs, y => by
    cases y with
    | tuple ys => exact rc_ltT xs ys (rc_lts0 xs ys)
    | _ => exact ltOne_no rfl
  | .none, y => by cases y <;> exact ltOne_no rfl
  | .bool _, y => by cases y <;> exact ltOne_no rfl
  | .list _, y => by cases y <;> exact ltOne_no rfl
  | .dict _, y => by cases y <;> exact ltOne_no rfl
theorem rc_lts0 : ∀ (xs ys : List PyData), LtAll xs ys
  | [], _ => ltAll_nil
  | x :: xs, ys => by
    cases ys with
    | nil => exact ltAll_nil2
    | cons y ys => exact ltAll_cons (rc_lt0 x y) (rc_lts0 xs ys)
end
theorem rc_lt (x y : PyData) (A : Around) (s : Shared) (a b : Value) (as bs : List Addr) (ra : Reads s.heap a x as) (rb : Reads s.heap b y bs) (hc : cmpb x y = true) (ha : x.canLay0 = true) (hb : y.canLay0 = true)
    (hu : A.units + min x.depth y.depth < cLine) : Ob.RcOp .Lt A s a b (plt x y) := rc_lt0 x y A s a b as bs ra rb hc ha hb hu
theorem rc_lts (xs ys : List PyData) (A : Around) (s : Shared) (vs ws : List Value) (as bs : List Addr) (ra : ReadsAll s.heap vs xs as) (rb : ReadsAll s.heap ws ys bs) (hc : cmpbs xs ys = true) (ha : PyData.canLayAll0 xs = true) (hb : PyData.canLayAll0 ys = true)
    (hu : A.units + min (PyData.depthAll xs) (PyData.depthAll ys) < cLine) (j : Nat) (h1 : j < vs.length) (h2 : j < ws.length) : Ob.RcOp .Lt A s vs[j] ws[j] (pairLt xs ys j) := rc_lts0 xs ys A s vs ws as bs ra rb hc ha hb hu j h1 h2
end
end Lw

set_option Elab.async false
set_option linter.all false
set_option maxRecDepth 100000
set_option maxHeartbeats 4000000
namespace Lw
open PySem PySem.Spec PyProof.Rows L2 PySem.Calls
open PySem.W (Looks)
section
variable {prog : Program} {w : World} {A : Around} {E : Value → Shared → Prop} {s : Shared}
/-- m ends in one way, changing nothing, with a value that is P -/
def Dtm (prog : Program) (w : World) (A : Around) (s : Shared) {α : Type} (m : Sem α) (P : α → Prop) : Prop := ∃ r, P r ∧ ∀ (Q : α → Shared → Prop) (E : Value → Shared → Prop), Q r s → wpAny (model prog w) A m Q E s
theorem Dtm.bind {α β : Type} {m : Sem α} {f : α → Sem β} {P : α → Prop} {P' : β → Prop} (h : Dtm prog w A s m P) (g : ∀ r, P r → Dtm prog w A s (f r) P') : Dtm prog w A s (m >>= f) P' := by
  obtain ⟨r, hr, k⟩ := h
  obtain ⟨r', hr', k'⟩ := g r hr
  exact ⟨r', hr', fun Q E q => wpAny_bind (k _ _ (k' Q E q))⟩
theorem Dtm.pure {α : Type} {r : α} {P : α → Prop} (h : P r) : Dtm prog w A s (Pure.pure r) P := ⟨r, h, fun Q E q => wpAny_pure q⟩
inductive All2 {α β : Type} (R : α → β → Prop) : List α → List β → Prop
  | nil : All2 R [] []
  | cons {a b l m} : R a b → All2 R l m → All2 R (a :: l) (b :: m)
theorem All2.memL {α β : Type} {R : α → β → Prop} {l : List α} {xs : List β} (h : All2 R l xs) : ∀ v ∈ l, ∃ x ∈ xs, R v x := by
  induction h with
  | nil => intro x m; cases m
  | cons r _ ih =>
    intro x m
    rcases List.mem_cons.mp m with e | m
    · subst e; exact ⟨_, List.mem_cons_self, r⟩
    · obtain ⟨v, hv, q⟩ := ih x m
      exact ⟨v, List.mem_cons_of_mem _ hv, q⟩
theorem All2.mem {α β : Type} {R : α → β → Prop} {l : List α} {xs : List β} (h : All2 R l xs) : ∀ x ∈ xs, ∃ v ∈ l, R v x := by
  induction h with
  | nil => intro x m; cases m
  | cons r _ ih =>
    intro x m
    rcases List.mem_cons.mp m with e | m
    · subst e; exact ⟨_, List.mem_cons_self, r⟩
    · obtain ⟨v, hv, q⟩ := ih x m
      exact ⟨v, List.mem_cons_of_mem _ hv, q⟩
theorem All2.map {α β : Type} {R S : α → β → Prop} (f : ∀ a b, R a b → S a b) {l : List α} {xs : List β} (h : All2 R l xs) : All2 S l xs := by
  induction h with
  | nil => exact .nil
  | cons r _ ih => exact .cons (f _ _ r) ih
theorem Dtm.mapM {α β : Type} {f : α → Sem β} {R : α → β → Prop} : ∀ {l : List α}, (∀ v ∈ l, Dtm prog w A s (f v) (R v)) → Dtm prog w A s (l.mapM f) (All2 R l)
  | [], _ => by rw [List.mapM_nil]; exact Dtm.pure .nil
  | x :: l, h => by
    rw [List.mapM_cons]
    exact Dtm.bind (h x List.mem_cons_self) fun r hr => Dtm.bind (Dtm.mapM fun v hv => h v (List.mem_cons_of_mem _ hv)) fun rs hrs => Dtm.pure (.cons hr hrs)
/-- plain data by the heap: numbers, texts, tuples of such -/
structure PlD (h : Heap) (v : Value) (d : PyData) : Prop where
  rd : ∃ as, Reads h v d as
  cl : d.canLay0 = true
  cm : cmpb d d = true
  dp : d.depth ≤ 64
theorem canLayAll_mem : ∀ {ds : List PyData} {d : PyData}, PyData.canLayAll0 ds = true → d ∈ ds → d.canLay0 = true
  | d0 :: ds, d, h, m => by
    have h' : d0.canLay0 = true ∧ PyData.canLayAll0 ds = true := by simpa [PyData.canLayAll0] using h
    rcases List.mem_cons.mp m with e | m
    · rw [e]; exact h'.1
    · exact canLayAll_mem h'.2 m
theorem ReadsAll.head {h : Heap} {v : Value} {vs : List Value} {ds : List PyData} {as : List Addr} (r : ReadsAll h (v :: vs) ds as) : ∃ d as', Reads h v d as' ∧ d ∈ ds := by
  cases r with
  | cons r1 r2 => exact ⟨_, _, r1, List.mem_cons_self⟩
/-- the kind of a value's type -/
theorem looks_type {h : Heap} {v : Value} {d : PyData} {as : List Addr} (r : Reads h v d as) (hc : cmpb d d = true) : ∃ T, ∀ M : Model, Looks M h (typeOf v) (Value.type T) := by
  cases r with
  | none => cases hc
  | bool b => cases hc
  | int i t => exact ⟨"int", fun _ => .now⟩
  | str x t => exact ⟨"str", fun _ => .now⟩
  | list h1 h2 h3 h4 => cases hc
  | tuple h1 h2 h3 h4 => exact ⟨"tuple", fun M => by have q : Looks M h (typeOf (.ref _)) _ := (Looks.ld h1).andThen .now; rw [← h2]; exact q⟩
  | dict => cases hc
theorem cmpbs_head {d : PyData} {ds : List PyData} (h : cmpbs (d :: ds) (d :: ds) = true) : cmpb d d = true := by
  have : (cmpb d d && cmpbs ds ds) = true := h
  exact ((Bool.and_eq_true _ _).mp this).1
theorem first_dtm {v : Value} {d : PyData} (p : PlD s.heap v d) : Dtm prog w A s (firstOfTuple' v) fun r => r.isSome = true → (∃ ds, d = .tuple ds) ∧ ∀ u, r = some u → ∃ T, ∀ M : Model, Looks M s.heap (typeOf u) (Value.type T) := by
  obtain ⟨⟨as, rd⟩, cl, cm, _⟩ := p
  rw [PySem.W.kas_first_eq]
  cases rd with
  | none => cases cm
  | bool b => cases cm
  | int i t => exact ⟨none, (fun z => by cases z), fun Q E q => wpAny_bind ((show Looks _ s.heap (typeOf (.int i t)) (.type "int") from .now).here (by rw [if_pos (by decide)]; exact wpAny_pure q))⟩
  | str x t => exact ⟨none, (fun z => by cases z), fun Q E q => wpAny_bind ((show Looks _ s.heap (typeOf (.str x t)) (.type "str") from .now).here (by rw [if_pos (by decide)]; exact wpAny_pure q))⟩
  | list => cases cm
  | dict => cases cm
  | tuple h1 h2 h3 h4 =>
    rename_i a o vs n xs _
    refine ⟨vs[0]?, fun hs => ⟨⟨xs, rfl⟩, fun u hu => ?_⟩, fun Q E q => ?_⟩
    · cases e : vs.toList with
      | nil =>
        have : vs[0]? = none := by rw [← Array.getElem?_toList, e]; rfl
        rw [this] at hu; cases hu
      | cons v0 vr =>
        have e0 : vs[0]? = some v0 := by rw [← Array.getElem?_toList, e]; rfl
        rw [e0] at hu; cases hu
        rw [e] at h4
        cases h4 with
        | cons r1 r2 => exact looks_type r1 (cmpbs_head cm)
    · refine wpAny_bind (Looks.here (show Looks (model prog w) s.heap (typeOf (.ref a)) o.cls from (Looks.ld h1).andThen .now) ?_)
      rw [h2, if_neg (by decide)]
      exact wpAny_bind (listItems_at h1 h3 (wpAny_pure q))
theorem one_dtm {vs : List Value} (h : ∀ v ∈ vs, ∃ T, ∀ M : Model, Looks M s.heap (typeOf v) (Value.type T)) : Dtm prog w A s (oneTypeOnly' vs.toArray) fun _ => True := by
  rw [oneTypeOnly'_eq, List.mapM_toArray, map_eq_pure_bind]
  refine Dtm.bind (P := fun _ => True) (Dtm.bind (P := fun _ => True) ?_ fun _ _ => Dtm.pure trivial) fun ts _ => ?_
  · obtain ⟨r, _, k⟩ := Dtm.mapM (R := fun _ _ => True) (prog := prog) (w := w) (A := A) (s := s) (f := typeOf) (l := vs) fun v hv => by
      obtain ⟨T, hT⟩ := h v hv
      exact ⟨_, trivial, fun Q E q => (hT _).here q⟩
    exact ⟨r, trivial, k⟩
  · split <;> exact Dtm.pure trivial
def KindOk (κ : SortKind) (ds : List PyData) : Prop := κ = general' ∨ κ = oneType' ∨ ((∃ b, κ = tuples' b) ∧ ∀ d ∈ ds, ∃ xs, d = .tuple xs)
theorem kind_dtm {vs : List Value} {ds : List PyData} (h : All2 (PlD s.heap) vs ds) : Dtm prog w A s (keyKind' vs.toArray) fun κ => KindOk κ ds := by
  rw [keyKind'_eq, List.mapM_toArray, map_eq_pure_bind]
  have ht : Dtm prog w A s (vs.mapM firstOfTuple') fun rs => (rs.all (·.isSome) = true → ∀ d ∈ ds, ∃ xs, d = .tuple xs) ∧ ∀ r ∈ rs, ∀ u, r = some u → ∃ T, ∀ M : Model, Looks M s.heap (typeOf u) (Value.type T) := by
    induction h with
    | nil => rw [List.mapM_nil]; exact Dtm.pure ⟨fun _ d m => (by cases m), fun r m => (by cases m)⟩
    | cons p h ih =>
      rw [List.mapM_cons]
      refine Dtm.bind (first_dtm p) fun r hr => Dtm.bind ih fun rs hrs => Dtm.pure ⟨fun z d m => ?_, fun r' m u hu => ?_⟩
      · have z' : r.isSome = true ∧ rs.all (·.isSome) = true := by simpa using z
        rcases List.mem_cons.mp m with e | m
        · subst e; exact (hr z'.1).1
        · exact hrs.1 z'.2 d m
      · rcases List.mem_cons.mp m with e | m
        · subst e; exact (hr (by rw [hu]; rfl)).2 u hu
        · exact hrs.2 r' m u hu
  refine Dtm.bind (P := fun (rs : Array (Option Value)) => (rs.all (·.isSome) = true → ∀ d ∈ ds, ∃ xs, d = .tuple xs) ∧ ∀ r ∈ rs.toList, ∀ u, r = some u → ∃ T, ∀ M : Model, Looks M s.heap (typeOf u) (Value.type T)) (Dtm.bind ht fun rs hrs => Dtm.pure ⟨fun z => hrs.1 (by simpa using z), by simpa using hrs.2⟩) fun rs hrs => ?_
  have one : ∀ vs : Array Value, (∀ v ∈ vs.toList, ∃ T, ∀ M : Model, Looks M s.heap (typeOf v) (Value.type T)) → Dtm prog w A s (oneTypeOnly' vs) fun _ => True := fun vs h => by
    have := one_dtm (prog := prog) (w := w) (A := A) (s := s) (vs := vs.toList) h
    simpa using this
  by_cases c : rs.all (·.isSome) = true
  · rw [if_pos c]
    refine Dtm.bind (P := fun _ => True) ⟨(), trivial, fun Q E q => wpAny_rule q⟩ fun _ _ => ?_
    refine Dtm.bind (one _ fun v hv => ?_) fun r _ => Dtm.pure (.inr (.inr ⟨⟨_, rfl⟩, hrs.1 c⟩))
    have hv' : some v ∈ rs.toList := by simpa using hv
    exact hrs.2 _ hv' v rfl
  · rw [if_neg c]
    by_cases c2 : (rs[0]?.bind id).isSome = true
    · rw [if_pos c2]
      exact Dtm.pure (.inl rfl)
    · rw [if_neg c2]
      refine Dtm.bind (one _ fun v hv => ?_) fun r _ => ?_
      · obtain ⟨d, _, p⟩ := h.memL v (by simpa using hv)
        obtain ⟨as, rd⟩ := p.rd
        exact looks_type rd p.cm
      · by_cases c3 : r.isSome = true
        · rw [if_pos c3]; exact Dtm.pure (.inr (.inl rfl))
        · rw [if_neg c3]; exact Dtm.pure (.inl rfl)
/-! ### any two are compared -/
theorem one_lt {f : Bool} {x y : PyData} {a b : Value} {as bs : List Addr} {Q : Bool → Shared → Prop} (ra : Reads s.heap a x as) (rb : Reads s.heap b y bs) (hc : cmpb x y = true) (ha : x.canLay0 = true) (hb : y.canLay0 = true)
    (hu : A.units + min x.depth y.depth < cLine) (h : Q (plt x y) s) : wpAny (model prog w) A (oneLt' f a b) Q E s := by
  have R := rc_lt x y A s a b as bs ra rb hc ha hb hu
  cases f with
  | false =>
    rw [oneLt'_eq]
    simp only [Bool.false_eq_true, if_false]
    exact wpAny_bind (R prog w E _ (wpAny_truthy_bool h))
  | true =>
    cases ra with
    | none => cases y <;> cases hc
    | bool => cases y <;> cases hc
    | int i t =>
      cases rb with
      | int j u =>
        have e : plt (.int i) (.int j) = decide (i < j) := by
          show HT.lexLt [i] [j] = _
          rw [HT.lexLt_cons]
          by_cases h : i = j
          · subst h; simp [HT.lexLt]
          · rw [if_neg h]
        rw [e] at h
        exact oneLt_int h
      | _ => cases hc
    | str i t =>
      cases rb with
      | str j u =>
        have e : plt (.str i) (.str j) = decide (i.cps.toList < j.cps.toList) := by
          show HT.lexLt (cdS _) (cdS _) = _
          by_cases h : i.cps.toList = j.cps.toList
          · rw [h]
            have := lex_same (cdS j.cps.toList) [] []
            rw [List.append_nil] at this
            rw [this, decide_eq_false (List.lt_irrefl _)]; rfl
          · rw [← List.append_nil (cdS i.cps.toList), ← List.append_nil (cdS j.cps.toList), cdS_ne _ _ _ _ h]
        rw [e] at h
        exact oneLt_str h
      | _ => cases hc
    | list => cases y <;> cases hc
    | dict => cases y <;> cases hc
    | tuple h1 h2 h3 h4 =>
      cases rb with
      | tuple k1 k2 k3 k4 =>
        rename_i a o vs n xs b o2 ws m ys
        obtain ⟨cls, dd, data, sl⟩ := o
        obtain ⟨cls2, dd2, data2, sl2⟩ := o2
        simp only at h2 h3 k2 k3
        subst h2 h3 k2 k3
        have hu' := SeqAt.room_in hu
        have l1 := SeqAt.ReadsAll.length _ _ _ h4
        have l2 := SeqAt.ReadsAll.length _ _ _ k4
        rw [Array.length_toList] at l1 l2
        rw [oneLt'_eq]
        simp only [if_true]
        refine wpAny_bind (wpAny_cRoomFor (SeqAt.room_here hu) ?_)
        refine wpAny_bind (wpAny_callSpecialIfBound?_slot ⟨_, h1, rfl⟩ F.slot_tuple_lt ?_)
        refine call_meets F.slot_tuple_lt ⟨_, h1, rfl⟩ F.entry_tuple_lt (F.args_tuple_lt_2 _ _) (Ob.tuple_ltAt a b vs ws n m dd dd2 sl sl2 (SeqAt.pairEq xs ys) (pairLt xs ys)) ⟨h1, k1, fun j j1 j2 => ?_, fun j j1 j2 _ => ?_, ?_⟩
        · have := SeqAt.eqAt_readsAll xs ys A.in1 s _ _ _ _ h4 k4 ha hb hu' j (by simpa using j1) (by simpa using j2)
          simpa using this
        · have := rc_lts xs ys A.in1 s _ _ _ _ h4 k4 hc ha hb hu' j (by simpa using j1) (by simpa using j2)
          simpa using this
        · rw [l1, l2, lexAt_cd xs ys hc]
          exact wpAny_truthy_bool h
      | _ => cases hc
theorem kat_data {f : Bool} {Q : Bool → Shared → Prop} : ∀ (xs ys : List PyData) (i : Nat) (vs ws : List Value) (as bs : List Addr), ReadsAll s.heap vs xs as → ReadsAll s.heap ws ys bs → cmpbs xs ys = true → PyData.canLayAll0 xs = true → PyData.canLayAll0 ys = true →
    A.units + min (PyData.depthAll xs) (PyData.depthAll ys) < cLine → ∀ fin : Bool, fin = decide (xs.length < ys.length) → Q (HT.lexLt (cdPs xs) (cdPs ys)) s → PySem.W.KatLex prog w A f fin Q (vs.zip ws) i s
  | [], [], i, _, _, _, _, ra, rb, _, _, _, _, fin, hf, h => by
    cases ra; cases rb
    subst hf
    refine PySem.W.kat_nil (b := f) ?_
    have e : HT.lexLt (cdPs []) (cdPs []) = false := by show HT.lexLt [0] [0] = _; rw [HT.lexLt_cons, if_pos rfl]; rfl
    rw [e] at h
    simpa using h
  | [], y :: ys, i, _, _, _, _, ra, rb, _, _, _, _, fin, hf, h => by
    cases ra; cases rb
    subst hf
    rw [List.zip_nil_left]
    refine PySem.W.kat_nil (b := f) ?_
    rw [plt_tup_nil] at h
    simpa using h
  | x :: xs, [], i, _, _, _, _, ra, rb, _, _, _, _, fin, hf, h => by
    cases ra; cases rb
    subst hf
    rw [List.zip_nil_right]
    refine PySem.W.kat_nil (b := f) ?_
    rw [plt_tup_nil2] at h
    simpa using h
  | x :: xs, y :: ys, i, _, _, _, _, ra, rb, hc, ha, hb, hu, fin, hf, h => by
    have ha' : x.canLay0 = true ∧ PyData.canLayAll0 xs = true := by simpa [PyData.canLayAll0] using ha
    have hb' : y.canLay0 = true ∧ PyData.canLayAll0 ys = true := by simpa [PyData.canLayAll0] using hb
    have hc' : cmpb x y = true ∧ cmpbs xs ys = true := by
      have : (cmpb x y && cmpbs xs ys) = true := hc
      exact (Bool.and_eq_true _ _).mp this
    have hu : A.units + min (max x.depth (PyData.depthAll xs)) (max y.depth (PyData.depthAll ys)) < cLine := hu
    cases ra with
    | cons r rs =>
      cases rb with
      | cons r' rs' =>
        rw [List.zip_cons_cons]
        rw [plt_tup_cons hc'.1] at h
        refine PySem.W.kat_cons (SeqAt.eqAt_reads x y A s _ _ _ _ r r' ha'.1 hb'.1 (SeqAt.room_head hu) prog w _ _ ?_)
        refine PySem.W.kat_go (fun e => PySem.W.kat_yes ?_) (fun e => PySem.W.kat_no ?_)
        · rw [if_pos e] at h
          exact kat_data xs ys (i + 1) _ _ _ _ rs rs' hc'.2 ha'.2 hb'.2 (SeqAt.room_tail hu) fin (by rw [hf]; exact decide_eq_decide.mpr (by simp only [List.length_cons]; omega)) h
        · rw [if_neg (by rw [e]; exact Bool.false_ne_true)] at h
          exact one_lt r r' hc'.1 ha'.1 hb'.1 (SeqAt.room_head hu) h
theorem key_lt {κ : SortKind} {x y : PyData} {a b : Value} {Q : Bool → Shared → Prop} (pa : PlD s.heap a x) (pb : PlD s.heap b y) (hc : cmpb x y = true) (hk : κ = general' ∨ κ = oneType' ∨ ((∃ f, κ = tuples' f) ∧ (∃ xs, x = .tuple xs) ∧ ∃ ys, y = .tuple ys))
    (hu : A.units + 64 < cLine) (h : Q (plt x y) s) : wpAny (model prog w) A (keyLt' κ a b) Q E s := by
  obtain ⟨as, ra⟩ := pa.rd
  obtain ⟨bs, rb⟩ := pb.rd
  have hu' : A.units + min x.depth y.depth < cLine := by have := pa.dp; have : min x.depth y.depth ≤ x.depth := Nat.min_le_left _ _; omega
  rcases hk with e | e | ⟨⟨f, e⟩, ⟨xs, ex⟩, ys, ey⟩
  · subst e
    exact (show wpAny (model prog w) A (oneLt' false a b) Q E s from one_lt ra rb hc pa.cl pb.cl hu' h)
  · subst e
    exact (show wpAny (model prog w) A (oneLt' true a b) Q E s from one_lt ra rb hc pa.cl pb.cl hu' h)
  · subst e ex ey
    cases ra with
    | tuple h1 h2 h3 h4 =>
      cases rb with
      | tuple k1 k2 k3 k4 =>
        have l1 := SeqAt.ReadsAll.length _ _ _ h4
        have l2 := SeqAt.ReadsAll.length _ _ _ k4
        rw [Array.length_toList] at l1 l2
        refine PySem.W.kat_lt h1 h3 k1 k3 (kat_data xs ys 0 _ _ _ _ h4 k4 hc pa.cl pb.cl ?_ _ (by rw [l1, l2]) h)
        have hu'' := SeqAt.room_in hu'
        omega
/-- a value's code, by the heap -/
noncomputable def rdK (h : Heap) (v : Value) : List Int := open Classical in if z : ∃ d, ∃ as, Reads h v d as then cdP z.choose else []
theorem rdK_eq {h : Heap} {v : Value} {d : PyData} {as : List Addr} (r : Reads h v d as) : rdK h v = cdP d := by
  have z : ∃ d, ∃ as, Reads h v d as := ⟨d, as, r⟩
  unfold rdK
  rw [dif_pos z]
  obtain ⟨as', r'⟩ := z.choose_spec
  rw [(reads_det (fun _ _ e _ => e) r r').1]
theorem sorted_data {l : Addr} {vs : List Value} {ds : List PyData} {Q : Value → Shared → Prop} (hl : s.heap.IsList l vs.toArray) (hz : vs.length ≤ sizeLine) (hp : All2 (PlD s.heap) vs ds) (hc : ∀ x ∈ ds, ∀ y ∈ ds, cmpb x y = true) (hu : A.units + 66 < cLine)
    (h : ∀ out : List Value, SrtO.Srtd (fun v u => HT.lexLt (rdK s.heap v) (rdK s.heap u)) out → SrtO.Stb (fun v u => HT.lexLt (rdK s.heap v) (rdK s.heap u)) out vs → Q (.ref (s.heap.objs.size + 1)) { s with heap := sortedAll s.heap vs out.toArray }) :
    wpAny (model prog w) A (call (.builtin "sorted") [.ref l]) Q E s := by
  refine SrtO.sorted_ord (NtL.swo_lexL (rdK s.heap)) hl hz (fun h2 h₁ a ha kk => ?_) h
  intro h' keep
  have kp : ∀ b o, s.heap.get? b = some o → h'.get? b = some o := fun b o e => keep b o (kk b o e).1 (kk b o e).2
  have up : ∀ {v d}, PlD s.heap v d → PlD h' v d := fun p => ⟨let ⟨as, r⟩ := p.rd; ⟨as, PyProof.Rows.Reads.keeps kp r⟩, p.cl, p.cm, p.dp⟩
  have hp' : All2 (PlD h') vs ds := hp.map fun _ _ p => up p
  have mem : ∀ v ∈ vs, ∃ d ∈ ds, PlD s.heap v d := hp.memL
  obtain ⟨κ, hκ, k⟩ := kind_dtm (prog := prog) (w := w) (A := A.in1.in1) (s := { s with heap := h' }) hp'
  refine ⟨κ, fun Q E q => k Q E q, fun p q hp1 hq1 => ?_⟩
  obtain ⟨d, hd, pd⟩ := mem _ hp1
  obtain ⟨e, he, pe⟩ := mem _ hq1
  obtain ⟨as, r1⟩ := pd.rd
  obtain ⟨bs, r2⟩ := pe.rd
  refine key_lt (s := { s with heap := h' }) (up pd) (up pe) (hc d hd e he) ?_ (by show A.units + 1 + 1 + 64 < cLine; omega) ⟨rfl, ?_⟩
  · rcases hκ with z | z | ⟨z, z2⟩
    · exact .inl z
    · exact .inr (.inl z)
    · exact .inr (.inr ⟨z, z2 d hd, z2 e he⟩)
  · show _ = HT.lexLt (rdK s.heap p.1) (rdK s.heap q.1)
    rw [rdK_eq r1, rdK_eq r2]
end
end Lw

set_option Elab.async false
set_option linter.all false
set_option maxRecDepth 100000
set_option maxHeartbeats 4000000
namespace Lw
open PySem PySem.Spec PyProof.Rows L2
/-! ### the order on T -/
abbrev cdT (t : T) : List Int := cdP (pdT t)
abbrev tlt (x y : T) : Bool := HT.lexLt (cdT x) (cdT y)
structure SrtOk (xs : List T) : Prop where
  ok : ∀ x ∈ xs, okT x = true ∧ dpT x ≤ 50
  cm : ∀ x ∈ xs, ∀ y ∈ xs, cmpb (pdT x) (pdT y) = true
theorem lex_tot : ∀ a b : List Int, HT.lexLt a b = false → HT.lexLt b a = false → a = b
  | [], [], _, _ => rfl
  | [], b :: y, h, _ => by rw [HT.lexLt_nil_cons] at h; cases h
  | a :: x, [], _, h => by rw [HT.lexLt_nil_cons] at h; cases h
  | a :: x, b :: y, h, h2 => by
    rw [HT.lexLt_cons] at h h2
    by_cases e : a = b
    · subst e
      rw [if_pos rfl] at h h2
      rw [lex_tot x y h h2]
    · rw [if_neg e] at h
      rw [if_neg (Ne.symm e)] at h2
      have h1 := of_decide_eq_false h
      have h2 := of_decide_eq_false h2
      omega
theorem cd_inj {x y : PyData} (h : cmpb x y = true) (e : cdP x = cdP y) : x = y := by
  cases q : PyData.eqv x y with
  | true => exact cd_eq x y h q
  | false =>
    have a := cd_ne x y [0] [1] h q
    unfold plt at a
    rw [e, lex_same] at a
    have b := lex_same (cdP y) [] []
    rw [List.append_nil] at b
    rw [b] at a
    exact absurd a (by decide)
mutual
theorem pdT_inj : ∀ x y : T, okT x = true → okT y = true → pdT x = pdT y → x = y
  | .non, y, _, h2, h => by cases y <;> first | rfl | (simp [pdT] at h; done) | cases h2
  | .bl b, y, _, h2, h => by cases y <;> first | (simp [pdT] at h; rw [h]; done) | (simp [pdT] at h; done) | cases h2
  | .int b, y, _, h2, h => by cases y <;> first | (simp [pdT] at h; rw [h]; done) | (simp [pdT] at h; done) | cases h2
  | .str b, y, _, h2, h => by cases y <;> first | (simp [pdT] at h; rw [h]; done) | (simp [pdT] at h; done) | cases h2
  | .tup xs, .tup ys, h1, h2, h => by
    simp only [pdT, PyData.tuple.injEq] at h
    rw [pdTs_inj xs ys h1 h2 h]
  | .tup xs, .non, _, _, h => by simp [pdT] at h
  | .tup xs, .bl _, _, _, h => by simp [pdT] at h
  | .tup xs, .int _, _, _, h => by simp [pdT] at h
  | .tup xs, .str _, _, _, h => by simp [pdT] at h
  | .ref _, _, h, _, _ => by cases h
  | .ty _, _, h, _, _ => by cases h
  | .scr _, _, h, _, _ => by cases h
theorem pdTs_inj : ∀ xs ys : List T, okTs xs = true → okTs ys = true → pdTs xs = pdTs ys → xs = ys
  | [], [], _, _, _ => rfl
  | [], _ :: _, _, _, h => by cases h
  | _ :: _, [], _, _, h => by cases h
  | x :: xs, y :: ys, h1, h2, h => by
    have h1' : (okT x && okTs xs) = true := h1
    have h2' : (okT y && okTs ys) = true := h2
    rw [Bool.and_eq_true] at h1' h2'
    have h' : pdT x :: pdTs xs = pdT y :: pdTs ys := h
    have e := List.cons.inj h'
    rw [pdT_inj x y h1'.1 h2'.1 e.1, pdTs_inj xs ys h1'.2 h2'.2 e.2]
end
theorem SrtOk.uniq {xs ys zs : List T} (h : SrtOk zs) (p1 : xs.Perm zs) (p2 : ys.Perm zs) (s1 : xs.Pairwise fun x y => tlt y x = false) (s2 : ys.Pairwise fun x y => tlt y x = false) : xs = ys := by
  refine List.Perm.eq_of_pairwise (fun a b ha hb q1 q2 => ?_) s1 s2 (p1.trans p2.symm)
  have ha' := p1.mem_iff.mp ha
  have hb' := p2.mem_iff.mp hb
  exact pdT_inj a b (h.ok a ha').1 (h.ok b hb').1 (cd_inj (h.cm a ha' b hb') (lex_tot _ _ q2 q1))
/-! ### sorted -/
theorem All2.perm {α β : Type} {R : α → β → Prop} {l m : List α} (p : l.Perm m) : ∀ {xs : List β}, All2 R l xs → ∃ ys, All2 R m ys ∧ ys.Perm xs := by
  induction p with
  | nil => intro xs h; exact ⟨xs, h, List.Perm.refl _⟩
  | cons a p ih =>
    intro xs h
    cases h with
    | cons r h =>
      obtain ⟨ys, h1, h2⟩ := ih h
      exact ⟨_, .cons r h1, h2.cons _⟩
  | swap a b l =>
    intro xs h
    cases h with
    | cons r h =>
      cases h with
      | cons r2 h => exact ⟨_, .cons r2 (.cons r h), List.Perm.swap ..⟩
  | trans p q ih1 ih2 =>
    intro xs h
    obtain ⟨ys, h1, h2⟩ := ih1 h
    obtain ⟨zs, h3, h4⟩ := ih2 h1
    exact ⟨zs, h3, h4.trans h2⟩
theorem All2.pw {α β : Type} {R : α → β → Prop} {S : α → α → Prop} {S' : β → β → Prop} (g : ∀ u x u' x', R u x → R u' x' → S u u' → S' x x') {l : List α} {xs : List β} (h : All2 R l xs) : l.Pairwise S → xs.Pairwise S' := by
  induction h with
  | nil => intro _; exact .nil
  | cons r h ih =>
    intro p
    obtain ⟨p1, p2⟩ := List.pairwise_cons.mp p
    refine List.pairwise_cons.mpr ⟨fun y hy => ?_, ih p2⟩
    obtain ⟨v, hv, q⟩ := h.mem y hy
    exact g _ _ _ _ r q (p1 v hv)
def RdT (K : PySem.W.Frag) (H : Hp) (h : Heap) (u : Value) (x : T) : Prop := ∃ v, RelV v u ∧ Rp K H x v ∧ ∃ as, Reads h u (pdT x) as
theorem rdT_of {X : Cx} {pins : List (Addr × Obj)} {σ : L2.St} {H : Hp} {s : Shared} (I : Inv X pins σ H s) : ∀ {xs : List T} {ws : List V} {its : List Value}, (∀ x ∈ xs, okT x = true ∧ dpT x ≤ 50) → RpL X.K H xs ws → Vals ws its → All2 (RdT X.K H s.heap) its xs
  | [], _, _, _, rr, rv => by
    rw [show _ = [] from rr] at rv
    cases rv
    exact .nil
  | x :: xs, _, _, ok, ⟨v, r, e, h, hr⟩, rv => by
    subst e
    cases rv with
    | cons r1 r2 =>
      refine .cons ⟨v, r1, h, ?_⟩ (rdT_of I (fun y m => ok y (List.mem_cons_of_mem _ m)) hr r2)
      exact Dp.reads I _ _ _ (pd_dp x v (ok x List.mem_cons_self).1 h) r1
theorem rdT_back {K : PySem.W.Frag} {H : Hp} {h : Heap} {its : List Value} {xs : List T} (a : All2 (RdT K H h) its xs) : ∃ ws, RpL K H xs ws ∧ Vals ws its := by
  induction a with
  | nil => exact ⟨[], rfl, .nil⟩
  | cons r _ ih =>
    obtain ⟨v, r1, r2, _⟩ := r
    obtain ⟨ws, q1, q2⟩ := ih
    exact ⟨v :: ws, ⟨v, ws, rfl, r2, q1⟩, .cons r1 q2⟩
theorem rdT_pl {K : PySem.W.Frag} {H : Hp} {h : Heap} {its : List Value} {xs : List T} (ok : SrtOk xs) (a : All2 (RdT K H h) its xs) : All2 (PlD h) its (xs.map pdT) := by
  have ok1 := ok.ok
  have ok2 : ∀ x ∈ xs, cmpb (pdT x) (pdT x) = true := fun x m => ok.cm x m x m
  clear ok
  induction a with
  | nil => exact .nil
  | cons r _ ih =>
    obtain ⟨v, r1, r2, r3⟩ := r
    have o := ok1 _ List.mem_cons_self
    refine .cons ⟨r3, pd_can _ o.1, ok2 _ List.mem_cons_self, ?_⟩ (ih (fun y m => ok1 y (List.mem_cons_of_mem _ m)) (fun y m => ok2 y (List.mem_cons_of_mem _ m)))
    have := pd_depth _ o.1
    omega
def fSorted : QC := fun ts G Q => match ts with
  | [.ref a] => ∃ xs, G a = some (.lst xs) ∧ SrtOk xs ∧ ∀ ys, ys.Perm xs → ys.Pairwise (fun x y => tlt y x = false) → ∀ p, G p = none → Q (.ref p) (gput G p (.lst ys))
  | _ => False
section
variable {X : Cx}
theorem b_sorted (hu : X.A.units + 66 < cLine) : CallR X (.builtin "sorted") (cC X.K fSorted) := by
  intro pins s σ H vs us KQ I r h
  obtain ⟨ts, G, Q, hr, ha, hf, hk⟩ := h
  unfold fSorted at hf
  split at hf
  · obtain ⟨xs, hg, ok, q⟩ := hf
    obtain ⟨v, rfl, h1⟩ := rpl1 hr
    cases h1
    obtain ⟨ws, hp, rr⟩ := ha _ _ hg
    obtain ⟨its, rv, hl, hz⟩ := I.list (SqL.of hp)
    rw [Vals.ref1 r]
    have a0 := rdT_of I ok.ok rr rv
    have zl : its.length ≤ sizeLine := by rw [← rv.length]; exact hz
    refine sorted_data hl.isList zl (rdT_pl ok a0) (fun x hx y hy => ?_) hu fun out h1 h2 => ?_
    · obtain ⟨x', hx', rfl⟩ := List.mem_map.mp hx
      obtain ⟨y', hy', rfl⟩ := List.mem_map.mp hy
      exact ok.cm x' hx' y' hy'
    · obtain ⟨ys, a1, py⟩ := a0.perm h2.perm.symm
      obtain ⟨ws', q1, q2⟩ := rdT_back a1
      have sy : ys.Pairwise fun x y => tlt y x = false := a1.pw (S' := fun x y => tlt y x = false) (fun u x u' x' ⟨_, _, _, as, r1⟩ ⟨_, _, _, bs, r2⟩ e => by
        have e : HT.lexLt (rdK s.heap u') (rdK s.heap u) = false := e
        rw [rdK_eq r1, rdK_eq r2] at e
        exact e) h1
      obtain ⟨ep, he'⟩ := PyProof.Rows.sortedAll_at s.heap its out.toArray
      have hlen : ws'.length ≤ sizeLine := by
        rw [q2.length, h2.perm.length_eq]; exact zl
      have fr : H (s.heap.objs.size + 1) = none := I.hok.fresh (Nat.le_succ _)
      have k : Tups H (upd H (s.heap.objs.size + 1) (.lst ws')) := Tups.new fr
      refine ⟨.ref _, upd H (s.heap.objs.size + 1) (.lst ws'), I.laid (t' := s.toks) (fun _ _ => PyProof.Rows.sortedAll_old) (Nat.le_succ _) ⟨hlen, out, ep, q2, he'⟩, rfl, ?_⟩
      exact hk _ _ (.ref _) _ k (ha.put (o := .lst ys) ⟨fun xs z => (by rw [fr] at z; cases z), fun o xs z => (by rw [fr] at z; cases z)⟩ ⟨ws', upd_same, q1.mono k⟩) rfl (q ys py sy _ (ha.free fr))
  · exact hf.elim
/-! ### < of tuples -/
def fLt2 : Q2 := fun x y G Q => match x, y with
  | .int i, .int j => Q (.bl (decide (i < j))) G
  | .str i, .str j => Q (.bl (decide (i.cps.toList < j.cps.toList))) G
  | .tup xs, .tup ys => eqOk (.tup xs) = true ∧ eqOk (.tup ys) = true ∧ cmpb (pdT (.tup xs)) (pdT (.tup ys)) = true ∧ Q (.bl (tlt (.tup xs) (.tup ys))) G
  | _, _ => False
theorem o_lt2 (hu : X.A.units + 66 < cLine) : OpR X (compareOp .Lt) (c2 X.K fLt2) := by
  intro pins s σ H v w u u' KQ I rv rw' h2
  obtain ⟨x, y, G, Q, hx, hy, ha, hf, hk⟩ := h2
  unfold fLt2 at hf
  split at hf
  · exact op_lt pins s σ H v w u u' KQ I rv rw' ⟨_, _, hx, hy, hk _ H _ G (Tups.refl H) ha (show Rp X.K H (.bl _) (.bl _) from rfl) hf⟩
  · exact op_lt_str pins s σ H v w u u' KQ I rv rw' ⟨_, _, hx, hy, hk _ H _ G (Tups.refl H) ha (show Rp X.K H (.bl _) (.bl _) from rfl) hf⟩
  · obtain ⟨o1, o2, hc, hf⟩ := hf
    obtain ⟨as, r1⟩ := Dp.reads I _ _ _ (pd_dp _ _ (eqOk_ok o1) hx) rv
    obtain ⟨bs, r2⟩ := Dp.reads I _ _ _ (pd_dp _ _ (eqOk_ok o2) hy) rw'
    have hd := pd_depth _ (eqOk_ok o1)
    have hd2 := eqOk_dp o1
    refine rc_lt _ _ X.A s u u' as bs r1 r2 hc (pd_can _ (eqOk_ok o1)) (pd_can _ (eqOk_ok o2)) (Nat.lt_of_le_of_lt (Nat.add_le_add_left (Nat.min_le_left _ _) _) (by omega)) _ _ _ _ ?_
    exact ⟨.bl _, H, I, rfl, hk _ H (.bl _) G (Tups.refl H) ha rfl hf⟩
  · exact hf.elim
end
theorem un66 {k : Nat} {A : Around} (r : Room k A) : A.units + 66 < cLine := by have := r.un; omega
end Lw

set_option Elab.async false
set_option linter.all false
set_option maxRecDepth 100000
set_option maxHeartbeats 4000000
namespace Lw
open PySem PySem.Spec PyProof.Rows L2
/-! ### comprehensions with two fors -/
def qLc2 (qi : QI) (qg : QG) (qt : QT) (qi1 : QI) (qg1 : QG) (qt1 : QT) (qe : QE) (own vs1 : List Nat) : QE := fun ρ G Q => qi ρ G fun ts St G1 => ∀ D, G1 D = none → ∃ I : Nat → List T → Gp → Prop, I 0 [] (gput G1 D (.lst [])) ∧ (∀ i acc G, i ≤ ts.length → I i acc G → St G) ∧
  (∀ i t acc G, ts[i]? = some t → I i acc G → wipeK ρ own fun ρ1 => qg t ρ1 G fun ρ2 G2 => qt ρ2 G2 fun b G3 => (b = true → qi1 ρ2 G3 fun us St1 G4 => ∃ I1 : Nat → List T → Gp → Prop, I1 0 acc G4 ∧ (∀ j acc G, j ≤ us.length → I1 j acc G → St1 G) ∧
      (∀ j u acc G, us[j]? = some u → I1 j acc G → wipeK ρ2 vs1 fun ρ3 => qg1 u ρ3 G fun ρ4 G5 => qt1 ρ4 G5 fun b G6 => (b = true → qe ρ4 G6 fun y G7 => G7 D = some (.lst acc) ∧ acc.length < 100000 ∧ ∃ G8, Sub G8 (gput G7 D (.lst (acc ++ [y]))) ∧ I1 (j + 1) (acc ++ [y]) G8) ∧ (b = false → ∃ G8, Sub G8 G6 ∧ I1 (j + 1) acc G8)) ∧
      ∀ acc G, I1 us.length acc G → ∃ G8, Sub G8 G ∧ I (i + 1) acc G8) ∧ (b = false → ∃ G8, Sub G8 G3 ∧ I (i + 1) acc G8)) ∧
  ∀ acc G, I ts.length acc G → Q (.ref D) G
section
variable {X : Cx} {tg elt iter tg1 iter1 : Expr} {ifs ifs1 : List Expr} {scope : Scope} {own : List (Str × Nat)} {vs1 : List Nat} {pos : Pos} {qi qi1 : QI} {qg qg1 : QG} {qt qt1 : QT} {qel : QE}
theorem lc2_wk : ∀ σ H KQ, cE X.K (qLc2 qi qg qt qi1 qg1 qt1 qel (own.map (·.2)) vs1) σ H KQ → tLc2 (cI X.K qi) (cG X.K (own.map (·.2)) qg) (cT X.K qt) (cI X.K qi1) (cG X.K vs1 qg1) (cT X.K qt1) (cE X.K qel) (own.map (·.2)) vs1 σ H KQ := fun σ H KQ h => by
  obtain ⟨ρ, G, Q, e, a, q, f⟩ := h
  refine ⟨ρ, G, _, e, a, q, fun J H1 ts St G1 k1 a1 w q1 => fun D hD => ?_⟩
  obtain ⟨I, i0, hst, turn, done⟩ := q1 D (a1.free hD)
  have kD : Tups H1 (upd H1 D (.lst [])) := Tups.new hD
  refine ⟨fun i m H' => m = ts.length - i ∧ i ≤ ts.length ∧ Tups H1 H' ∧ ∃ acc G', Abs X.K H' G' ∧ I i acc G',
    ⟨ts.length, by simp, Nat.zero_le _, kD, [], _, a1.put (o := .lst []) ⟨fun xs z => (by rw [hD] at z; cases z), fun o xs z => (by rw [hD] at z; cases z)⟩ ⟨[], upd_same, rfl⟩, i0⟩, ?_⟩
  rintro i m H2 ⟨rfl, hi, k2, acc, G2, a2, j2⟩
  have st := hst i acc G2 hi j2
  have e2 : EnvR X.K H2 ρ σ := e.mono (k1.trans k2)
  by_cases hlt : i < ts.length
  · refine .inr ⟨w.goes i H2 G2 hlt k2 a2 st, fun H' => Tups H1 H' ∧ ∃ acc G', Abs X.K H' G' ∧ I (i + 1) acc G', fun H' p => ⟨ts.length - (i + 1), by omega, rfl, hlt, p⟩, fun x H3 y => ?_⟩
    obtain ⟨k3, a3, t, ht, r3⟩ := w.yields i H2 G2 x H3 hlt k2 a2 st y
    have k23 := k2.trans k3
    refine ⟨t, _, G2, _, r3, (e2.mono k3).wipe _, a3, wipeK_wipe (turn i t acc G2 ht j2), fun σ4 H4 ρ4 G4 w4 k4 e4 a4 q4 => ⟨?_, ?_⟩⟩
    · rw [w4]
      exact wipe_wipe
    · refine ⟨ρ4, G4, _, e4, a4, q4, fun b H5 G5 k5 a5 q5 => ?_⟩
      have k15 := (k23.trans k4).trans k5
      cases b with
      | false =>
        show (if false = true then _ else _)
        rw [if_neg Bool.false_ne_true]
        obtain ⟨G6, sb, j6⟩ := q5.2 rfl
        exact ⟨k15, acc, G6, a5.sub sb, j6⟩
      | true =>
        show (if true = true then _ else _)
        rw [if_pos rfl]
        refine ⟨ρ4, G5, _, e4.mono k5, a5, q5.1 rfl, fun J1 H6 us St1 G6 k6 a6 w1 ⟨I1, j0, hst1, turn1, done1⟩ => ?_⟩
        have k16 := k15.trans k6
        refine ⟨fun j m H' => m = us.length - j ∧ j ≤ us.length ∧ Tups H6 H' ∧ ∃ acc G', Abs X.K H' G' ∧ I1 j acc G', ⟨us.length, by simp, Nat.zero_le _, Tups.refl _, acc, G6, a6, j0⟩, ?_⟩
        rintro j m2 H7 ⟨rfl, hj, k7, acc7, G7, a7, j7⟩
        have st7 := hst1 j acc7 G7 hj j7
        by_cases hlt1 : j < us.length
        · refine .inr ⟨w1.goes j H7 G7 hlt1 k7 a7 st7, fun H' => Tups H6 H' ∧ ∃ acc G', Abs X.K H' G' ∧ I1 (j + 1) acc G', fun H' p => ⟨us.length - (j + 1), by omega, rfl, hlt1, p⟩, fun x8 H8 y8 => ?_⟩
          obtain ⟨k8, a8, t8, ht8, r8⟩ := w1.yields j H7 G7 x8 H8 hlt1 k7 a7 st7 y8
          have k78 := k7.trans k8
          have e8 : EnvR X.K H8 ρ4 σ4 := e4.mono ((k5.trans k6).trans k78)
          refine ⟨t8, _, G7, _, r8, e8.wipe _, a8, wipeK_wipe (turn1 j t8 acc7 G7 ht8 j7), fun σ9 H9 ρ9 G9 w9 k9 e9 a9 q9 => ⟨?_, ?_⟩⟩
          · rw [w9]
            exact wipe_wipe
          · refine ⟨ρ9, G9, _, e9, a9, q9, fun b H10 G10 k10 a10 q10 => ?_⟩
            have kk := (k78.trans k9).trans k10
            cases b with
            | false =>
              show (if false = true then _ else _)
              rw [if_neg Bool.false_ne_true]
              obtain ⟨G11, sb, j11⟩ := q10.2 rfl
              exact ⟨kk, acc7, G11, a10.sub sb, j11⟩
            | true =>
              show (if true = true then _ else _)
              rw [if_pos rfl]
              refine ⟨ρ9, G10, _, e9.mono k10, a10, q10.1 rfl, fun v H11 y11 G11 k11 a11 r11 ⟨gd, hz, G12, sb, j12⟩ => ?_⟩
              obtain ⟨vs, hv, rv⟩ := a11 _ _ gd
              have wr : Wr H11 D := Wr.of hv (fun _ z => by cases z) (fun _ _ z => by cases z)
              have k12 := Tups.set (o := .lst (vs ++ [v])) wr
              exact ⟨vs, hv, by rw [rv.length]; exact Nat.lt_of_lt_of_le hz (by decide), (kk.trans k11).trans k12, acc7 ++ [y11], G12, Abs.sub (a11.put (o := .lst (acc7 ++ [y11])) wr ⟨_, upd_same, (rv.append (RpL.one r11)).mono k12⟩) sb, j12⟩
        · have e' : j = us.length := by omega
          subst e'
          obtain ⟨G8, sb, j8⟩ := done1 acc7 G7 j7
          exact .inl ⟨w1.stops H7 G7 k7 a7 st7, k16.trans k7, acc7, G8, a7.sub sb, j8⟩
  · have e' : i = ts.length := by omega
    subst e'
    exact .inl ⟨w.stops H2 G2 k2 a2 st, f _ H2 (.ref D) G2 (k1.trans k2) a2 rfl (done acc G2 j2)⟩
theorem e_lc2 (hc : X.calm = true) (hN : X.N.Nodup) (hi : PI X tg iter (cI X.K qi)) (ok : BlkOk X.N X.env.scope scope own) (hv : ∀ i ∈ vs1, i ∈ own.map (·.2))
    (hg : ∀ (s : Shared) (H : Hp) (C : Addr) (cl : List (Str × Addr)) (fp : List Addr), PG (X.blk s H scope (compEnvC scope cl C X.env) fp) tg (cG X.K (own.map (·.2)) qg)) (ht : ∀ (s : Shared) (H : Hp) (C : Addr) (cl : List (Str × Addr)) (fp : List Addr), PTs (X.blk s H scope (compEnvC scope cl C X.env) fp) ifs (cT X.K qt))
    (hi1 : ∀ (s : Shared) (H : Hp) (C : Addr) (cl : List (Str × Addr)) (fp : List Addr), PI (X.blk s H scope (compEnvC scope cl C X.env) fp) tg1 iter1 (cI X.K qi1))
    (hg1 : ∀ (s : Shared) (H : Hp) (C : Addr) (cl : List (Str × Addr)) (fp : List Addr), PG (X.blk s H scope (compEnvC scope cl C X.env) fp) tg1 (cG X.K vs1 qg1)) (ht1 : ∀ (s : Shared) (H : Hp) (C : Addr) (cl : List (Str × Addr)) (fp : List Addr), PTs (X.blk s H scope (compEnvC scope cl C X.env) fp) ifs1 (cT X.K qt1))
    (he : ∀ (s : Shared) (H : Hp) (C : Addr) (cl : List (Str × Addr)) (fp : List Addr), PE (X.blk s H scope (compEnvC scope cl C X.env) fp) elt (cE X.K qel)) (hs : ∀ x, foldedSetIterable iter X.env x = pure x := by intro _; rfl) (hs1 : ∀ (env : PySem.Env) x, foldedSetIterable iter1 env x = pure x := by intro _ _; rfl) :
    PE X (.ListComp elt [⟨tg, iter, ifs, 0⟩, ⟨tg1, iter1, ifs1, 0⟩] scope pos) (cE X.K (qLc2 qi qg qt qi1 qg1 qt1 qel (own.map (·.2)) vs1)) := PE.wk (pe_lc2 hc hN hi ok hv hg ht hi1 hg1 ht1 he hs hs1) lc2_wk
theorem s_setLc2 {i : Nat} {y : Str} {py spos : Pos} (hc : X.calm = true) (hN : X.N.Nodup) (hy : X.N[i]? = some y) (hyl : X.env.scope.names.lookup y = some .local)
    (hsw : swapsWith (.ListComp elt [⟨tg, iter, ifs, 0⟩, ⟨tg1, iter1, ifs1, 0⟩] scope pos) (some (.Name y py)) spos.line X.env = pure true) (hi : PI X tg iter (cI X.K qi)) (ok : BlkOk X.N X.env.scope scope own) (hv : ∀ i ∈ vs1, i ∈ own.map (·.2))
    (hg : ∀ (s : Shared) (H : Hp) (C : Addr) (cl : List (Str × Addr)) (fp : List Addr), PG (X.blk s H scope (compEnvC scope cl C X.env) fp) tg (cG X.K (own.map (·.2)) qg)) (ht : ∀ (s : Shared) (H : Hp) (C : Addr) (cl : List (Str × Addr)) (fp : List Addr), PTs (X.blk s H scope (compEnvC scope cl C X.env) fp) ifs (cT X.K qt))
    (hi1 : ∀ (s : Shared) (H : Hp) (C : Addr) (cl : List (Str × Addr)) (fp : List Addr), PI (X.blk s H scope (compEnvC scope cl C X.env) fp) tg1 iter1 (cI X.K qi1))
    (hg1 : ∀ (s : Shared) (H : Hp) (C : Addr) (cl : List (Str × Addr)) (fp : List Addr), PG (X.blk s H scope (compEnvC scope cl C X.env) fp) tg1 (cG X.K vs1 qg1)) (ht1 : ∀ (s : Shared) (H : Hp) (C : Addr) (cl : List (Str × Addr)) (fp : List Addr), PTs (X.blk s H scope (compEnvC scope cl C X.env) fp) ifs1 (cT X.K qt1))
    (he : ∀ (s : Shared) (H : Hp) (C : Addr) (cl : List (Str × Addr)) (fp : List Addr), PE (X.blk s H scope (compEnvC scope cl C X.env) fp) elt (cE X.K qel)) (hs : ∀ x, foldedSetIterable iter X.env x = pure x := by intro _; rfl) (hs1 : ∀ (env : PySem.Env) x, foldedSetIterable iter1 env x = pure x := by intro _ _; rfl) :
    PS X (.Assign [.Name y py] (.ListComp elt [⟨tg, iter, ifs, 0⟩, ⟨tg1, iter1, ifs1, 0⟩] scope pos) spos) (cS X.K (qAsg (qLc2 qi qg qt qi1 qg1 qt1 qel (own.map (·.2)) vs1) (gNm i))) := PS.wk (ps_setLc2 hc hN hy hyl hsw hi ok hv hg ht hi1 hg1 ht1 he hs hs1) fun D σ H h => by
  obtain ⟨ρ, G, D', e, a, q, f⟩ := h
  exact lc2_wk σ H _ ⟨ρ, G, _, e, a, q, fun v H1 t G1 k1 a1 r1 q1 => f.nx _ H1 _ G1 k1 ((e.mono k1).put r1 i) a1 (putK_put q1)⟩
end
/-! ### behind an if: the ways joined -/
def qCut (t u : QS) : QS := fun D ρ G => ∃ P : REnv → Gp → Prop, t { D with nx := Wk P } ρ G ∧ ∀ ρ G, P ρ G → u D ρ G
theorem ss_cut {X : Cx} {st : Stmt} {rest : List Stmt} {q1 q2 : QS} (h1 : PS X st (cS X.K q1)) (h2 : PSs X rest (cS X.K q2)) : PSs X (st :: rest) (cS X.K (qCut q1 q2)) := PSs.wk (pss_cons h1 h2) fun D σ H h => by
  obtain ⟨ρ, G, D', e, a, ⟨P, q, r⟩, f⟩ := h
  exact ⟨ρ, G, _, e, a, q, ⟨fun σ' H' ρ' G' k e' a' ⟨ρ1, G1, le, sb, p⟩ => ⟨ρ1, G1, D', e'.le le, a'.sub sb, r ρ1 G1 p, f.from k⟩, f.rt, f.bk, f.ct⟩⟩
end Lw

set_option Elab.async false
set_option linter.all false
set_option maxRecDepth 100000
set_option maxHeartbeats 4000000
namespace Lw
open PySem PySem.Spec PyProof.Rows L2
/-! ### truths among whole numbers -/
section
variable {prog : Program} {w : World} {A : Around} {E : Value → Shared → Prop} {s : Shared}
theorem g_bi_add (b : Bool) (i : Int) (t : Tok) : Gives (Builtin.«int.__add__» ⟨[.bool b, .int i t], []⟩) (.int (b2i b + i)) :=
  .of_wp fun M A E s Q h => by obtain ⟨hp, g, d, tk, os⟩ := s; wp_walk; exact ⟨_, rfl, h⟩
theorem g_bi_sub (b : Bool) (i : Int) (t : Tok) : Gives (Builtin.«int.__sub__» ⟨[.bool b, .int i t], []⟩) (.int (b2i b - i)) :=
  .of_wp fun M A E s Q h => by obtain ⟨hp, g, d, tk, os⟩ := s; wp_walk; exact ⟨_, rfl, h⟩
theorem g_b_neg (b : Bool) : Gives (Builtin.«int.__neg__» ⟨[.bool b], []⟩) (.int (-b2i b)) :=
  .of_wp fun M A E s Q h => by obtain ⟨hp, g, d, tk, os⟩ := s; wp_walk; exact ⟨_, rfl, h⟩
theorem add_bi {b : Bool} {i : Int} {t : Tok} {Q : Value → Shared → Prop} (h : Q (.int (b2i b + i) s.toks) { s with toks := s.toks + 1 }) : wpAny (model prog w) A (binaryOp .Add (.bool b) (.int i t)) Q E s :=
  binaryOp_left_gives (op := .Add) (T := "bool") (U := "int") (by decide) (typeIs_bool' s b) (fun s' => typeIs_int s' i t) F.fills_bool_add F.fills_int_add PySem.isSubtype_int_bool F.slot_bool_add F.slot_int_radd F.entry_int_add (F.args_int_add_2 _ _)
    (g_bi_add b i t) trivial h
theorem sub_bi {b : Bool} {i : Int} {t : Tok} {Q : Value → Shared → Prop} (h : Q (.int (b2i b - i) s.toks) { s with toks := s.toks + 1 }) : wpAny (model prog w) A (binaryOp .Sub (.bool b) (.int i t)) Q E s :=
  binaryOp_left_gives (op := .Sub) (T := "bool") (U := "int") (by decide) (typeIs_bool' s b) (fun s' => typeIs_int s' i t) F.fills_bool_sub F.fills_int_sub PySem.isSubtype_int_bool F.slot_bool_sub F.slot_int_rsub F.entry_int_sub (F.args_int_sub_2 _ _)
    (g_bi_sub b i t) trivial h
theorem neg_b {b : Bool} {Q : Value → Shared → Prop} (h : Q (.int (-b2i b) s.toks) { s with toks := s.toks + 1 }) : wpAny (model prog w) A (unaryOp .USub (.bool b)) Q E s :=
  unaryOp_gives (op := .USub) (typeIs_bool' s b) rfl F.slot_bool_neg F.entry_int_neg (F.args_int_neg_1 _) (g_b_neg b) h
end
/-- a whole number or a truth, as a number -/
def numT : T → Option Int
  | .int i => some i
  | .bl b => some (b2i b)
  | _ => none
def fAddN : Q2 := fun x y G Q => match x, y with
  | .bl b, .int j => Q (.int (b2i b + j)) G
  | x, y => fAdd x y G Q
def fSubN : Q2 := fun x y G Q => match x, y with
  | .bl b, .int j => Q (.int (b2i b - j)) G
  | x, y => fSub x y G Q
def fNegN : Q1 := fun x G Q => match x with | .int i => Q (.int (-i)) G | .bl b => Q (.int (-b2i b)) G | _ => False
section
variable {X : Cx}
theorem o_addN : OpR X (binaryOp .Add) (c2 X.K fAddN) := by
  intro pins s σ H v w u u' KQ I rv rw' h2
  obtain ⟨x, y, G, Q, hx, hy, ha, hf, hk⟩ := h2
  unfold fAddN at hf
  split at hf
  · cases hx; cases hy
    cases rv
    obtain ⟨t, rfl⟩ := rw'
    exact add_bi ⟨.int _, H, I.tok _, ⟨_, rfl⟩, hk _ H (.int _) G (Tups.refl H) ha rfl hf⟩
  · exact o_add pins s σ H v w u u' KQ I rv rw' ⟨_, _, G, Q, hx, hy, ha, hf, hk⟩
theorem o_subN : OpR X (binaryOp .Sub) (c2 X.K fSubN) := by
  intro pins s σ H v w u u' KQ I rv rw' h2
  obtain ⟨x, y, G, Q, hx, hy, ha, hf, hk⟩ := h2
  unfold fSubN at hf
  split at hf
  · cases hx; cases hy
    cases rv
    obtain ⟨t, rfl⟩ := rw'
    exact sub_bi ⟨.int _, H, I.tok _, ⟨_, rfl⟩, hk _ H (.int _) G (Tups.refl H) ha rfl hf⟩
  · exact o_sub pins s σ H v w u u' KQ I rv rw' ⟨_, _, G, Q, hx, hy, ha, hf, hk⟩
theorem un_negN : UnR X (unaryOp .USub) (c1 X.K fNegN) := by
  intro pins s σ H v u KQ I rv h
  obtain ⟨x, G, Q, hx, ha, hf, hk⟩ := h
  unfold fNegN at hf
  split at hf
  · cases hx
    obtain ⟨t, rfl⟩ := rv
    exact neg_int ⟨.int _, H, I.tok _, ⟨_, rfl⟩, hk _ H (.int _) G (Tups.refl H) ha rfl hf⟩
  · cases hx
    cases rv
    exact neg_b ⟨.int _, H, I.tok _, ⟨_, rfl⟩, hk _ H (.int _) G (Tups.refl H) ha rfl hf⟩
  · exact hf.elim
theorem e_negN {a : Expr} {qe : QE} {pos : Pos} (ha : PE X a (cE X.K qe)) : PE X (.UnaryOp .USub a pos) (cE X.K (qUn fNegN qe)) := PE.wk (pe_un un_negN ha) fun σ H KQ h => by
  obtain ⟨ρ, G, Q, e, a, q, f⟩ := h
  refine ⟨ρ, G, _, e, a, q, fun v H1 t G1 k1 a1 r1 q1 => ?_⟩
  exact ⟨t, G1, Q, r1, a1, q1, f.from k1⟩
/-! ### str(x) -/
def fStr : QC := fun ts G Q => match ts with
  | [.int i] => i.natAbs.log2 < 1920 ∧ Q (.str (toString i)) G
  | [.bl b] => Q (.str (if b then "True" else "False")) G
  | [.str x] => Q (.str x) G
  | _ => False
theorem b_str : CallR X (.type "str") (cC X.K fStr) := by
  intro pins s σ H vs us KQ I r h
  obtain ⟨ts, G, Q, hr, ha, hf, hk⟩ := h
  unfold fStr at hf
  split at hf
  · obtain ⟨v, rfl, h1⟩ := rpl1 hr
    cases h1
    exact call_str_int pins s σ H _ us KQ I r ⟨_, rfl, hf.1, hk _ H (.str _) G (Tups.refl H) ha rfl hf.2⟩
  · obtain ⟨v, rfl, h1⟩ := rpl1 hr
    cases h1
    obtain ⟨u, rfl, ru⟩ := vals1 r
    cases ru
    exact PySem.P.str_of_bool ⟨.str _, H, I.tok _, ⟨_, rfl⟩, hk _ H (.str _) G (Tups.refl H) ha rfl hf⟩
  · obtain ⟨v, rfl, h1⟩ := rpl1 hr
    cases h1
    obtain ⟨u, rfl, t, rfl⟩ := vals1 r
    exact PySem.P.str_of_str ⟨.str _, H, I, ⟨_, rfl⟩, hk _ H (.str _) G (Tups.refl H) ha rfl hf⟩
  · exact hf.elim
/-! ### s.upper() -/
def qUpper (qo : QE) : QE := fun ρ G Q => qo ρ G fun x G1 => match x with | .str a => a.length ≤ 5592405 ∧ Q (.str (Txt.upper a)) G1 | _ => False
theorem e_upper {o : Expr} {qo : QE} {apos pos : Pos} (ho : PE X o (cE X.K qo)) (hbase : attributeBase o "upper" X.env (eval o X.env) = eval o X.env := by rfl) (hline : (apos.endLine == pos.line) = true := by rfl) :
    PE X (.Call (.Attribute o "upper" apos) [] [] pos) (cE X.K (qUpper qo)) := PE.wk (pe_upper ho hbase hline) fun σ H KQ h => by
  obtain ⟨ρ, G, Q, e, a, q, f⟩ := h
  refine ⟨ρ, G, _, e, a, q, fun v H1 t G1 k1 a1 r1 q1 => ?_⟩
  split at q1
  · cases r1
    exact ⟨⟨_, rfl⟩, _, rfl, rfl, q1.1, f _ H1 (.str _) G1 k1 a1 rfl q1.2⟩
  · exact q1.elim
/-! ### == of lists of unlike lengths asks nothing of the items -/
def fEqL (neg : Bool) : Q2 := fun x y G Q => match x, y with
  | .ref a, .ref b => ∃ xs ys, G a = some (.lst xs) ∧ G b = some (.lst ys) ∧ (xs.length = ys.length → eqOks xs = true ∧ eqOks ys = true) ∧ Q (.bl (neg != teqs xs ys)) G
  | x, y => fEq neg x y G Q
theorem teqs_len : ∀ {xs ys : List T}, xs.length ≠ ys.length → teqs xs ys = false
  | [], [], h => absurd rfl h
  | [], _ :: _, _ => rfl
  | _ :: _, [], _ => rfl
  | x :: xs, y :: ys, h => by
    show (teq x y && teqs xs ys) = false
    rw [teqs_len (xs := xs) (ys := ys) (fun e => h (by simp [e])), Bool.and_false]
theorem o_eqL (hu : X.A.units + 64 < cLine) : OpR X (compareOp .Eq) (c2 X.K (fEqL false)) := by
  intro pins s σ H v w u u' KQ I rv rw' h2
  obtain ⟨x, y, G, Q, hx, hy, ha, hf, hk⟩ := h2
  unfold fEqL at hf
  split at hf
  · obtain ⟨xs, ys, g1, g2, hl, q⟩ := hf
    by_cases e : xs.length = ys.length
    · exact o_eq hu pins s σ H v w u u' KQ I rv rw' ⟨_, _, G, Q, hx, hy, ha, ⟨xs, ys, g1, g2, (hl e).1, (hl e).2, q⟩, hk⟩
    · rw [teqs_len e] at q
      cases hx; cases hy
      obtain ⟨vs, hp, r⟩ := ha _ _ g1
      obtain ⟨ws, hp', r'⟩ := ha _ _ g2
      cases rv; cases rw'
      obtain ⟨its, r1, p1, _⟩ := I.list (SqL.of hp)
      obtain ⟨its2, r2, p2, _⟩ := I.list (SqL.of hp')
      refine SeqAt.eq_list_lengthsAt p1.isList p2.isList ?_ (by omega) ⟨.bl false, H, I, rfl, hk _ H (.bl _) G (Tups.refl H) ha rfl q⟩
      have e1 : its.toArray.size = xs.length := by rw [List.size_toArray, ← r1.length, r.length]
      have e2 : its2.toArray.size = ys.length := by rw [List.size_toArray, ← r2.length, r'.length]
      rw [e1, e2]
      simpa using e
  · exact o_eq hu pins s σ H v w u u' KQ I rv rw' ⟨_, _, G, Q, hx, hy, ha, hf, hk⟩
theorem o_neL (hu : X.A.units + 64 < cLine) : OpR X (compareOp .NotEq) (c2 X.K (fEqL true)) := by
  intro pins s σ H v w u u' KQ I rv rw' h2
  obtain ⟨x, y, G, Q, hx, hy, ha, hf, hk⟩ := h2
  unfold fEqL at hf
  split at hf
  · obtain ⟨xs, ys, g1, g2, hl, q⟩ := hf
    by_cases e : xs.length = ys.length
    · exact o_ne hu pins s σ H v w u u' KQ I rv rw' ⟨_, _, G, Q, hx, hy, ha, ⟨xs, ys, g1, g2, (hl e).1, (hl e).2, q⟩, hk⟩
    · rw [teqs_len e] at q
      cases hx; cases hy
      obtain ⟨vs, hp, r⟩ := ha _ _ g1
      obtain ⟨ws, hp', r'⟩ := ha _ _ g2
      cases rv; cases rw'
      obtain ⟨its, r1, p1, _⟩ := I.list (SqL.of hp)
      obtain ⟨its2, r2, p2, _⟩ := I.list (SqL.of hp')
      refine SeqAt.RcNeAt.lists_lengths p1.isList p2.isList ?_ (by omega) X.prog X.w _ _ ⟨.bl true, H, I, rfl, hk _ H (.bl _) G (Tups.refl H) ha rfl q⟩
      have e1 : its.toArray.size = xs.length := by rw [List.size_toArray, ← r1.length, r.length]
      have e2 : its2.toArray.size = ys.length := by rw [List.size_toArray, ← r2.length, r'.length]
      rw [e1, e2]
      simpa using e
  · exact o_ne hu pins s σ H v w u u' KQ I rv rw' ⟨_, _, G, Q, hx, hy, ha, hf, hk⟩
/-! ### (a, b, ..) = a list -/
def gUl (n : Nat) (t : QGs) : QG := fun x ρ G Q => match x with | .ref a => ∃ ts, G a = some (.lst ts) ∧ lenIs n ts = true ∧ t ts ρ G Q | _ => False
theorem g_unl {es : List Expr} {own : List Nat} {qgs : QGs} {pos : Pos} {kk : Nat} {n : Nat} (hc : X.calm = true) (h : PGs X es (cGs X.K own qgs)) (hn : (assignEach es X.env).length = n := by rfl) (hst : (assignEach es X.env).findIdx? (·.1) = none := by rfl) :
    PG X (.Tuple es kk pos) (cG X.K own (gUl n qgs)) := PG.wk (pg_unl hc h hn hst) fun v σ H KQ h => by
  obtain ⟨t, ρ, G, Q, r, e, a, q, f⟩ := h
  unfold gUl at q
  split at q
  · obtain ⟨ts, hg, hl, q⟩ := q
    cases r
    obtain ⟨vs, hp, r⟩ := a _ _ hg
    exact ⟨_, vs, rfl, SqL.of hp, by rw [r.length]; exact lenIs_len hl, _, ρ, G, Q, r, e, a, q, f⟩
  · exact q.elim
end
end Lw

set_option Elab.async false
set_option linter.all false
set_option maxRecDepth 100000
set_option maxHeartbeats 4000000
namespace Lw
open PySem PySem.Spec PyProof.Rows L2
/-! ### instances of a class: its name, the names of its fields, their values -/
structure ClsAt (K : PySem.W.Frag) (x : Str) (ns : List Str) : Prop where
  ex : ∃ C, PySem.W.nsIn K mainGlobals x = some (some (.ref C)) ∧ Cls K C ∧ ∀ f ∈ ns, NoAttr K C f
theorem lookup_zip : ∀ {ns : List Str} {vs : List V} {j : Nat} {f : Str} {v : V}, ns.Nodup → ns[j]? = some f → vs[j]? = some v → (ns.zip vs).lookup f = some v
  | [], _, _, _, _, _, h, _ => by simp at h
  | n :: ns, [], _, _, _, _, _, h => by simp at h
  | n :: ns, w :: vs, 0, f, v, _, h1, h2 => by
    simp only [List.getElem?_cons_zero, Option.some.injEq] at h1 h2
    subst h1 h2
    rw [List.zip_cons_cons, List.lookup_cons_self]
  | n :: ns, w :: vs, j + 1, f, v, nd, h1, h2 => by
    simp only [List.getElem?_cons_succ] at h1 h2
    obtain ⟨n1, n2⟩ := List.nodup_cons.mp nd
    have hne : f ≠ n := fun e => n1 (by rw [← e]; exact List.mem_of_getElem? h1)
    rw [List.zip_cons_cons, List.lookup_cons, show (f == n) = false from by simpa using hne]
    exact lookup_zip n2 h1 h2
theorem lookup_zip_none : ∀ {ns : List Str} {vs : List V} {f : Str}, f ∉ ns → (ns.zip vs).lookup f = none
  | [], _, _, _ => rfl
  | n :: ns, [], _, _ => rfl
  | n :: ns, w :: vs, f, h => by
    have hne : f ≠ n := fun e => h (by rw [e]; exact List.mem_cons_self)
    rw [List.zip_cons_cons, List.lookup_cons, show (f == n) = false from by simpa using hne]
    exact lookup_zip_none fun m => h (List.mem_cons_of_mem _ m)
def putX {α : Type} : List α → Nat → α → Option (List α)
  | [], 0, t => some [t]
  | [], _ + 1, _ => none
  | _ :: l, 0, t => some (t :: l)
  | a :: l, n + 1, t => (putX l n t).map (a :: ·)
theorem putF_zip : ∀ {ns : List Str} {vs us : List V} {j : Nat} {f : Str} {v : V}, ns.Nodup → ns[j]? = some f → putX vs j v = some us → putF f v (ns.zip vs) = ns.zip us
  | [], _, _, _, _, _, _, h, _ => by simp at h
  | n :: ns, [], us, 0, f, v, _, h1, h2 => by
    simp only [List.getElem?_cons_zero, Option.some.injEq] at h1
    subst h1
    simp only [putX, Option.some.injEq] at h2
    subst h2
    rw [List.zip_nil_right]
    show [(n, v)] = (n, v) :: ns.zip []
    rw [List.zip_nil_right]
  | n :: ns, [], us, j + 1, f, v, _, _, h2 => by simp [putX] at h2
  | n :: ns, w :: vs, us, 0, f, v, _, h1, h2 => by
    simp only [List.getElem?_cons_zero, Option.some.injEq] at h1
    subst h1
    simp only [putX, Option.some.injEq] at h2
    subst h2
    show (if n = n then _ else _) = _
    rw [if_pos rfl]; rfl
  | n :: ns, w :: vs, us, j + 1, f, v, nd, h1, h2 => by
    simp only [List.getElem?_cons_succ] at h1
    obtain ⟨n1, n2⟩ := List.nodup_cons.mp nd
    simp only [putX, Option.map_eq_some_iff] at h2
    obtain ⟨us', h2, rfl⟩ := h2
    have hne : ¬ n = f := fun e => n1 (by rw [e]; exact List.mem_of_getElem? h1)
    show (if n = f then _ else (n, w) :: putF f v (ns.zip vs)) = _
    rw [if_neg hne, putF_zip n2 h1 h2]; rfl
theorem putX_len {α : Type} : ∀ {vs us : List α} {j : Nat} {v : α}, putX vs j v = some us → us.length ≤ vs.length + 1
  | [], us, 0, v, h => by simp only [putX, Option.some.injEq] at h; subst h; simp
  | [], us, j + 1, v, h => by simp [putX] at h
  | w :: vs, us, 0, v, h => by simp only [putX, Option.some.injEq] at h; subst h; simp
  | w :: vs, us, j + 1, v, h => by
    simp only [putX, Option.map_eq_some_iff] at h
    obtain ⟨us', h, rfl⟩ := h
    have := putX_len h
    simp; omega
theorem RpL.putX {K : PySem.W.Frag} {H : Hp} {t : T} {v : V} (h : Rp K H t v) : ∀ {ts us : List T} {vs : List V} {j : Nat}, RpL K H ts vs → Lw.putX ts j t = some us → ∃ ws, Lw.putX vs j v = some ws ∧ RpL K H us ws
  | [], us, _, 0, r, e => by
    rw [show _ = [] from r]
    simp only [Lw.putX, Option.some.injEq] at e
    subst e
    exact ⟨[v], rfl, RpL.one h⟩
  | [], us, _, j + 1, r, e => by simp [Lw.putX] at e
  | u :: ts, us, _, 0, ⟨w, r, e1, hw, hr⟩, e => by
    subst e1
    simp only [Lw.putX, Option.some.injEq] at e
    subst e
    exact ⟨v :: r, rfl, v, r, rfl, h, hr⟩
  | u :: ts, us, _, j + 1, ⟨w, r, e1, hw, hr⟩, e => by
    subst e1
    simp only [Lw.putX, Option.map_eq_some_iff] at e
    obtain ⟨us', e, rfl⟩ := e
    obtain ⟨ws, q1, q2⟩ := RpL.putX h hr e
    exact ⟨w :: ws, by simp [Lw.putX, q1], w, ws, rfl, hw, q2⟩
section
variable {X : Cx} {o e value : Expr} {es : List Expr} {x f m : Str} {ns : List Str} {j k : Nat} {qo qv : QE} {qa : QA} {sp : QSp} {ps : List Str} {pos pos' apos p : Pos}
def qFld (x : Str) (ns : List Str) (j : Nat) (qo : QE) : QE := fun ρ G Q => qo ρ G fun o G1 => match o with
  | .ref a => ∃ ts, G1 a = some (.ins x ns ts) ∧ (match nth ts j with | some t => Q t G1 | none => False)
  | _ => False
theorem e_fld (c : ClsAt X.K x ns) (hj : ns[j]? = some f) (nd : ns.Nodup) (ho : PE X o (cE X.K qo)) (hb : attributeBase o f X.env (eval o X.env) = eval o X.env := by rfl) : PE X (.Attribute o f pos) (cE X.K (qFld x ns j qo)) :=
  PE.wk (pe_fld ho hb) fun σ H KQ h => by
    obtain ⟨ρ, G, Q, e, a, q, g⟩ := h
    refine ⟨ρ, G, _, e, a, q, fun v H1 t G1 k1 a1 r1 q1 => ?_⟩
    split at q1
    · obtain ⟨ts, hg, q1⟩ := q1
      cases r1
      obtain ⟨C, dx, vs, hC, hp, r⟩ := a1 _ _ hg
      obtain ⟨C', hC', cc, na⟩ := c.ex
      rw [hC] at hC'
      cases hC'
      split at q1
      · rename_i t ht
        rw [nth_get] at ht
        obtain ⟨v, hv, rv⟩ := r.at ht
        exact ⟨_, C, dx, _, v, rfl, hp, cc, na f (List.mem_of_getElem? hj), lookup_zip nd hj hv, g v H1 t G1 k1 a1 rv q1⟩
      · exact q1.elim
    · exact q1.elim
def qSetFld (x : Str) (ns : List Str) (j : Nat) (qo qv : QE) : QS := fun D ρ G => qv ρ G fun t G1 => qo ρ G1 fun o G2 => match o with
  | .ref a => ∃ ts, G2 a = some (.ins x ns ts) ∧ (match putX ts j t with | some us => D.nx ρ (gput G2 a (.ins x ns us)) | none => False)
  | _ => False
theorem s_fld (c : ClsAt X.K x ns) (hj : ns[j]? = some f) (nd : ns.Nodup) (ho : PE X o (cE X.K qo)) (hv : PE X value (cE X.K qv)) (hn : ns.length < 1000 := by decide)
    (hs : swapsWith value (some (.Attribute o f pos')) pos.line X.env = pure false := by rfl) : PS X (.Assign [.Attribute o f pos'] value pos) (cS X.K (qSetFld x ns j qo qv)) := PS.wk (ps_fld ho hv hs) fun D σ H h => by
  obtain ⟨ρ, G, D', e, a, q, g⟩ := h
  refine ⟨ρ, G, _, e, a, q, fun v H1 t G1 k1 a1 r1 q1 => ?_⟩
  refine ⟨ρ, G1, _, e.mono k1, a1, q1, fun w H2 u G2 k2 a2 r2 q2 => ?_⟩
  split at q2
  · obtain ⟨ts, hg, q2⟩ := q2
    cases r2
    obtain ⟨C, dx, vs, hC, hp, r⟩ := a2 _ _ hg
    obtain ⟨C', hC', cc, na⟩ := c.ex
    rw [hC] at hC'
    cases hC'
    split at q2
    · rename_i us hu
      obtain ⟨ws, p1, p2⟩ := RpL.putX (r1.mono k2) r hu
      have wr : Wr H2 _ := Wr.of hp (fun _ z => by cases z) (fun _ _ z => by cases z)
      have k := Tups.set (o := .ins C dx (putF f v (ns.zip vs))) wr
      refine ⟨_, C, dx, _, rfl, hp, cc, na f (List.mem_of_getElem? hj), Nat.lt_of_le_of_lt (by rw [List.length_zip]; exact Nat.min_le_left _ _) hn, ?_⟩
      exact g.nx σ _ ρ _ ((k1.trans k2).trans k) (e.mono ((k1.trans k2).trans k)) (a2.put (o := .ins x ns us) wr ⟨C, dx, ws, hC, by rw [upd_same, putF_zip nd hj p1], RpL.mono k _ _ p2⟩) q2
    · exact q2.elim
  · exact q2.elim
/-! ### methods -/
structure MethOk (P : Program) (w : World) (K : PySem.W.Frag) (mg : Str → Option Value) (base : Heap) (k : Nat) (x m : Str) (ps : List Str) (sp : QSp) : Prop where
  ex : ∃ C f fd, PySem.W.nsIn K mainGlobals x = some (some (.ref C)) ∧ Cls K C ∧ Meth K C m f ∧ FnOk P w K mg base CX0 k f fd ps (cSp K sp) ∧ L2.Binds K fd ps []
structure MethAt (K : PySem.W.Frag) (x m qual : Str) (st : Stmt) (ps : List Str) : Prop where
  ex : ∃ C f fd, PySem.W.nsIn K mainGlobals x = some (some (.ref C)) ∧ Cls K C ∧ Meth K C m f ∧ Fun K m qual st f fd ∧ L2.Binds K fd ps []
structure MkOk (P : Program) (w : World) (K : PySem.W.Frag) (mg : Str → Option Value) (base : Heap) (k : Nat) (x : Str) (ps : List Str) (sp : QSp) : Prop where
  ex : ∃ C f fd, PySem.W.nsIn K mainGlobals x = some (some (.ref C)) ∧ mg x = some (.ref C) ∧ Mk K C f ∧ FnOk P w K mg base CX0 k f fd ps (cSp K sp) ∧ L2.Binds K fd ps []
structure MkAt (K : PySem.W.Frag) (mg : Str → Option Value) (x qual : Str) (st : Stmt) (ps : List Str) : Prop where
  ex : ∃ C f fd, PySem.W.nsIn K mainGlobals x = some (some (.ref C)) ∧ mg x = some (.ref C) ∧ Mk K C f ∧ Fun K "__init__" qual st f fd ∧ L2.Binds K fd ps []
end
section
variable {P : Program} {w : World} {K : PySem.W.Frag} {mg : Str → Option Value} {base : Heap}
theorem okm {x m qual : Str} {st : Stmt} {N ps : List Str} {k : Nat} {sp : QSp} {q : QS} (F : MethAt K x m qual st ps) (S : FnScope N ps (defScope st)) (len : ∀ ts G Q E, sp ts G Q E → ts.length = ps.length)
    (der : ∀ (f : Addr) (cdv : Value) (A : Around) (outer : List PySem.Env) (s : Shared) (H : Hp) (E : XK), Room k (A.deeper (envOfC qual (defScope st) s.heap.objs.size f cdv)) → PSs (cxOf CX0 P w K mg base N qual (defScope st) f cdv A outer s H E).nox (defBody st) (cS K q))
    (run : ∀ ts G Q E, sp ts G Q E → normK (startT N ts) fun ρ => q (endOf Q) ρ G) : MethOk P w K mg base (k + 1) x m ps sp := by
  obtain ⟨C, f, fd, hC, c, hm, F, b⟩ := F.ex
  exact ⟨C, f, fd, hC, c, hm, okq F S len (der f) run, b⟩
theorem oki {x qual : Str} {st : Stmt} {N ps : List Str} {k : Nat} {sp : QSp} {q : QS} (F : MkAt K mg x qual st ps) (S : FnScope N ps (defScope st)) (len : ∀ ts G Q E, sp ts G Q E → ts.length = ps.length)
    (der : ∀ (f : Addr) (cdv : Value) (A : Around) (outer : List PySem.Env) (s : Shared) (H : Hp) (E : XK), Room k (A.deeper (envOfC qual (defScope st) s.heap.objs.size f cdv)) → PSs (cxOf CX0 P w K mg base N qual (defScope st) f cdv A outer s H E).nox (defBody st) (cS K q))
    (run : ∀ ts G Q E, sp ts G Q E → normK (startT N ts) fun ρ => q (endOf Q) ρ G) : MkOk P w K mg base (k + 1) x ps sp := by
  obtain ⟨C, f, fd, hC, hm, mk, F, b⟩ := F.ex
  exact ⟨C, f, fd, hC, hm, mk, okq F S len (der f) run, b⟩
end
section
variable {X : Cx} {o e value : Expr} {es : List Expr} {x f m : Str} {ns : List Str} {j k : Nat} {qo qv : QE} {qa : QA} {sp : QSp} {ps : List Str} {pos pos' apos p : Pos}
def qMeth (x : Str) (ns : List Str) (sp : QSp) (qo : QE) (qa : QA) : QE := fun ρ G Q => qo ρ G fun o G1 => match o with
  | .ref a => (∃ ts, G1 a = some (.ins x ns ts)) ∧ qa ρ G1 fun us G2 => sp (.ref a :: us) G2 Q X0
  | _ => False
theorem e_meth (D : MethOk X.prog X.w X.K X.mg X.base k x m ps sp) (hr : Room k X.A) (hm : m ∉ ns) {pl : Sem Bool} (ho : PE X o (cE X.K qo)) (ha : PA X (e :: es) (cA X.K qa))
    (hst : starEach (e :: es) X.env = (false, eval e X.env) :: starEach es X.env := by rfl) (hpl : (backTo pos (starEach es X.env)).any (·.1) = false := by rfl)
    (ht : eval (.Call (.Attribute o m apos) (e :: es) [] pos) X.env = (do
      let ov ← eval o X.env
      standAt apos.atName
      let (f, first) ← holding [ov] (getMethod ov m pl)
      callWith pos f first (backTo pos (starEach (e :: es) X.env)) (backToKw pos (keywordEach [] X.env))) := by rfl) :
    PE X (.Call (.Attribute o m apos) (e :: es) [] pos) (cE X.K (qMeth x ns sp qo qa)) := by
  obtain ⟨C, f, fd, hC, c, hmm, F, b⟩ := D.ex
  refine PE.wk (pe_meth ho c hmm F hr b .nil pass0 ha hst hpl ht) fun σ H KQ h => ?_
  obtain ⟨ρ, G, Q, e, a, q, g⟩ := h
  refine ⟨ρ, G, _, e, a, q, fun v H1 t G1 k1 a1 r1 q1 => ?_⟩
  split at q1
  · obtain ⟨⟨ts, hg⟩, q1⟩ := q1
    cases r1
    obtain ⟨C', dx, vs, hC', hp, r⟩ := a1 _ _ hg
    rw [hC'] at hC
    cases hC
    refine ⟨_, dx, _, rfl, hp, lookup_zip_none hm, ρ, G1, _, e.mono k1, a1, q1, fun vs2 H2 us G2 k2 a2 r2 q2 => ?_⟩
    exact ⟨_, G2, Q, X0, by rw [List.append_nil]; exact ⟨_, _, rfl, rfl, r2⟩, a2, q2, g.from (k1.trans k2), folx0⟩
  · exact q1.elim
theorem e_meth0 (D : MethOk X.prog X.w X.K X.mg X.base k x m ps sp) (hr : Room k X.A) (hm : m ∉ ns) {pl : Sem Bool} (ho : PE X o (cE X.K qo))
    (ht : eval (.Call (.Attribute o m apos) [] [] pos) X.env = (do
      let ov ← eval o X.env
      standAt apos.atName
      let (f, first) ← holding [ov] (getMethod ov m pl)
      callWith pos f first (backTo pos (starEach [] X.env)) (backToKw pos (keywordEach [] X.env))) := by rfl) :
    PE X (.Call (.Attribute o m apos) [] [] pos) (cE X.K (qMeth x ns sp qo qNil)) := by
  obtain ⟨C, f, fd, hC, c, hmm, F, b⟩ := D.ex
  refine PE.wk (pe_meth0 ho c hmm F hr b .nil pass0 ht) fun σ H KQ h => ?_
  obtain ⟨ρ, G, Q, e, a, q, g⟩ := h
  refine ⟨ρ, G, _, e, a, q, fun v H1 t G1 k1 a1 r1 q1 => ?_⟩
  split at q1
  · obtain ⟨⟨ts, hg⟩, q1⟩ := q1
    cases r1
    obtain ⟨C', dx, vs, hC', hp, r⟩ := a1 _ _ hg
    rw [hC'] at hC
    cases hC
    refine ⟨_, dx, _, rfl, hp, lookup_zip_none hm, ?_⟩
    exact ⟨[.ref _], G1, Q, X0, ⟨_, _, rfl, rfl, rfl⟩, a1, q1, g.from k1, folx0⟩
  · exact q1.elim
def qMake (x : Str) (ns : List Str) (sp : QSp) (qa : QA) : QE := fun ρ G Q => qa ρ G fun ts G1 => ∀ p, G1 p = none → sp (.ref p :: ts) (gput G1 p (.ins x ns [])) (fun t G2 => t = .non ∧ Q (.ref p) G2) X0
theorem e_make (D : MkOk X.prog X.w X.K X.mg X.base k x ps sp) (hr : Room (k + 1) X.A) (hg : Gl X x) (ha : PA X (e :: es) (cA X.K qa)) (hdb : (x == ("__debug__" : Str)) = false := by decide)
    (he : starEach (e :: es) X.env = (false, eval e X.env) :: starEach es X.env := by rfl) (hpl : (backTo pos (starEach es X.env)).any (·.1) = false := by rfl) : PE X (.Call (.Name x p) (e :: es) [] pos) (cE X.K (qMake x ns sp qa)) := by
  obtain ⟨C, f, fd, hC, hm, mk, F, b⟩ := D.ex
  refine PE.wk (pe_make mk F hr hg hm b .nil pass0 ha hdb he hpl) fun σ H KQ h => ?_
  obtain ⟨ρ, G, Q, e, a, q, g⟩ := h
  refine ⟨ρ, G, _, e, a, q, fun vs H1 ts G1 k1 a1 r1 q1 => fun y dx hy hdx hne => ?_⟩
  have n1 : upd H1 dx (.own y) y = none := by rw [upd_ne (Ne.symm hne)]; exact hy
  have k2 : Tups H1 (upd H1 dx (.own y)) := Tups.new hdx
  have k3 : Tups (upd H1 dx (.own y)) (upd (upd H1 dx (.own y)) y (.ins C dx [])) := Tups.new n1
  have a2 := a1.grow (u := .own y) hdx
  have a3 : Abs X.K _ (gput G1 y (.ins x ns [])) := a2.put (u := .ins C dx []) (o := .ins x ns []) ⟨fun xs z => (by rw [n1] at z; cases z), fun o xs z => (by rw [n1] at z; cases z)⟩ ⟨C, dx, [], hC, by rw [upd_same, List.zip_nil_right], rfl⟩
  refine ⟨.ref y :: ts, _, _, X0, by rw [List.append_nil]; exact ⟨_, _, rfl, rfl, RpL.mono (k2.trans k3) _ _ r1⟩, a3, q1 y (a1.free hy), fun v H' t G' k4 a4 r4 q4 => ?_, folx0⟩
  obtain ⟨e1, q4⟩ := q4
  subst e1
  exact ⟨r4, g (.ref y) H' (.ref y) G' (k1.trans ((k2.trans k3).trans k4)) a4 rfl q4⟩
end
section
variable {K : PySem.W.Frag} {mg : Str → Option Value} {x m qual : Str} {st : Stmt} {ps : List Str} {C f : Addr} {oc : Value} {od an : Option Addr} {osl : Array (Option Value)} {kV doc pm cdv ct : Value}
theorem methAt_mk (hC : PySem.W.nsIn K mainGlobals x = some (some (.ref C))) (c : Cls K C) (a : PySem.W.findIn K (.ref C) m = some (some (.ref f))) (i : PySem.W.isFn K (.ref f) = true)
    (l : K.lookup f = some ⟨oc, od, .func (PySem.W.fnOf m qual (defArgs st) (defBody st) (defScope st) .none kV doc pm an cdv ct), osl⟩) (cc : PySem.W.codeIn K cdv qual = true) (k : PySem.W.keepIn K (.ref f) = true)
    (hb : ∀ (kV doc pm : Value) (an : Option Addr) (cdv ct : Value) (us : List Value), us.length = ps.length → bindArgs (PySem.W.fnOf m qual (defArgs st) (defBody st) (defScope st) .none kV doc pm an cdv ct) ⟨us, []⟩ = pure (ps.zip us)) : MethAt K x m qual st ps :=
  have F := fun_mk (st := st) l cc k
  ⟨⟨C, f, _, hC, c, ⟨a, i, k⟩, F, F.binds hb⟩⟩
theorem mkAt_mk (hC : PySem.W.nsIn K mainGlobals x = some (some (.ref C))) (hm : mg x = some (.ref C)) (mk : PySem.W.makesIn K C = true) (kc : PySem.W.keepIn K (.ref C) = true) (a : PySem.W.findIn K (.ref C) "__init__" = some (some (.ref f))) (i : PySem.W.isFn K (.ref f) = true)
    (l : K.lookup f = some ⟨oc, od, .func (PySem.W.fnOf "__init__" qual (defArgs st) (defBody st) (defScope st) .none kV doc pm an cdv ct), osl⟩) (cc : PySem.W.codeIn K cdv qual = true) (k : PySem.W.keepIn K (.ref f) = true)
    (hb : ∀ (kV doc pm : Value) (an : Option Addr) (cdv ct : Value) (us : List Value), us.length = ps.length → bindArgs (PySem.W.fnOf "__init__" qual (defArgs st) (defBody st) (defScope st) .none kV doc pm an cdv ct) ⟨us, []⟩ = pure (ps.zip us)) : MkAt K mg x qual st ps :=
  have F := fun_mk (st := st) l cc k
  ⟨⟨C, f, _, hC, hm, ⟨mk, a, i, kc⟩, F, F.binds hb⟩⟩
end
end Lw

set_option Elab.async false
set_option linter.all false
set_option maxRecDepth 100000
set_option maxHeartbeats 4000000
namespace Lw
open PySem PySem.Spec PyProof.Rows L2
/-! ### dicts with keys that are whole numbers or texts -/
def keyT : T → Option Key
  | .int i => some (.inl i)
  | .str x => some (.inr x)
  | _ => none
def kT : Key → T
  | .inl i => .int i
  | .inr x => .str x
theorem keyT_rp {K : PySem.W.Frag} {H : Hp} {t : T} {v : V} {k : Key} (h : keyT t = some k) (r : Rp K H t v) : v = kV k := by
  cases t <;> simp only [keyT, Option.some.injEq, reduceCtorEq] at h <;> (subst h; exact r)
section
variable {κ : Type} [DecidableEq κ]
def valT (kvs : List (κ × T)) (k : κ) : Option T := (kvs.find? fun kv => decide (kv.1 = k)).map (·.2)
def putT (kvs : List (κ × T)) (k : κ) (t : T) : List (κ × T) := if (kvs.any fun kv => decide (kv.1 = k)) = true then kvs.map (fun kv => if kv.1 = k then (kv.1, t) else kv) else kvs ++ [(k, t)]
theorem RpK.val {K : PySem.W.Frag} {H : Hp} {k : κ} : ∀ {ps : List (κ × T)} {ws : List (κ × V)}, RpK K H ps ws → (valV ws k).isSome = (valT ps k).isSome ∧ ∀ t, valT ps k = some t → ∃ v, valV ws k = some v ∧ Rp K H t v
  | [], _, h => by
    rw [show _ = [] from h]
    exact ⟨rfl, fun t z => by simp [valT] at z⟩
  | p :: ps, _, ⟨v, r, e, h, hr⟩ => by
    subst e
    by_cases c : p.1 = k
    · have e1 : valV ((p.1, v) :: r) k = some v := valV_pos c
      have e2 : valT (p :: ps) k = some p.2 := by simp [valT, c]
      rw [e1, e2]
      exact ⟨rfl, fun t z => by cases z; exact ⟨v, rfl, h⟩⟩
    · have e1 : valV ((p.1, v) :: r) k = valV r k := valV_neg c
      have e2 : valT (p :: ps) k = valT ps k := by simp [valT, c]
      rw [e1, e2]
      exact RpK.val hr
theorem RpK.len {K : PySem.W.Frag} {H : Hp} : ∀ {ps : List (κ × T)} {ws : List (κ × V)}, RpK K H ps ws → ws.length = ps.length
  | [], _, h => by rw [show _ = [] from h]; rfl
  | p :: ps, _, ⟨v, r, e, h, hr⟩ => by rw [e, List.length_cons, RpK.len hr]; rfl
theorem RpK.any {K : PySem.W.Frag} {H : Hp} {k : κ} : ∀ {ps : List (κ × T)} {ws : List (κ × V)}, RpK K H ps ws → (ws.any fun kv => decide (kv.1 = k)) = (ps.any fun kv => decide (kv.1 = k))
  | [], _, h => by rw [show _ = [] from h]; rfl
  | p :: ps, _, ⟨v, r, e, h, hr⟩ => by
    subst e
    show (decide (p.1 = k) || _) = (decide (p.1 = k) || _)
    rw [RpK.any hr]
theorem RpK.snoc {K : PySem.W.Frag} {H : Hp} {k : κ} {t : T} {v : V} (q : Rp K H t v) : ∀ {ps : List (κ × T)} {ws : List (κ × V)}, RpK K H ps ws → RpK K H (ps ++ [(k, t)]) (ws ++ [(k, v)])
  | [], _, h => by rw [show _ = [] from h]; exact ⟨v, [], rfl, q, rfl⟩
  | p :: ps, _, ⟨w, r, e, h, hr⟩ => ⟨w, r ++ [(k, v)], by rw [e]; rfl, h, RpK.snoc q hr⟩
theorem RpK.upd {K : PySem.W.Frag} {H : Hp} {k : κ} {t : T} {v : V} (q : Rp K H t v) : ∀ {ps : List (κ × T)} {ws : List (κ × V)}, RpK K H ps ws → RpK K H (ps.map fun kv => if kv.1 = k then (kv.1, t) else kv) (ws.map fun kv => if kv.1 = k then (kv.1, v) else kv)
  | [], _, h => by rw [show _ = [] from h]; rfl
  | p :: ps, _, ⟨w, r, e, h, hr⟩ => by
    subst e
    rw [List.map_cons, List.map_cons]
    by_cases c : p.1 = k
    · rw [if_pos c, if_pos (show (p.1, w).1 = k from c)]
      exact ⟨v, _, rfl, q, RpK.upd q hr⟩
    · rw [if_neg c, if_neg (show ¬ (p.1, w).1 = k from c)]
      exact ⟨w, _, rfl, h, RpK.upd q hr⟩
theorem RpK.put {K : PySem.W.Frag} {H : Hp} {k : κ} {t : T} {v : V} (q : Rp K H t v) {ps : List (κ × T)} {ws : List (κ × V)} (h : RpK K H ps ws) : RpK K H (putT ps k t) (L2.putK ws k v) := by
  unfold putT L2.putK
  rw [h.any]
  split
  · exact h.upd q
  · exact h.snoc q
end
section
variable {X : Cx} {o i k e value : Expr} {qo qi qk qd qv : QE} {pos pos' : Pos}
/-- {} -/
def qD0 : QE := fun _ G Q => ∀ p, G p = none → Q (.ref p) (gput G p (.dK []))
theorem e_d0 : PE X (.Dict [] [] pos) (cE X.K qD0) := PE.wk pe_dnewK fun σ H KQ h => by
  obtain ⟨ρ, G, Q, e, a, q, f⟩ := h
  intro p hp
  have k2 : Tups H (upd H p (.dK [])) := Tups.new hp
  exact f (.ref p) _ (.ref p) _ k2 (a.put (o := .dK []) ⟨fun xs z => (by rw [hp] at z; cases z), fun o xs z => (by rw [hp] at z; cases z)⟩ ⟨[], upd_same, rfl⟩) rfl (q p (a.free hp))
/-- k in d -/
def qDIn (neg : Bool) (qk qd : QE) : QE := fun ρ G Q => qk ρ G fun y G1 => qd ρ G1 fun x G2 => match x with
  | .ref a => ∃ k kvs, keyT y = some k ∧ G2 a = some (.dK kvs) ∧ Q (.bl (neg != (valT kvs k).isSome)) G2
  | _ => False
theorem din_wk : ∀ σ H KQ, cE X.K (qDIn false qk qd) σ H KQ → tDIn (cE X.K qk) (cE X.K qd) σ H KQ := fun σ H KQ h => by
  obtain ⟨ρ, G, Q, e, a, q, g⟩ := h
  refine ⟨ρ, G, _, e, a, q, fun v H1 t G1 k1 a1 r1 q1 => ?_⟩
  refine ⟨ρ, G1, _, e.mono k1, a1, q1, fun w H2 u G2 k2 a2 r2 q2 => ?_⟩
  split at q2
  · obtain ⟨k, kvs, hk, hg, q2⟩ := q2
    cases r2
    obtain ⟨ws, hp, r⟩ := a2 _ _ hg
    have ev := keyT_rp hk (r1.mono k2)
    subst ev
    refine ⟨_, _, rfl, DGet.k (k := k) hp, ?_⟩
    rw [(r.val (k := k)).1]
    rw [Bool.false_bne] at q2
    exact g _ H2 (.bl _) G2 (k1.trans k2) a2 rfl q2
  · exact q2.elim
theorem dnotin_wk : ∀ σ H KQ, cE X.K (qDIn true qk qd) σ H KQ → tDNotIn (cE X.K qk) (cE X.K qd) σ H KQ := fun σ H KQ h => by
  obtain ⟨ρ, G, Q, e, a, q, g⟩ := h
  refine ⟨ρ, G, _, e, a, q, fun v H1 t G1 k1 a1 r1 q1 => ?_⟩
  refine ⟨ρ, G1, _, e.mono k1, a1, q1, fun w H2 u G2 k2 a2 r2 q2 => ?_⟩
  split at q2
  · obtain ⟨k, kvs, hk, hg, q2⟩ := q2
    cases r2
    obtain ⟨ws, hp, r⟩ := a2 _ _ hg
    have ev := keyT_rp hk (r1.mono k2)
    subst ev
    refine ⟨_, _, rfl, DGet.k (k := k) hp, ?_⟩
    rw [(r.val (k := k)).1]
    rw [Bool.true_bne] at q2
    exact g _ H2 (.bl _) G2 (k1.trans k2) a2 rfl q2
  · exact q2.elim
theorem un1 {k : Nat} {A : Around} (r : Room k A) : A.units + 1 < cLine := by have := r.un; omega
theorem tB_of {q : QE} {t : TE} (w : ∀ σ H KQ, cE X.K q σ H KQ → t σ H KQ) {c : Expr} (h : PT X c (tB t)) : PT X c (cT X.K (qTB q)) := PT.wk h fun σ H KQ h => by
  obtain ⟨ρ, G, Q, e, a, q, g⟩ := h
  refine w σ H _ ⟨ρ, G, _, e, a, q, fun v H1 t G1 k1 a1 r1 q1 => ?_⟩
  cases t with
  | bl b => exact ⟨b, r1, g b H1 G1 k1 a1 q1⟩
  | _ => exact q1.elim
theorem e_din (hu : X.A.units + 1 < cLine) (hk : PE X k (cE X.K qk)) (hd : PE X o (cE X.K qd)) (hm : behindInMarks .In o = false := by rfl) : PE X (.Compare k [.In] [o] pos) (cE X.K (qDIn false qk qd)) := PE.wk (pe_cmp (pc_din hu hk hd) hm) din_wk
theorem t_din (hu : X.A.units + 1 < cLine) (hk : PE X k (cE X.K qk)) (hd : PE X o (cE X.K qd)) (hm : behindInMarks .In o = false := by rfl) : PT X (.Compare k [.In] [o] pos) (cT X.K (qTB (qDIn false qk qd))) := tB_of din_wk (pt_cmp (pc_din hu hk hd) hm)
theorem e_dnotin (hu : X.A.units + 1 < cLine) (hk : PE X k (cE X.K qk)) (hd : PE X o (cE X.K qd)) (hm : behindInMarks .NotIn o = false := by rfl) : PE X (.Compare k [.NotIn] [o] pos) (cE X.K (qDIn true qk qd)) := PE.wk (pe_cmp (pc_dnotin hu hk hd) hm) dnotin_wk
theorem t_dnotin (hu : X.A.units + 1 < cLine) (hk : PE X k (cE X.K qk)) (hd : PE X o (cE X.K qd)) (hm : behindInMarks .NotIn o = false := by rfl) : PT X (.Compare k [.NotIn] [o] pos) (cT X.K (qTB (qDIn true qk qd))) := tB_of dnotin_wk (pt_cmp (pc_dnotin hu hk hd) hm)
/-- d[k] -/
def qDGet (qd qk : QE) : QE := fun ρ G Q => qd ρ G fun x G1 => qk ρ G1 fun y G2 => match x with
  | .ref a => ∃ k kvs t, keyT y = some k ∧ G2 a = some (.dK kvs) ∧ valT kvs k = some t ∧ Q t G2
  | _ => False
theorem e_dget (hu : X.A.units + 1 < cLine) (hd : PE X o (cE X.K qd)) (hk : PE X i (cE X.K qk)) (hs : NoSl i) : PE X (.Subscript o i pos) (cE X.K (qDGet qd qk)) := PE.wk (pe_dget hu hd hk hs) fun σ H KQ h => by
  obtain ⟨ρ, G, Q, e, a, q, g⟩ := h
  refine ⟨ρ, G, _, e, a, q, fun v H1 t G1 k1 a1 r1 q1 => ?_⟩
  refine ⟨ρ, G1, _, e.mono k1, a1, q1, fun w H2 u G2 k2 a2 r2 q2 => ?_⟩
  split at q2
  · obtain ⟨k, kvs, t, hk, hg, hv, q2⟩ := q2
    cases r1
    obtain ⟨ws, hp, r⟩ := a2 _ _ hg
    have ev := keyT_rp hk r2
    subst ev
    obtain ⟨v, e1, rv⟩ := (r.val (k := k)).2 t hv
    exact ⟨_, v, rfl, by rw [← e1]; exact DGet.k (k := k) hp, g v H2 t G2 (k1.trans k2) a2 rv q2⟩
  · exact q2.elim
/-- d[k] = v -/
def qDPut (qd qk qv : QE) : QS := fun D ρ G => qv ρ G fun t G1 => qd ρ G1 fun x G2 => qk ρ G2 fun y G3 => match x with
  | .ref a => ∃ k kvs, keyT y = some k ∧ G3 a = some (.dK kvs) ∧ kvs.length < 100000 ∧ D.nx ρ (gput G3 a (.dK (putT kvs k t)))
  | _ => False
theorem s_dput (hu : X.A.units + 1 < cLine) (hd : PE X o (cE X.K qd)) (hk : PE X i (cE X.K qk)) (hv : PE X value (cE X.K qv)) (hs : swapsWith value (some (.Subscript o i pos')) pos.line X.env = pure false := by rfl) :
    PS X (.Assign [.Subscript o i pos'] value pos) (cS X.K (qDPut qd qk qv)) := PS.wk (ps_dput hu hd hk hv hs) fun D σ H h => by
  obtain ⟨ρ, G, D', e, a, q, g⟩ := h
  refine ⟨ρ, G, _, e, a, q, fun v H1 t G1 k1 a1 r1 q1 => ?_⟩
  refine ⟨ρ, G1, _, e.mono k1, a1, q1, fun w H2 u G2 k2 a2 r2 q2 => ?_⟩
  refine ⟨ρ, G2, _, e.mono (k1.trans k2), a2, q2, fun w3 H3 u3 G3 k3 a3 r3 q3 => ?_⟩
  split at q3
  · obtain ⟨k, kvs, hk, hg, hz, q3⟩ := q3
    cases r2
    obtain ⟨ws, hp, r⟩ := a3 _ _ hg
    have ev := keyT_rp hk r3
    subst ev
    have wr : Wr H3 _ := Wr.of hp (fun _ z => by cases z) (fun _ _ z => by cases z)
    have kk := Tups.set (o := .dK (L2.putK ws k v)) wr
    have k13 := (k1.trans k2).trans k3
    refine ⟨_, _, rfl, DPut.k (k := k) hp (by rw [r.len]; exact Nat.lt_of_lt_of_le hz (by decide)), ?_⟩
    exact g.nx σ _ ρ _ (k13.trans kk) (e.mono (k13.trans kk)) (a3.put (o := .dK (putT kvs k t)) wr ⟨_, upd_same, (RpK.put (r1.mono (k2.trans k3)) r).mono kk⟩) q3
  · exact q3.elim
/-! ### a dict as a record: written names, each its value -/
def qRGet (ns : List Str) (j : Nat) (qd : QE) : QE := fun ρ G Q => qd ρ G fun x G1 => match x with
  | .ref a => ∃ ts, G1 a = some (.rcd ns ts) ∧ (match nth ts j with | some t => Q t G1 | none => False)
  | _ => False
theorem valV_zip : ∀ {ns : List Str} {vs : List V} {j : Nat} {f : Str} {v : V}, ns.Nodup → ns[j]? = some f → vs[j]? = some v → valV (((ns.map Sum.inr : List Key)).zip vs) (.inr f) = some v
  | [], _, _, _, _, _, h, _ => by simp at h
  | n :: ns, [], _, _, _, _, _, h => by simp at h
  | n :: ns, w :: vs, 0, f, v, _, h1, h2 => by
    simp only [List.getElem?_cons_zero, Option.some.injEq] at h1 h2
    subst h1 h2
    exact valV_pos (p := (Sum.inr n, w)) rfl
  | n :: ns, w :: vs, j + 1, f, v, nd, h1, h2 => by
    simp only [List.getElem?_cons_succ] at h1 h2
    obtain ⟨n1, n2⟩ := List.nodup_cons.mp nd
    have hne : ¬ (Sum.inr n : Key) = .inr f := fun e => n1 (by rw [Sum.inr.inj e]; exact List.mem_of_getElem? h1)
    exact (valV_neg (p := (Sum.inr n, w)) hne).trans (valV_zip n2 h1 h2)
theorem e_rget {ns : List Str} {j : Nat} {f : Str} {kk : Nat} {p2 : Pos} (hu : X.A.units + 1 < cLine) (hj : ns[j]? = some f) (nd : ns.Nodup) (hd : PE X o (cE X.K qd)) (hs : NoSl (.Constant (.str f) kk p2) := by intro _ _; rfl) :
    PE X (.Subscript o (.Constant (.str f) kk p2) pos) (cE X.K (qRGet ns j qd)) := PE.wk (pe_dget hu hd pe_str hs) fun σ H KQ h => by
  obtain ⟨ρ, G, Q, e, a, q, g⟩ := h
  refine ⟨ρ, G, _, e, a, q, fun v H1 t G1 k1 a1 r1 q1 => ?_⟩
  split at q1
  · obtain ⟨ts, hg, q1⟩ := q1
    cases r1
    obtain ⟨vs, hp, r⟩ := a1 _ _ hg
    split at q1
    · rename_i t ht
      rw [nth_get] at ht
      obtain ⟨v, hv, rv⟩ := r.at ht
      refine ⟨_, v, rfl, ?_, g v H1 t G1 k1 a1 rv q1⟩
      have := DGet.k (k := .inr f) hp
      rw [valV_zip nd hj hv] at this
      exact this
    · exact q1.elim
  · exact q1.elim
/-- the values of a display, from the left -/
def qVals : List QE → QA
  | [] => fun _ G Q => Q [] G
  | q :: qs => fun ρ G Q => q ρ G fun t G1 => qVals qs ρ G1 fun ts G2 => Q (t :: ts) G2
def qRcd (ns : List Str) (qs : List QE) : QE := fun ρ G Q => ∀ p, G p = none → qVals qs ρ (gput G p (.dK [])) fun ts G1 => G1 p = some (.dK []) ∧ Q (.ref p) (gput G1 p (.rcd ns ts))
inductive Fields (X : Cx) : List Str → List (Option Expr) → List Expr → List QE → List (TE × TE) → Prop
  | nil : Fields X [] [] [] [] []
  | cons {f : Str} {kk : Nat} {p2 : Pos} {v : Expr} {q : QE} {ns ks vs qs trs} : PE X v (cE X.K q) → Fields X ns ks vs qs trs → Fields X (f :: ns) (some (.Constant (.str f) kk p2) :: ks) (v :: vs) (q :: qs) ((tC (.str f), cE X.K q) :: trs)
theorem Fields.pps {ns ks vs qs trs} (h : Fields X ns ks vs qs trs) : PPs X pos ks vs trs := by
  induction h with
  | nil => exact pps_nil
  | cons hv _ ih => exact pps_cons pe_str hv ih
theorem Fields.run {ns ks vs qs trs} (h : Fields X ns ks vs qs trs) : ∀ {σ : L2.St} {H : Hp} {ρ : REnv} {G : Gp} {Q : List T → Gp → Prop} {KQ : List (V × V) → Hp → Prop}, EnvR X.K H ρ σ → Abs X.K H G → qVals qs ρ G Q →
    (∀ vs H' ts G', Tups H H' → Abs X.K H' G' → RpL X.K H' ts vs → vs.length = ns.length → Q ts G' → KQ (((ns.map V.str)).zip vs) H') → tPairs trs σ H KQ := by
  induction h with
  | nil => intro σ H ρ G Q KQ e a q f; exact f [] H [] G (Tups.refl H) a rfl rfl q
  | @cons f kk p2 v q ns ks vs qs trs hv _ ih =>
    intro σ H ρ G Q KQ e a q0 g
    show tC (.str f) σ H fun x H1 => _
    refine ⟨ρ, G, _, e, a, q0, fun w H1 t G1 k1 a1 r1 q1 => ?_⟩
    exact ih (e.mono k1) a1 q1 fun ws H2 ts G2 k2 a2 r2 hl q2 => g (w :: ws) H2 (t :: ts) G2 (k1.trans k2) a2 ⟨w, ws, rfl, r1.mono k2, r2⟩ (by simp [hl]) q2
theorem mergeK_zip : ∀ {ns : List Str} {vs : List V} {acc : List (Key × V)}, ns.Nodup → vs.length = ns.length → (∀ n ∈ ns, ∀ p ∈ acc, p.1 ≠ .inr n) → mergeK acc (((ns.map Sum.inr : List Key)).zip vs) = acc ++ ((ns.map Sum.inr : List Key)).zip vs
  | [], _, acc, _, _, _ => by simp [mergeK]
  | n :: ns, [], _, _, h, _ => by simp at h
  | n :: ns, v :: vs, acc, nd, hl, hn => by
    obtain ⟨n1, n2⟩ := List.nodup_cons.mp nd
    have e : L2.putK acc (.inr n) v = acc ++ [(.inr n, v)] := by
      unfold L2.putK
      rw [if_neg]
      intro z
      rw [List.any_eq_true] at z
      obtain ⟨p, hp, z⟩ := z
      exact hn n List.mem_cons_self p hp (of_decide_eq_true z)
    show mergeK (L2.putK acc (.inr n) v) (((ns.map Sum.inr : List Key)).zip vs) = _
    rw [e, mergeK_zip n2 (by simpa using hl) (fun m hm p hp => ?_)]
    · simp
    · rcases List.mem_append.mp hp with z | z
      · exact hn m (List.mem_cons_of_mem _ hm) p z
      · rw [List.mem_singleton.mp z]
        intro q
        exact n1 (by rw [Sum.inr.inj q]; exact hm)
theorem e_rcd {ns ks vs qs trs} (h : Fields X ns ks vs qs trs) (nd : ns.Nodup) (hall : ks.all (·.isSome) = true) (hl : ks.length = vs.length) (h0 : ks ≠ []) (h15 : ks.length ≤ 15) (hn : ns.length ≤ 15) : PE X (.Dict ks vs pos) (cE X.K (qRcd ns qs)) :=
  PE.wk (pe_disp h.pps hall hl h0 h15) fun σ H KQ h2 => by
    obtain ⟨ρ, G, Q, e, a, q, g⟩ := h2
    intro p hp
    have k1 : Tups H (upd H p (.dK [])) := Tups.new hp
    have a1 := a.put (u := .dK []) (o := .dK []) (p := p) ⟨fun xs z => (by rw [hp] at z; cases z), fun o xs z => (by rw [hp] at z; cases z)⟩ ⟨[], upd_same, rfl⟩
    refine h.run (e.mono k1) a1 (q p (a.free hp)) fun ws H2 ts G2 k2 a2 r2 hlen q2 => ?_
    obtain ⟨gp, q2⟩ := q2
    obtain ⟨ws0, hp2, r0⟩ := a2 _ _ gp
    rw [show ws0 = [] from r0] at hp2
    have wr : Wr H2 p := Wr.of hp2 (fun _ z => by cases z) (fun _ _ z => by cases z)
    refine ⟨hp2, ((ns.map Sum.inr : List Key)).zip ws, ?_, ?_, ?_⟩
    · rw [List.zip_map_left, List.zip_map_left, List.map_map]; rfl
    · rw [List.length_zip, List.length_map]; omega
    · rw [mergeK_zip nd hlen (fun _ _ p hp => by cases hp), List.nil_append]
      have k3 := Tups.set (o := .dK (((ns.map Sum.inr : List Key)).zip ws)) wr
      exact g (.ref p) _ (.ref p) _ ((k1.trans k2).trans k3) (a2.put (o := .rcd ns ts) wr ⟨ws, upd_same, RpL.mono k3 _ _ r2⟩) rfl q2
/-! ### xs[::-1] of a list -/
def qRev (qe : QE) : QE := fun ρ G Q => qe ρ G fun x G1 => match x with | .ref a => ∃ ts, G1 a = some (.lst ts) ∧ ∀ p, G1 p = none → Q (.ref p) (gput G1 p (.lst ts.reverse)) | _ => False
theorem RpL.rev {K : PySem.W.Frag} {H : Hp} : ∀ {ts : List T} {vs : List V}, RpL K H ts vs → RpL K H ts.reverse vs.reverse
  | [], _, h => by rw [show _ = [] from h]; rfl
  | t :: ts, _, ⟨v, r, e, h, hr⟩ => by
    rw [e, List.reverse_cons, List.reverse_cons]
    exact (RpL.rev hr).append (RpL.one h)
theorem e_rev {qe : QE} {kk : Nat} {p1 p2 p3 : Pos} (h : PE X e (cE X.K qe)) : PE X (.Subscript e (.Slice none none (some (.UnaryOp .USub (.Constant (.int 1) kk p1) p2)) p3) pos) (cE X.K (qRev qe)) := PE.wk (pe_revL h) fun σ H KQ h => by
  obtain ⟨ρ, G, Q, e, a, q, g⟩ := h
  refine ⟨ρ, G, _, e, a, q, fun v H1 t G1 k1 a1 r1 q1 => ?_⟩
  split at q1
  · obtain ⟨ts, hg, q1⟩ := q1
    cases r1
    obtain ⟨vs, hp, r⟩ := a1 _ _ hg
    refine ⟨_, vs, rfl, SqL.of hp, fun p hp0 => ?_⟩
    have k2 : Tups H1 (upd H1 p (.lst vs.reverse)) := Tups.new hp0
    exact g (.ref p) _ (.ref p) _ (k1.trans k2) (a1.put (o := .lst ts.reverse) ⟨fun xs z => (by rw [hp0] at z; cases z), fun o xs z => (by rw [hp0] at z; cases z)⟩ ⟨_, upd_same, r.rev.mono k2⟩) rfl (q1 p (a1.free hp0))
  · exact q1.elim
/-! ### x in a tuple of data -/
def fIn2 (neg : Bool) : Q2 := fun x y G Q => match y with
  | .tup ts => eqOks ts = true ∧ eqOk x = true ∧ Q (.bl (neg != ts.any fun t => teq t x)) G
  | y => fIn neg x y G Q
theorem o_in2 (hu : X.A.units + 65 < cLine) : OpR X (compareOp .In) (c2 X.K (fIn2 false)) := by
  intro pins s σ H v w u u' KQ I rv rw' h2
  obtain ⟨x, y, G, Q, hx, hy, ha, hf, hk⟩ := h2
  unfold fIn2 at hf
  split at hf
  · obtain ⟨o1, o2, q⟩ := hf
    rename_i ts
    obtain ⟨p, vs, rfl, hp, r⟩ := hy
    obtain ⟨as, r1⟩ := Dp.reads I _ _ _ (pd_dp _ _ (eqOk_ok o2) hx) rv
    obtain ⟨bs, r2⟩ := Dp.reads I (.tuple (pdTs ts)) (.ref p) u' (.tup (SqT.of hp) (pds_dp ts vs (eqOks_ok o1) r)) rw'
    refine SeqAt.in_tuple_reads r2 r1 (SeqAt.canLay_of_shaped (shpL (eqOks_ok o1) (eqOks_dp o1))) (SeqAt.canLay_of_shaped (shp (eqOk_ok o2) (eqOk_dp o2))) (room_in_shaped (shp (eqOk_ok o2) (eqOk_dp o2)) hu) ?_
    rw [any_eqv x (eqOk_ok o2) ts (eqOks_ok o1)]
    exact ⟨.bl _, H, I, rfl, hk _ H (.bl _) G (Tups.refl H) ha rfl (by rw [Bool.false_bne] at q; exact q)⟩
  · exact o_in hu pins s σ H v w u u' KQ I rv rw' ⟨_, _, G, Q, hx, hy, ha, hf, hk⟩
theorem o_notin2 (hu : X.A.units + 65 < cLine) : OpR X (compareOp .NotIn) (c2 X.K (fIn2 true)) := by
  intro pins s σ H v w u u' KQ I rv rw' h2
  obtain ⟨x, y, G, Q, hx, hy, ha, hf, hk⟩ := h2
  unfold fIn2 at hf
  split at hf
  · obtain ⟨o1, o2, q⟩ := hf
    rename_i ts
    obtain ⟨p, vs, rfl, hp, r⟩ := hy
    obtain ⟨as, r1⟩ := Dp.reads I _ _ _ (pd_dp _ _ (eqOk_ok o2) hx) rv
    obtain ⟨bs, r2⟩ := Dp.reads I (.tuple (pdTs ts)) (.ref p) u' (.tup (SqT.of hp) (pds_dp ts vs (eqOks_ok o1) r)) rw'
    refine SeqAt.notIn_tuple_reads r2 r1 (SeqAt.canLay_of_shaped (shpL (eqOks_ok o1) (eqOks_dp o1))) (SeqAt.canLay_of_shaped (shp (eqOk_ok o2) (eqOk_dp o2))) (room_in_shaped (shp (eqOk_ok o2) (eqOk_dp o2)) hu) ?_
    rw [any_eqv x (eqOk_ok o2) ts (eqOks_ok o1)]
    exact ⟨.bl _, H, I, rfl, hk _ H (.bl _) G (Tups.refl H) ha rfl (by rw [Bool.true_bne] at q; exact q)⟩
  · exact o_notin hu pins s σ H v w u u' KQ I rv rw' ⟨_, _, G, Q, hx, hy, ha, hf, hk⟩
end
end Lw

set_option Elab.async false
set_option linter.all false
set_option maxRecDepth 100000
set_option maxHeartbeats 4000000
namespace Lw
open PySem PySem.Spec PyProof.Rows L2 PySem.Calls
section
variable {prog : Program} {w : World} {A : Around} {E : Value → Shared → Prop} {s : Shared}
/-! ### sorted of a tuple -/
theorem gather_tup {l : Addr} {us : List Value} {R : List Value → Shared → Prop} (ht : s.heap.IsTuple l us.toArray) (lz : us.length ≤ sizeLine) (hR : R us { s with heap := ((s.heap.push (seqObj "list" #[] 0)).update s.heap.objs.size (Obj.mapSeq (· ++ us.toArray))) }) :
    wpAny (model prog w) A (collect (.ref l)) R E s := by
  have ⟨ob, e1, e2, m, e3⟩ := ht
  have e4 : (s.heap.push (seqObj "list" #[] 0)).get? l = some ob := Heap.get?_push_of_some _ e1
  have e5 : (s.heap.push (seqObj "list" #[] 0)).get? s.heap.objs.size = some (seqObj "list" #[] 0) := Heap.get?_push_size _ rfl
  have tt : (Value.type "tuple" == Value.type "tuple") = true := rfl
  have inner : ∀ (B : Around) (E' : Value → Shared → Prop) (R' : PySem.Fin → Shared → Prop), R' (.done (.ret (.ref s.heap.objs.size))) { s with heap := ((s.heap.push (seqObj "list" #[] 0)).update s.heap.objs.size (Obj.mapSeq (· ++ us.toArray))) } →
      wpAny (model prog w) B (Builtin.List.listExtendWith (.ref s.heap.objs.size) (.ref l) (.ref s.heap.objs.size)) R' E' { s with heap := s.heap.push (seqObj "list" #[] 0) } := fun B E' R' h' => by
    unfold Builtin.List.listExtendWith
    refine wpAny_bind (wpAny_typeOf (T := "tuple") ⟨ob, e4, e2⟩ ?_); rw [if_pos (by rw [tt, Bool.or_true])]
    refine wpAny_bind (listItems_at e4 e3 (wpAny_bind (listItems_at (xs := #[]) (n := 0) e5 rfl ?_))); rw [if_neg (by simp)]
    exact wpAny_bind (listUpdate_at (xs := #[]) (n := 0) e5 rfl (wpAny_pure h') (Nat.zero_le _) (by show (#[] ++ us.toArray).size ≤ sizeLine + 1; rw [Array.size_append, List.size_toArray]; simp only [List.size_toArray, List.length_nil]; omega))
  have load5 : (((s.heap.push (seqObj "list" #[] 0)).update s.heap.objs.size (Obj.mapSeq (· ++ us.toArray)))).get? s.heap.objs.size = _ := get?_update_seq e5 (· ++ us.toArray)
  unfold collect
  apply wpAny_bind; apply wpAny_runValue; apply codeAny_builtin entry_proto_collect'
  refine wpAny_bind (wpAny_newList (wpAny_pure (show _ ∧ _ from ⟨Code.quiet_builtin _ (by decide +kernel), ?_⟩)))
  apply codeAny_builtin entry_list_iadd'
  refine (show wpAny (model prog w) _ (Builtin.List.listExtendWith (.ref s.heap.objs.size) (.ref l) (.ref s.heap.objs.size)) _ _ { s with heap := s.heap.push (seqObj "list" #[] 0) } from inner _ _ _ ?_)
  refine wpAny_bind (wpAny_load load5 ?_)
  have el : ((#[] : Array Value) ++ us.toArray).toList = us := by simp
  show wpAny (model prog w) A (pure ((#[] : Array Value) ++ us.toArray).toList) R E _
  rw [el]; exact wpAny_pure hR
theorem sorted_tup {l : Addr} {us : List Value} {ltv : Value → Value → Bool} {Q : Value → Shared → Prop} (O : SrtO.Swo ltv) (ht : s.heap.IsTuple l us.toArray) (lz : us.length ≤ sizeLine)
    (hS : 2 ≤ us.length → ∀ (g : Heap) (a : Addr), g.get? a = some (seqObj "list" us.toArray 0) → (∀ b o, s.heap.get? b = some o → b ≠ a ∧ g.get? b = some o) → SrtO.SortableO prog w A.in1.in1 { s with heap := g } a us ltv)
    (hQ : ∀ out : List Value, SrtO.Srtd ltv out → SrtO.Stb ltv out us → Q (.ref (s.heap.objs.size + 1)) { s with heap := sortedAll s.heap us out.toArray }) : wpAny (model prog w) A (call (.builtin "sorted") [.ref l]) Q E s := by
  have n1 : ((s.heap.push (seqObj "list" #[] 0)).update s.heap.objs.size (Obj.mapSeq (· ++ us.toArray))).objs.size = s.heap.objs.size + 1 := by rw [Heap.size_update]; exact Heap.size_push ..
  have up : ∀ b o, s.heap.get? b = some o → ((s.heap.push (seqObj "list" #[] 0)).update s.heap.objs.size (Obj.mapSeq (· ++ us.toArray))).get? b = some o := fun b o e => by
    rw [Heap.get?_update_ne _ _ _ _ (Nat.ne_of_lt (Heap.lt_size e))]; exact Heap.get?_push_of_some _ e
  have at1 : (((s.heap.push (seqObj "list" #[] 0)).update s.heap.objs.size (Obj.mapSeq (· ++ us.toArray))).push (seqObj "list" us.toArray 0)).get? (s.heap.objs.size + 1) = some (seqObj "list" us.toArray 0) := by
    have := Heap.get?_push_size ((s.heap.push (seqObj "list" #[] 0)).update s.heap.objs.size (Obj.mapSeq (· ++ us.toArray))) (o := seqObj "list" us.toArray 0) rfl
    rw [n1] at this; exact this
  apply Calls.call_function_entry kind_sorted plain_sorted entry_sorted (args_sorted1 _)
  unfold Builtin.«sorted»
  refine wpAny_bind (m := checkCount "sorted" 1 1 _) (wpAny_pure (wpAny_bind (gather_tup ht lz (wpAny_bind (wpAny_newList ?_ lz)))))
  rw [n1]
  apply wpAny_bind; apply wpAny_holding
  refine wpAny_call_entry slot_list_sort ⟨_, at1, rfl⟩ entry_list_sort (SrtO.list_sort_ord O at1 lz (fun h2 => hS h2 _ _ at1 fun b o e => ⟨Nat.ne_of_lt (Nat.lt_succ_of_lt (Heap.lt_size e)), Heap.get?_push_of_some _ (up b o e)⟩) fun out q1 q2 => ⟨_, rfl, ?_⟩) (args_list_sort _)
  exact wpAny_pure ⟨_, rfl, hQ out q1 q2⟩
theorem sorted_dataT {l : Addr} {vs : List Value} {ds : List PyData} {Q : Value → Shared → Prop} (hl : s.heap.IsTuple l vs.toArray) (hz : vs.length ≤ sizeLine) (hp : All2 (PlD s.heap) vs ds) (hc : ∀ x ∈ ds, ∀ y ∈ ds, cmpb x y = true) (hu : A.units + 66 < cLine)
    (h : ∀ out : List Value, SrtO.Srtd (fun v u => HT.lexLt (rdK s.heap v) (rdK s.heap u)) out → SrtO.Stb (fun v u => HT.lexLt (rdK s.heap v) (rdK s.heap u)) out vs → Q (.ref (s.heap.objs.size + 1)) { s with heap := sortedAll s.heap vs out.toArray }) :
    wpAny (model prog w) A (call (.builtin "sorted") [.ref l]) Q E s := by
  refine sorted_tup (NtL.swo_lexL (rdK s.heap)) hl hz (fun h2 h₁ a ha kk => ?_) h
  intro h' keep
  have kp : ∀ b o, s.heap.get? b = some o → h'.get? b = some o := fun b o e => keep b o (kk b o e).1 (kk b o e).2
  have up : ∀ {v d}, PlD s.heap v d → PlD h' v d := fun p => ⟨let ⟨as, r⟩ := p.rd; ⟨as, PyProof.Rows.Reads.keeps kp r⟩, p.cl, p.cm, p.dp⟩
  have hp' : All2 (PlD h') vs ds := hp.map fun _ _ p => up p
  have mem : ∀ v ∈ vs, ∃ d ∈ ds, PlD s.heap v d := hp.memL
  obtain ⟨κ, hκ, k⟩ := kind_dtm (prog := prog) (w := w) (A := A.in1.in1) (s := { s with heap := h' }) hp'
  refine ⟨κ, fun Q E q => k Q E q, fun p q hp1 hq1 => ?_⟩
  obtain ⟨d, hd, pd⟩ := mem _ hp1
  obtain ⟨e, he, pe⟩ := mem _ hq1
  obtain ⟨as, r1⟩ := pd.rd
  obtain ⟨bs, r2⟩ := pe.rd
  refine key_lt (s := { s with heap := h' }) (up pd) (up pe) (hc d hd e he) ?_ (by show A.units + 1 + 1 + 64 < cLine; omega) ⟨rfl, ?_⟩
  · rcases hκ with z | z | ⟨z, z2⟩
    · exact .inl z
    · exact .inr (.inl z)
    · exact .inr (.inr ⟨z, z2 d hd, z2 e he⟩)
  · show _ = HT.lexLt (rdK s.heap p.1) (rdK s.heap q.1)
    rw [rdK_eq r1, rdK_eq r2]
end
def fSorted2 : QC := fun ts G Q => match ts with
  | [.tup xs] => SrtOk xs ∧ ∀ ys, ys.Perm xs → ys.Pairwise (fun x y => tlt y x = false) → ∀ p, G p = none → Q (.ref p) (gput G p (.lst ys))
  | ts => fSorted ts G Q
section
variable {X : Cx}
theorem b_sorted2 (hu : X.A.units + 66 < cLine) : CallR X (.builtin "sorted") (cC X.K fSorted2) := by
  intro pins s σ H vs us KQ I r h
  obtain ⟨ts, G, Q, hr, ha, hf, hk⟩ := h
  unfold fSorted2 at hf
  split at hf
  · obtain ⟨ok, q⟩ := hf
    obtain ⟨v, rfl, h1⟩ := rpl1 hr
    obtain ⟨p, ws, rfl, hp, rr⟩ := h1
    obtain ⟨its, rv, hl, hz⟩ := I.tuple (SqT.of hp)
    rw [Vals.ref1 r]
    have a0 := rdT_of I ok.ok rr rv
    have zl : its.length ≤ sizeLine := by rw [← rv.length]; exact hz
    refine sorted_dataT hl zl (rdT_pl ok a0) (fun x hx y hy => ?_) hu fun out h1 h2 => ?_
    · obtain ⟨x', hx', rfl⟩ := List.mem_map.mp hx
      obtain ⟨y', hy', rfl⟩ := List.mem_map.mp hy
      exact ok.cm x' hx' y' hy'
    · obtain ⟨ys, a1, py⟩ := a0.perm h2.perm.symm
      obtain ⟨ws', q1, q2⟩ := rdT_back a1
      have sy : ys.Pairwise fun x y => tlt y x = false := a1.pw (S' := fun x y => tlt y x = false) (fun u x u' x' ⟨_, _, _, as, r1⟩ ⟨_, _, _, bs, r2⟩ e => by
        have e : HT.lexLt (rdK s.heap u') (rdK s.heap u) = false := e
        rw [rdK_eq r1, rdK_eq r2] at e
        exact e) h1
      obtain ⟨ep, he'⟩ := PyProof.Rows.sortedAll_at s.heap its out.toArray
      have hlen : ws'.length ≤ sizeLine := by
        rw [q2.length, h2.perm.length_eq]; exact zl
      have fr : H (s.heap.objs.size + 1) = none := I.hok.fresh (Nat.le_succ _)
      have k : Tups H (upd H (s.heap.objs.size + 1) (.lst ws')) := Tups.new fr
      refine ⟨.ref _, upd H (s.heap.objs.size + 1) (.lst ws'), I.laid (t' := s.toks) (fun _ _ => PyProof.Rows.sortedAll_old) (Nat.le_succ _) ⟨hlen, out, ep, q2, he'⟩, rfl, ?_⟩
      exact hk _ _ (.ref _) _ k (ha.put (o := .lst ys) ⟨fun xs z => (by rw [fr] at z; cases z), fun o xs z => (by rw [fr] at z; cases z)⟩ ⟨ws', upd_same, q1.mono k⟩) rfl (q ys py sy _ (ha.free fr))
  · exact b_sorted hu pins s σ H _ us KQ I r ⟨_, G, Q, hr, ha, hf, hk⟩
/-! ### a text, sign by sign -/
def signsT (z : Str) : List T := z.cps.toList.map fun c => T.str ⟨#[c]⟩
theorem wt_str {K : PySem.W.Frag} {H1 : Hp} {z : Str} : WalkT K (Its z) H1 (signsT z) (fun _ => True) :=
  wt_of walk_str (by unfold signsT; simp) (fun _ _ _ _ _ => trivial) fun i H G x H' hi k a _ y => by
    obtain ⟨e, c, hc, rfl⟩ := y
    subst e
    refine ⟨Tups.refl _, a, .str ⟨#[c]⟩, ?_, rfl⟩
    unfold signsT
    rw [List.getElem?_map, Array.getElem?_toList, hc]; rfl
variable {tg l : Expr} {qe : QE}
def qiStr (qe : QE) : QI := fun ρ G R => qe ρ G fun x G1 => match x with | .str z => R (signsT z) (fun _ => True) G1 | _ => False
theorem i_str (hl : PE X l (cE X.K qe)) : PI X tg l (cI X.K (qiStr qe)) := PI.wk (pi_str hl) fun σ H R h => by
  obtain ⟨ρ, G, Q, e, a, q, f⟩ := h
  refine ⟨ρ, G, _, e, a, q, fun v H1 t G1 k1 a1 r1 q1 => ?_⟩
  split at q1
  · cases r1
    exact ⟨_, rfl, f _ H1 _ _ G1 k1 a1 wt_str q1⟩
  · exact q1.elim
/-- a sign in a text -/
def fInS (neg : Bool) : Q2 := fun x y G Q => match x, y with
  | .str ⟨a⟩, .str z => ∃ c, a = #[c] ∧ Q (.bl (neg != decide (c ∈ z.cps.toList))) G
  | _, _ => False
theorem o_inS : OpR X (compareOp .In) (c2 X.K (fInS false)) := by
  intro pins s σ H v w u u' KQ I rv rw' h2
  obtain ⟨x, y, G, Q, hx, hy, ha, hf, hk⟩ := h2
  unfold fInS at hf
  split at hf
  · obtain ⟨c, rfl, q⟩ := hf
    rw [Bool.false_bne] at q
    exact op_in_sign pins s σ H v w u u' KQ I rv rw' ⟨c, _, hx, hy, hk _ H (.bl _) G (Tups.refl H) ha rfl q⟩
  · exact hf.elim
theorem o_notinS : OpR X (compareOp .NotIn) (c2 X.K (fInS true)) := by
  intro pins s σ H v w u u' KQ I rv rw' h2
  obtain ⟨x, y, G, Q, hx, hy, ha, hf, hk⟩ := h2
  unfold fInS at hf
  split at hf
  · obtain ⟨c, rfl, q⟩ := hf
    rw [Bool.true_bne] at q
    exact op_notIn_sign pins s σ H v w u u' KQ I rv rw' ⟨c, _, hx, hy, hk _ H (.bl _) G (Tups.refl H) ha rfl q⟩
  · exact hf.elim
end
end Lw

set_option Elab.async false
set_option linter.all false
set_option maxRecDepth 100000
set_option maxHeartbeats 4000000
namespace Lw
open PySem PySem.Spec PyProof.Rows L2 PySem.Calls
/-! ### == of lists that hold lists -/
mutual
inductive Rz (G : Gp) : T → PyData → Prop
  | data {t : T} : okT t = true → Rz G t (pdT t)
  | tup {ts : List T} {ds : List PyData} : RzL G ts ds → Rz G (.tup ts) (.tuple ds)
  | lst {a : Addr} {ts : List T} {ds : List PyData} : G a = some (.lst ts) → RzL G ts ds → Rz G (.ref a) (.list ds)
inductive RzL (G : Gp) : List T → List PyData → Prop
  | nil : RzL G [] []
  | cons {t : T} {ts : List T} {d : PyData} {ds : List PyData} : Rz G t d → RzL G ts ds → RzL G (t :: ts) (d :: ds)
end
theorem RzL.of {G : Gp} : ∀ {ts : List T}, okTs ts = true → RzL G ts (pdTs ts)
  | [], _ => .nil
  | t :: ts, h => by
    have h' : (okT t && okTs ts) = true := h
    rw [Bool.and_eq_true] at h'
    exact .cons (.data h'.1) (RzL.of h'.2)
mutual
theorem Rz.dp {K : PySem.W.Frag} {H : Hp} {G : Gp} (ha : Abs K H G) : ∀ {t : T} {d : PyData} {v : V}, Rz G t d → Rp K H t v → Dp K H v d
  | _, _, _, .data o, r => pd_dp _ _ o r
  | _, _, _, .tup l, ⟨a, vs, e, h, r⟩ => by subst e; exact .tup (SqT.of h) (RzL.dp ha l r)
  | _, _, _, .lst (a := a) g l, r => by
    cases r
    obtain ⟨vs, hp, r⟩ := ha _ _ g
    exact .lst (SqL.of hp) (RzL.dp ha l r)
theorem RzL.dp {K : PySem.W.Frag} {H : Hp} {G : Gp} (ha : Abs K H G) : ∀ {ts : List T} {ds : List PyData} {vs : List V}, RzL G ts ds → RpL K H ts vs → DpAll K H vs ds
  | _, _, _, .nil, h => by rw [show _ = [] from h]; exact .nil
  | _, _, _, .cons h1 h2, ⟨v, r, e, h, hr⟩ => by subst e; exact .cons (Rz.dp ha h1 h) (RzL.dp ha h2 hr)
end
def fEqZ (neg : Bool) : Q2 := fun x y G Q => ∃ d e, Rz G x d ∧ Rz G y e ∧ SeqAt.shaped d = true ∧ SeqAt.shaped e = true ∧ Q (.bl (neg != PyData.eqv d e)) G
section
variable {X : Cx}
theorem o_eqZ (hu : X.A.units + 64 < cLine) : OpR X (compareOp .Eq) (c2 X.K (fEqZ false)) := by
  intro pins s σ H v w u u' KQ I rv rw' h2
  obtain ⟨x, y, G, Q, hx, hy, ha, hf, hk⟩ := h2
  obtain ⟨d, e, d1, d2, s1, s2, q⟩ := hf
  exact op_eqD hu pins s σ H v w u u' KQ I rv rw' ⟨d, e, d1.dp ha hx, d2.dp ha hy, s1, s2, hk _ H (.bl _) G (Tups.refl H) ha rfl (by rw [Bool.false_bne] at q; exact q)⟩
theorem o_neZ (hu : X.A.units + 64 < cLine) : OpR X (compareOp .NotEq) (c2 X.K (fEqZ true)) := by
  intro pins s σ H v w u u' KQ I rv rw' h2
  obtain ⟨x, y, G, Q, hx, hy, ha, hf, hk⟩ := h2
  obtain ⟨d, e, d1, d2, s1, s2, q⟩ := hf
  exact op_neD hu pins s σ H v w u u' KQ I rv rw' ⟨d, e, d1.dp ha hx, d2.dp ha hy, s1, s2, hk _ H (.bl _) G (Tups.refl H) ha rfl (by rw [Bool.true_bne] at q; exact q)⟩
end
/-- what may be laid, and how deep it is -/
def LayD (n : Nat) (d : PyData) : Prop := d.canLay0 = true ∧ d.depth ≤ n
theorem LayD.data {t : T} {n : Nat} (h : okT t = true) (k : dpT t + 1 ≤ n) : LayD n (pdT t) := ⟨pd_can t h, Nat.le_trans (pd_depth t h) k⟩
theorem layAll {n : Nat} : ∀ {ds : List PyData}, (∀ d ∈ ds, LayD n d) → PyData.canLayAll0 ds = true ∧ PyData.depthAll ds ≤ max n 1
  | [], _ => ⟨rfl, by simp [PyData.depthAll]⟩
  | d :: ds, h => by
    obtain ⟨h1, h2⟩ := h d List.mem_cons_self
    obtain ⟨h3, h4⟩ := layAll fun e he => h e (List.mem_cons_of_mem _ he)
    refine ⟨?_, ?_⟩
    · show (PyData.canLay0 d && PyData.canLayAll0 ds) = true
      rw [h1, h3]; rfl
    · simp only [PyData.depthAll]
      omega
theorem LayD.lst {n : Nat} {ds : List PyData} (h : ∀ d ∈ ds, LayD n d) : LayD (max n 1 + 1) (.list ds) := by
  obtain ⟨h1, h2⟩ := layAll h
  exact ⟨h1, by simp only [PyData.depth]; omega⟩
theorem LayD.tup {n : Nat} {ds : List PyData} (h : ∀ d ∈ ds, LayD n d) : LayD (max n 1 + 1) (.tuple ds) := by
  obtain ⟨h1, h2⟩ := layAll h
  exact ⟨h1, by simp only [PyData.depth]; omega⟩
theorem LayD.shaped {n : Nat} {d : PyData} (h : LayD n d) (k : n ≤ 64) : SeqAt.shaped d = true := by
  unfold SeqAt.shaped
  rw [h.1]
  exact decide_eq_true (Nat.le_trans h.2 k)
end Lw

set_option Elab.async false
set_option linter.all false
set_option maxRecDepth 100000
set_option maxHeartbeats 4000000
namespace Lw
open PySem PySem.Spec PyProof.Rows L2 PySem.Calls
/-! ### dicts whose keys are tuples of numbers and texts -/
def tkT : List T → Option (List Key)
  | [] => some []
  | t :: ts => match keyT t, tkT ts with
    | some k, some ks => some (k :: ks)
    | _, _ => none
theorem tkT_rp {K : PySem.W.Frag} {H : Hp} : ∀ {ts : List T} {ks : List Key} {vs : List V}, tkT ts = some ks → RpL K H ts vs → vs = ks.map kV
  | [], ks, vs, e, r => by
    cases e
    rw [show vs = [] from r]; rfl
  | t :: ts, ks, vs, e, ⟨v, r, ev, h, hr⟩ => by
    simp only [tkT] at e
    cases e1 : keyT t with
    | none => rw [e1] at e; cases e
    | some k =>
      cases e2 : tkT ts with
      | none => rw [e1, e2] at e; cases e
      | some ks' =>
        rw [e1, e2] at e
        cases e
        subst ev
        rw [keyT_rp e1 h, tkT_rp e2 hr]; rfl
section
variable {X : Cx} {o i k e value l tg : Expr} {qo qi qk qd qv qe : QE} {pos pos' : Pos} {st : Stmt} {t : QS}
def qDT0 : QE := fun _ G Q => ∀ p, G p = none → Q (.ref p) (gput G p (.dT []))
theorem e_d0T : PE X (.Dict [] [] pos) (cE X.K qDT0) := PE.wk pe_dnewT fun σ H KQ h => by
  obtain ⟨ρ, G, Q, e, a, q, f⟩ := h
  intro p hp
  have k2 : Tups H (upd H p (.dT [])) := Tups.new hp
  exact f (.ref p) _ (.ref p) _ k2 (a.put (o := .dT []) ⟨fun xs z => (by rw [hp] at z; cases z), fun o xs z => (by rw [hp] at z; cases z)⟩ ⟨[], upd_same, rfl⟩) rfl (q p (a.free hp))
def qTGet (qd qk : QE) : QE := fun ρ G Q => qd ρ G fun x G1 => qk ρ G1 fun y G2 => match x, y with
  | .ref a, .tup ts => ∃ ks kvs t, tkT ts = some ks ∧ G2 a = some (.dT kvs) ∧ valT kvs ks = some t ∧ Q t G2
  | _, _ => False
theorem e_tget (hu : X.A.units + 1 < cLine) (hd : PE X o (cE X.K qd)) (hk : PE X i (cE X.K qk)) (hs : NoSl i) : PE X (.Subscript o i pos) (cE X.K (qTGet qd qk)) := PE.wk (pe_dget hu hd hk hs) fun σ H KQ h => by
  obtain ⟨ρ, G, Q, e, a, q, g⟩ := h
  refine ⟨ρ, G, _, e, a, q, fun v H1 t G1 k1 a1 r1 q1 => ?_⟩
  refine ⟨ρ, G1, _, e.mono k1, a1, q1, fun w H2 u G2 k2 a2 r2 q2 => ?_⟩
  split at q2
  · obtain ⟨ks, kvs, t, hk, hg, hv, q2⟩ := q2
    cases r1
    obtain ⟨b, vs, rfl, hb, rv⟩ := r2
    obtain ⟨ws, hp, r⟩ := a2 _ _ hg
    have ev := tkT_rp hk rv
    subst ev
    obtain ⟨v, e1, rv⟩ := (r.val (k := ks)).2 t hv
    exact ⟨_, v, rfl, by rw [← e1]; exact DGet.t (k := ks) hp hb, g v H2 t G2 (k1.trans k2) a2 rv q2⟩
  · exact q2.elim
def qTPut (qd qk qv : QE) : QS := fun D ρ G => qv ρ G fun t G1 => qd ρ G1 fun x G2 => qk ρ G2 fun y G3 => match x, y with
  | .ref a, .tup ts => ∃ ks kvs, tkT ts = some ks ∧ G3 a = some (.dT kvs) ∧ kvs.length < 100000 ∧ D.nx ρ (gput G3 a (.dT (putT kvs ks t)))
  | _, _ => False
theorem s_tput (hu : X.A.units + 1 < cLine) (hd : PE X o (cE X.K qd)) (hk : PE X i (cE X.K qk)) (hv : PE X value (cE X.K qv)) (hs : swapsWith value (some (.Subscript o i pos')) pos.line X.env = pure false := by rfl) :
    PS X (.Assign [.Subscript o i pos'] value pos) (cS X.K (qTPut qd qk qv)) := PS.wk (ps_dput hu hd hk hv hs) fun D σ H h => by
  obtain ⟨ρ, G, D', e, a, q, g⟩ := h
  refine ⟨ρ, G, _, e, a, q, fun v H1 t G1 k1 a1 r1 q1 => ?_⟩
  refine ⟨ρ, G1, _, e.mono k1, a1, q1, fun w H2 u G2 k2 a2 r2 q2 => ?_⟩
  refine ⟨ρ, G2, _, e.mono (k1.trans k2), a2, q2, fun w3 H3 u3 G3 k3 a3 r3 q3 => ?_⟩
  split at q3
  · obtain ⟨ks, kvs, hk, hg, hz, q3⟩ := q3
    cases r2
    obtain ⟨b, vs, rfl, hb, rv⟩ := r3
    obtain ⟨ws, hp, r⟩ := a3 _ _ hg
    have ev := tkT_rp hk rv
    subst ev
    have wr : Wr H3 _ := Wr.of hp (fun _ z => by cases z) (fun _ _ z => by cases z)
    have kk := Tups.set (o := .dT (L2.putK ws ks v)) wr
    have k13 := (k1.trans k2).trans k3
    refine ⟨_, _, rfl, DPut.t (k := ks) hp hb (by rw [r.len]; exact Nat.lt_of_lt_of_le hz (by decide)), ?_⟩
    exact g.nx σ _ ρ _ (k13.trans kk) (e.mono (k13.trans kk)) (a3.put (o := .dT (putT kvs ks t)) wr ⟨_, upd_same, (RpK.put (r1.mono (k2.trans k3)) r).mono kk⟩) q3
  · exact q3.elim
/-! ### a dict walked: it is locked while the loop runs -/
def qLock (t : QS) : QS := fun D ρ G => ∃ d kvs, G d = some (.dK kvs) ∧ ∀ od ws, t { nx := fun ρ' G' => G' d = some (.fz od ws kvs) ∧ D.nx ρ' (gput G' d (.dK kvs)), rt := fun v G' => G' d = some (.fz od ws kvs) ∧ D.rt v (gput G' d (.dK kvs)), bk := fun ρ' G' => G' d = some (.fz od ws kvs) ∧ D.bk ρ' (gput G' d (.dK kvs)), ct := fun ρ' G' => G' d = some (.fz od ws kvs) ∧ D.ct ρ' (gput G' d (.dK kvs)) } ρ (gput G d (.fz od ws kvs))
theorem s_lock (h : PS X st (cS X.K t)) : PS X st (cS X.K (qLock t)) := PS.wk (ps_lock h) fun D σ H h => by
  obtain ⟨ρ, G, D', e, a, ⟨d, kvs, hg, q⟩, g⟩ := h
  obtain ⟨ws, hp, r⟩ := a _ _ hg
  refine ⟨d, .dK ws, hp, True.intro, fun od => ?_⟩
  have wr : Wr H d := Wr.of hp (fun _ z => by cases z) (fun _ _ z => by cases z)
  have k1 : Tups H (upd H d (.frz od (.dK ws))) := Tups.set wr
  have back : ∀ {H' : Hp} {G' : Gp}, Tups (upd H d (.frz od (.dK ws))) H' → Abs X.K H' G' → G' d = some (.fz od ws kvs) → H' d = some (.frz od (.dK ws)) ∧ Tups H' (upd H' d (.dK ws)) ∧ Tups H (upd H' d (.dK ws)) ∧ Abs X.K (upd H' d (.dK ws)) (gput G' d (.dK kvs)) := fun k a' e' => by
    obtain ⟨h1, h2⟩ := a' _ _ e'
    have wr' : Wr _ d := Wr.of h1 (fun _ z => by cases z) (fun _ _ z => by cases z)
    have k2 := Tups.set (o := .dK ws) wr'
    exact ⟨h1, k2, (k1.trans k).trans k2, a'.put (o := .dK kvs) wr' ⟨ws, upd_same, h2.mono k2⟩⟩
  refine ⟨ρ, _, _, e.mono k1, a.put (o := .fz od ws kvs) wr ⟨upd_same, r.mono k1⟩, q od ws, ⟨?_, ?_, ?_, ?_⟩⟩
  · intro σ' H' ρ' G' k e' a' ⟨q1, q2⟩
    obtain ⟨h1, h2, h3, h4⟩ := back k a' q1
    exact ⟨h1, g.nx σ' _ ρ' _ h3 (e'.mono h2) h4 q2⟩
  · intro v H' t G' k a' r' ⟨q1, q2⟩
    obtain ⟨h1, h2, h3, h4⟩ := back k a' q1
    exact ⟨h1, g.rt v _ t _ h3 h4 (r'.mono h2) q2⟩
  · intro σ' H' ρ' G' k e' a' ⟨q1, q2⟩
    obtain ⟨h1, h2, h3, h4⟩ := back k a' q1
    exact ⟨h1, g.bk σ' _ ρ' _ h3 (e'.mono h2) h4 q2⟩
  · intro σ' H' ρ' G' k e' a' ⟨q1, q2⟩
    obtain ⟨h1, h2, h3, h4⟩ := back k a' q1
    exact ⟨h1, g.ct σ' _ ρ' _ h3 (e'.mono h2) h4 q2⟩
theorem kT_rp {K : PySem.W.Frag} {H : Hp} : ∀ k : Key, Rp K H (kT k) (kV k)
  | .inl _ => rfl
  | .inr _ => rfl
theorem RpK.keys {K : PySem.W.Frag} {H : Hp} {κ : Type} : ∀ {ps : List (κ × T)} {ws : List (κ × V)}, RpK K H ps ws → ws.map (·.1) = ps.map (·.1)
  | [], _, h => by rw [show _ = [] from h]; rfl
  | p :: ps, _, ⟨v, r, e, h, hr⟩ => by rw [e, List.map_cons, List.map_cons, RpK.keys hr]
theorem wt_keys {K : PySem.W.Frag} {H1 : Hp} {d : Addr} {od : Obj} {ws : List (Key × V)} {kvs : List (Key × T)} (hk : ws.map (·.1) = kvs.map (·.1)) : WalkT K (Itk d od ws) H1 (kvs.map fun kv => kT kv.1) (fun G => G d = some (.fz od ws kvs)) :=
  wt_of walk_keys (by have := congrArg List.length hk; simpa using this) (fun H G k a s => (a _ _ s).1) fun i H G x H' hi k a s y => by
    obtain ⟨e, kk, v, hc, rfl⟩ := y
    subst e
    refine ⟨Tups.refl _, a, kT kk, ?_, kT_rp kk⟩
    have h1 : (ws.map (·.1))[i]? = some kk := by rw [List.getElem?_map, hc]; rfl
    rw [hk, List.getElem?_map] at h1
    rw [List.getElem?_map]
    cases q : kvs[i]? with
    | none => rw [q] at h1; cases h1
    | some kv => rw [q] at h1; cases h1; rfl
def qiKeys (qe : QE) : QI := fun ρ G R => qe ρ G fun x G1 => match x with
  | .ref d => ∃ od ws kvs, G1 d = some (.fz od ws kvs) ∧ R (kvs.map fun kv => kT kv.1) (fun G => G d = some (.fz od ws kvs)) G1
  | _ => False
theorem i_keys (hl : PE X l (cE X.K qe)) : PI X tg l (cI X.K (qiKeys qe)) := PI.wk (pi_keys hl) fun σ H R h => by
  obtain ⟨ρ, G, Q, e, a, q, f⟩ := h
  refine ⟨ρ, G, _, e, a, q, fun v H1 t G1 k1 a1 r1 q1 => ?_⟩
  split at q1
  · obtain ⟨od, ws, kvs, hg, q1⟩ := q1
    cases r1
    obtain ⟨h1, h2⟩ := a1 _ _ hg
    exact ⟨_, od, rfl, .inl ⟨ws, h1, f _ H1 _ _ G1 k1 a1 (wt_keys h2.keys) q1⟩⟩
  · exact q1.elim
/-- d[k], the dict locked -/
def qFGet (qd qk : QE) : QE := fun ρ G Q => qd ρ G fun x G1 => qk ρ G1 fun y G2 => match x with
  | .ref a => ∃ k od ws kvs t, keyT y = some k ∧ G2 a = some (.fz od ws kvs) ∧ valT kvs k = some t ∧ Q t G2
  | _ => False
theorem e_fget (hu : X.A.units + 1 < cLine) (hd : PE X o (cE X.K qd)) (hk : PE X i (cE X.K qk)) (hs : NoSl i) : PE X (.Subscript o i pos) (cE X.K (qFGet qd qk)) := PE.wk (pe_dget hu hd hk hs) fun σ H KQ h => by
  obtain ⟨ρ, G, Q, e, a, q, g⟩ := h
  refine ⟨ρ, G, _, e, a, q, fun v H1 t G1 k1 a1 r1 q1 => ?_⟩
  refine ⟨ρ, G1, _, e.mono k1, a1, q1, fun w H2 u G2 k2 a2 r2 q2 => ?_⟩
  split at q2
  · obtain ⟨k, od, ws, kvs, t, hk, hg, hv, q2⟩ := q2
    cases r1
    obtain ⟨hp, r⟩ := a2 _ _ hg
    have ev := keyT_rp hk r2
    subst ev
    obtain ⟨v, e1, rv⟩ := (r.val (k := k)).2 t hv
    exact ⟨_, v, rfl, .inl ⟨ws, k, .inr ⟨od, hp⟩, rfl, e1.symm⟩, g v H2 t G2 (k1.trans k2) a2 rv q2⟩
  · exact q2.elim
/-! ### sorted(d), d's keys texts; int of a truth value -/
def fSortedD : QC := fun ts G Q => match ts with
  | [.ref a] => ∃ kvs, ∃ ks : List Str, G a = some (.dK kvs) ∧ kvs.map (·.1) = ks.map Sum.inr ∧ ks.length < 64 ∧ ∀ ys : List Str, ys.Perm ks → sortedS ys = true → ∀ p, G p = none → Q (.ref p) (gput G p (.lst (ys.map T.str)))
  | _ => False
theorem RpL.of_strs {K : PySem.W.Frag} {H : Hp} : ∀ {ns : List Str}, RpL K H (ns.map T.str) (ns.map V.str)
  | [] => rfl
  | n :: ns => ⟨_, _, rfl, rfl, RpL.of_strs⟩
theorem b_sortedD (hc : X.calm = true) : CallR X (.builtin "sorted") (cC X.K fSortedD) := by
  intro pins s σ H vs us KQ I r h
  obtain ⟨ts, G, Q, hr, ha, hf, hk⟩ := h
  unfold fSortedD at hf
  split at hf
  · obtain ⟨kvs, ks, hg, e, hz, q⟩ := hf
    obtain ⟨v, rfl, h1⟩ := rpl1 hr
    cases h1
    obtain ⟨ws, hp, r'⟩ := ha _ _ hg
    refine call_sortedD hc pins s σ H _ us KQ I r ⟨_, ws, ks, rfl, .inl hp, r'.keys.trans e, hz, fun ys p py sy hp0 => ?_⟩
    have k2 : Tups H (upd H p (.lst (ys.map V.str))) := Tups.new hp0
    exact hk (.ref p) _ (.ref p) _ k2 (ha.put (o := .lst (ys.map T.str)) ⟨fun xs z => (by rw [hp0] at z; cases z), fun o xs z => (by rw [hp0] at z; cases z)⟩ ⟨_, upd_same, RpL.of_strs⟩) rfl (q ys py sy p (ha.free hp0))
  · exact hf.elim
def fIntB : QC := fun ts G Q => match ts with
  | [.int i] => Q (.int i) G
  | [.bl b] => Q (.int (if b then 1 else 0)) G
  | _ => False
theorem b_int : CallR X (.type "int") (cC X.K fIntB) := by
  intro pins s σ H vs us KQ I r h
  obtain ⟨ts, G, Q, hr, ha, hf, hk⟩ := h
  unfold fIntB at hf
  split at hf
  · obtain ⟨v, rfl, h1⟩ := rpl1 hr
    cases h1
    exact call_int1 pins s σ H _ us KQ I r (.inl ⟨_, rfl, hk _ H (.int _) G (Tups.refl H) ha rfl hf⟩)
  · obtain ⟨v, rfl, h1⟩ := rpl1 hr
    cases h1
    exact call_int1 pins s σ H _ us KQ I r (.inr ⟨_, rfl, hk _ H (.int _) G (Tups.refl H) ha rfl hf⟩)
  · exact hf.elim
end
end Lw

set_option Elab.async false
set_option linter.all false
set_option maxRecDepth 100000
set_option maxHeartbeats 4000000
namespace Lw
open PySem PySem.Spec PyProof.Rows L2 PySem.Calls PySem.Froz
/-! ### sets of texts -/
abbrev set0 (w : World) : Obj := { cls := .type "set", dict := none, data := .set #[] 0 (.fresh 0 0 (!w.params.followText "set-order")) }
/-- the payload holds the texts l, each once -/
structure TxS (P : Program) (w : World) (D : SD) (l : List Str) : Prop where
  ok : TxOk P w D l
  nd : l.Nodup
  ris : Ris D.2.2.place.toList
  led : w.params.followText "set-order" = true ∨ D.2.2.led = true
  txt : ∃ vs : List Value, (D.1.toList.map (·.2)).Perm vs ∧ StrsAre vs l
section
variable {P : Program} {w : World} {A : Around} {E : Value → Shared → Prop} {s : Shared}
theorem tail_more {ep : Nat} {es1 : Array (Int × Value)} {t2 : SetTable} {wd : Bool} (r : Ris t2.place.toList) :
    Ris (tailTx ep es1 t2 wd).2.2.place.toList ∧ (tailTx ep es1 t2 wd).2.2.led = t2.led ∧ (tailTx ep es1 t2 wd).1.toList.Perm es1.toList := by
  unfold tailTx
  by_cases c : (!wd && t2.tooFull) = true
  · rw [if_pos c]
    exact ⟨relayAll_ris _ _ _, relayAll_led _ _ _, relayAll_perm _ _ _⟩
  · rw [if_neg c]
    exact ⟨r, rfl, .refl _⟩
theorem TxS.none {D : SD} (h : D = (#[], 0, .fresh 0 0 (!w.params.followText "set-order"))) : TxS P w D [] := by
  subst h
  refine ⟨TxOk.nil rfl, List.nodup_nil, List.Pairwise.nil, ?_, [], .refl _, .nil⟩
  show _ ∨ (!w.params.followText "set-order") = true
  cases w.params.followText "set-order" with
  | true => exact .inl rfl
  | false => exact .inr rfl
theorem TxS.more {D : SD} {l : List Str} {k : Str} (u : Tok) (F : TxS P w D l) (hk : k ∉ l) : TxS P w (addTx (hashStr w k) (.str k u) D) (k :: l) := by
  obtain ⟨es, ep, t⟩ := D
  have h1 := layNew_ris t es (hashStr w k) (.str k u) F.ris
  have h2 := layNew_led t es (hashStr w k) (.str k u)
  have h3 := layNew_perm t es (hashStr w k) (.str k u)
  have ok := add_ok (k := k) u F.ok
  unfold addTx at ok ⊢
  dsimp only at ok ⊢
  generalize hL : layNew t es (hashStr w k) (.str k u) = L at h1 h2 h3 ok ⊢
  obtain ⟨es1, t1, wd, gv⟩ := L
  dsimp only at h1 h2 h3 ok ⊢
  have r2 : Ris (if t1.plain = true then { t1 with plain := false } else t1).place.toList := by split <;> exact h1
  have l2 : (if t1.plain = true then { t1 with plain := false } else t1).led = t.led := by split <;> exact h2
  obtain ⟨a, b, c⟩ := tail_more (ep := ep) (es1 := es1) (wd := wd) r2
  refine ⟨ok, List.nodup_cons.mpr ⟨hk, F.nd⟩, a, ?_, ?_⟩
  · rw [b, l2]; exact F.led
  · obtain ⟨vs, pv, sv⟩ := F.txt
    refine ⟨.str k u :: vs, ?_, .cons k u sv⟩
    have p1 := (c.trans h3).map (·.2)
    rw [Array.toList_push, List.map_append] at p1
    exact p1.trans (List.perm_append_comm.trans (pv.cons _))
theorem add_same {a : Addr} {T : String} {D : SD} {l : List Str} {k : Str} {u : Tok} {Q : Bool → Shared → Prop} (ho : s.heap.get? a = some (sObj T D)) (F : TxOk P w D l) (hk : k ∈ l) (hb : l.length < scanBound)
    (h : Q false s) : wpAny (model P w) A (setAddHashed a (.str k u) (hashStr w k)) Q E s := by
  obtain ⟨es, ep, t⟩ := D
  have hd : (sObj T (es, ep, t)).data = .set es ep t := rfl
  have hsz : es.size = l.length := F.sz
  have hel : ElemsOf (strKind P w) es.toList := F.el
  have hkey : (strKind P w).is k (.str k u) = true := is_str k u
  obtain ⟨j, hj⟩ : ∃ j, List.findIdx? (fun e => (strKind P w).is k e.2) es.toList = some j := by
    cases hr : List.findIdx? (fun e => (strKind P w).is k e.2) es.toList with
    | some j => exact ⟨j, rfl⟩
    | none =>
      obtain ⟨e, he, z⟩ := (F.mem k).mp hk
      rw [List.findIdx?_eq_none_iff] at hr
      have := hr e he
      rw [z] at this; cases this
  unfold setAddHashed setAddHashedIn
  refine wpAny_holding (wpAny_bind (wpAny_setState_of ho hd F.fit ?_))
  dsimp only
  rw [byScan_of rfl (by omega) hel]
  simp only [↓reduceIte]
  unfold setAddByScan
  refine wpAny_bind (wpAny_bind (wpAny_rule ?_))
  refine wpAny_bind (wpAny_setScan_of (knd := strKind P w) (k := k) hkey ho hd F.fit hel ?_)
  rw [hj]
  dsimp only
  exact wpAny_pure (wpAny_pure h)
/-- the loop of set(texts) -/
theorem loop_txt {I : Addr} {fp wr : List Addr} {G : Array GenState → Array GenState → Prop} {n : Nat} {Pv : Nat → Value → Prop} {St : Nat → Shared → Prop} {R : Result → Shared → Prop}
    (W : WalksS P w A.in1 I fp wr G n Pv St) (S : Addr) (hSf : S ∉ fp) (xs : List Str) (hn : n = xs.length) (hb : xs.length + 1 < scanBound) (hval : ∀ i v, Pv i v → ∃ x t, xs[i]? = some x ∧ v = .str x t) :
    ∀ (k i : Nat) (s : Shared), n - i = k → i ≤ n → St i s → (∃ D l, s.heap.get? S = some (sObj "set" D) ∧ TxS P w D l ∧ l.length ≤ i ∧ ∀ x, x ∈ l ↔ x ∈ xs.take i) →
      (∀ s' D l, Moved (S :: wr) G s s' → s'.heap.get? S = some (sObj "set" D) → TxS P w D l → l.length ≤ n → (∀ x, x ∈ l ↔ x ∈ xs) → R (.ok (.ret .none)) s') →
      codeAny (model P w) A (.builtin "set.update.loop" ⟨[.ref S, .ref I], []⟩) R s := by
  have hSw : S ∉ wr := fun h => hSf (W.sub _ h)
  have up : ∀ b ∈ wr, b ∈ S :: wr := fun b hb => List.mem_cons_of_mem _ hb
  intro k
  induction k with
  | zero =>
    intro i s hk hi hst ⟨D, l, hS, T, hl, hm⟩ hR
    obtain rfl : i = n := by omega
    refine codeAny_builtin PyProof.Rows.F.entry_set_update_loop ?_
    rw [Around.under_plainId PyProof.Rows.F.plain_set_update_loop _]
    show wpAny _ A.in1 (pyNext (.ref I) >>= _) _ _ s
    refine wpAny_bind (W.done s _ _ hst fun s' mv => wpAny_pure (hR s' D l (mv.mono up) (mv.heap S _ hSw hS) T hl fun x => ?_))
    rw [hm x, hn, List.take_length]
  | succ k ih =>
    intro i s hk hi hst ⟨D, l, hS, T, hl, hm⟩ hR
    have lt : i < n := by omega
    refine codeAny_builtin PyProof.Rows.F.entry_set_update_loop ?_
    rw [Around.under_plainId PyProof.Rows.F.plain_set_update_loop _]
    show wpAny _ A.in1 (pyNext (.ref I) >>= _) _ _ s
    refine wpAny_bind (W.item i s _ _ lt hst fun v s1 hv st1 mv => ?_)
    obtain ⟨x, t, hx, rfl⟩ := hval i v hv
    have hS1 : s1.heap.get? S = some (sObj "set" D) := mv.heap S _ hSw hS
    have tk : xs.take (i + 1) = xs.take i ++ [x] := by rw [List.take_add_one, hx]; rfl
    show wpAny _ A.in1 (holding [Value.str x t] (setAdd S (.str x t)) >>= _) _ _ s1
    refine wpAny_bind (wpAny_holding ?_)
    unfold setAdd
    refine wpAny_holding (wpAny_bind ((strKind P w).pyHash (k := x) (strKind_is _ _ _ _) ?_))
    by_cases c : x ∈ l
    · refine add_same (s := { s1 with toks := s1.toks + 1 }) hS1 T.ok c (by omega) ?_
      refine wpAny_pure ⟨plainId_quiet PyProof.Rows.F.plain_set_update_loop _, ih (i + 1) _ (by omega) lt (W.frame _ s1 _ _ st1 (Nat.le_succ _) fun b _ o e => e) ⟨D, l, hS1, T, by omega, fun y => ?_⟩ fun s2 D2 l2 m2 => hR s2 D2 l2 (Moved.trans W.gtrans ((mv.mono up).then_heap (Nat.le_succ _) fun b o _ e => e) m2)⟩
      rw [tk, List.mem_append, List.mem_singleton, ← hm y]
      exact ⟨.inl, fun z => z.elim id fun e => e ▸ c⟩
    · refine add_x (s := { s1 with toks := s1.toks + 1 }) hS1 T.ok c (by omega) ?_
      have oth : ∀ b o, b ≠ S → s1.heap.get? b = some o → (s1.heap.update S fun _ => sObj "set" (addTx (hashStr w x) (.str x t) D)).get? b = some o := fun b o hb e => by
        rw [Heap.get?_update_ne _ _ _ _ hb]; exact e
      refine wpAny_pure ⟨plainId_quiet PyProof.Rows.F.plain_set_update_loop _, ih (i + 1) _ (by omega) lt (W.frame _ s1 _ _ st1 (Nat.le_succ _) fun b hb o e => oth b o (fun z => hSf (z ▸ hb)) e) ⟨_, x :: l, get_upd _ hS1 rfl, T.more t c, by simp; omega, fun y => ?_⟩ fun s2 D2 l2 m2 =>
        hR s2 D2 l2 (Moved.trans W.gtrans ((mv.mono up).then_heap (Nat.le_succ _) fun b o hb e => oth b o (fun z => hb (by rw [z]; exact List.mem_cons_self)) e) m2)⟩
      rw [tk, List.mem_append, List.mem_singleton, List.mem_cons, ← hm y]
      exact Or.comm
/-- set(x), x a list: what the loop leaves -/
theorem call_set_list {l : Addr} {items : Array Value} {Z : Heap → Prop} {Q : Value → Shared → Prop} (hh : A.handled = none) (hl : s.heap.IsList l items)
    (loop : ∀ (B : Around) (R : Result → Shared → Prop), B.handled = none → B.units ≤ A.units + 2 → (∀ h' tk, Z h' → (∀ b o, s.heap.get? b = some o → h'.get? b = some o) → R (.ok (.ret .none)) { s with heap := h', toks := tk }) →
      codeAny (model P w) B (.builtin "set.update.loop" ⟨[.ref s.heap.objs.size, .ref (s.heap.push (set0 w)).objs.size], []⟩) R { s with heap := (s.heap.push (set0 w)).push { cls := .type "list_iterator", data := .fields #[.ref l, .int 0 0] } })
    (h : ∀ (h' : Heap) (tk : Nat), Z h' → (∀ b o, s.heap.get? b = some o → h'.get? b = some o) → Q (.ref s.heap.objs.size) { s with heap := h', toks := tk }) :
    wpAny (model P w) A (call (.type "set") [.ref l]) Q E s := by
  obtain ⟨c, tl, hmro⟩ := PySem.F.called_set.mro
  have hmade := PySem.F.called_set.made
  have hsub := PySem.F.called_set.sub
  refine wpAny_call (codeAny_of_tree ?_)
  show wpAny _ _ (callAny (.type "set") _) _ _ _
  refine wpAny_pure ⟨Code.quiet_builtin _ (by decide +kernel), codeAny_builtin PySem.F.entry_type_call ?_⟩
  rw [Around.under_plain (weight_type_call_type "set" [.ref l] []) rfl]
  have h1 := PySem.F.called_set.notType
  have h2 := PySem.F.called_set.canCreate
  have hct := PySem.F.typeCall_set_1 (.ref l)
  repeat (any_goals (first | assumption | wp_step))
  refine codeAny_mono (code_set_led1 (.ref l) (E := E) (Q₁ := fun obj s₁ => obj = .ref s.heap.objs.size ∧ s₁ = { s with heap := s.heap.push (set0 w) }) ⟨rfl, rfl⟩) fun r s₁ hr => ?_
  cases r with
  | error e => exact hr
  | ok fl =>
    cases fl with
    | ret obj =>
      obtain ⟨rfl, rfl⟩ := hr
      have hS : (s.heap.push (set0 w)).get? s.heap.objs.size = some (set0 w) := Heap.get?_push_size _ rfl
      have hT : Shared.TypeIs { s with heap := s.heap.push (set0 w) } (.ref s.heap.objs.size) "set" := ⟨_, hS, rfl⟩
      have hli := PySem.F.called_set.init.lookup
      have hbi := PySem.F.called_set.init.bind (.ref s.heap.objs.size)
      repeat (any_goals (first | assumption | wp_step))
      refine codeAny_mono (codeAny_call_builtin (R := wants (fun r s₂ => r = .none ∧ ∃ h' tk, s₂ = { s with heap := h', toks := tk } ∧ Z h' ∧ ∀ b o, s.heap.get? b = some o → h'.get? b = some o) E) PySem.F.called_set.init.plain PySem.F.entry_set_init (check_set_init_1 hT ?_)) fun r₂ s₂ hr₂ => ?_
      · obtain ⟨ol, hol, hcl, nl, hdl⟩ := hl
        obtain ⟨ocls, odict, odata, oslots⟩ := ol
        simp only at hcl hdl
        subst hcl; subst hdl
        have hol' : (s.heap.push (set0 w)).get? l = some { cls := .type "list", dict := odict, data := .seq items nl, slots := oslots } := Heap.get?_push_of_some _ hol
        have hsls := PySem.F.sub_list_set
        have hslf := PySem.F.sub_list_frozenset
        have hne : (Value.type "list" == Value.type "dict") = false := by decide
        have hl1 : (s.heap.push (set0 w)).IsList l items := ⟨_, hol', rfl, nl, rfl⟩
        unfold Builtin.«set.__init__» noKeywords Builtin.Frozenset.updateFrom
        generalize hPI : pyIter = PI
        wp_walk
        subst hPI
        refine wpAny_pyIter_list hl1 (wpAny_bind (wpAny_runValue (loop _ _ (by simp [hh]) ?UN fun h' tk z k => ?_)))
        case UN => exact Nat.le_refl _
        exact wpAny_pure (wpAny_pure ⟨rfl, h', tk, rfl, z, k⟩)
      · cases r₂ with
        | error e => exact hr₂
        | ok fl₂ =>
          cases fl₂ with
          | ret r =>
            obtain ⟨rfl, h', tk, rfl, z, k⟩ := hr₂
            repeat (any_goals (first | assumption | wp_step))
            exact h _ _ z k
          | _ => exact hr₂.elim
    | _ => exact hr.elim
/-- set(x), x a list of texts -/
theorem set_txt_list {l : Addr} {items : Array Value} {xs : List Str} {Q : Value → Shared → Prop} (hh : A.handled = none) (hl : s.heap.IsList l items) (hi : StrsAre items.toList xs) (hb : xs.length + 1 < scanBound)
    (h : ∀ (h' : Heap) (tk : Nat) (D : SD) (m : List Str), h'.get? s.heap.objs.size = some (sObj "set" D) → TxS P w D m → m.length ≤ xs.length → (∀ x, x ∈ m ↔ x ∈ xs) → (∀ b o, s.heap.get? b = some o → h'.get? b = some o) → Q (.ref s.heap.objs.size) { s with heap := h', toks := tk }) :
    wpAny (model P w) A (call (.type "set") [.ref l]) Q E s := by
  have hsz : items.size = xs.length := by rw [← StrsAre.len_eq hi, Array.length_toList]
  refine call_set_list (Z := fun h' => ∃ D m, h'.get? s.heap.objs.size = some (sObj "set" D) ∧ TxS P w D m ∧ m.length ≤ xs.length ∧ ∀ x, x ∈ m ↔ x ∈ xs) hh hl (fun B R hB _ hR => ?_) fun h' tk ⟨D, m, a, b, c, d⟩ k => h h' tk D m a b c d k
  have lS : l < s.heap.objs.size := by
    obtain ⟨ol, hol, _⟩ := hl
    exact Heap.lt_size hol
  have z1 : (s.heap.push (set0 w)).objs.size = s.heap.objs.size + 1 := Heap.size_push ..
  have nI : l ≠ (s.heap.push (set0 w)).objs.size := by rw [z1]; exact Nat.ne_of_lt (Nat.lt_succ_of_lt lS)
  have nS : s.heap.objs.size ∉ [(s.heap.push (set0 w)).objs.size, l] := by
    rw [z1]
    simp only [List.mem_cons, List.not_mem_nil, or_false, not_or]
    exact ⟨Nat.ne_of_lt (Nat.lt_succ_self _), Nat.ne_of_gt lS⟩
  have hS : (s.heap.push (set0 w)).get? s.heap.objs.size = some (set0 w) := Heap.get?_push_size _ rfl
  refine loop_txt ((Walks.list (by simp [hB]) _ l nI items).toS) s.heap.objs.size nS xs hsz hb (fun i v hv => ?_) (items.size - 0) 0 _ (by omega) (Nat.zero_le _) ⟨⟨_, Heap.get?_push_size _ rfl, rfl, rfl⟩, (hl.push _).push _⟩ ⟨(#[], 0, .fresh 0 0 (!w.params.followText "set-order")), [], Heap.get?_push_of_some _ hS, TxS.none rfl, Nat.le_refl _, fun x => by simp⟩ fun s' D m mv e T c d => ?_
  · have q := SS.strs_at hi i v (by rw [Array.getElem?_toList]; exact hv)
    obtain ⟨t, e⟩ := q
    have hi' : i < xs.length := by rw [← hsz]; exact (Array.getElem?_eq_some_iff.mp hv).1
    refine ⟨xs[i], t, List.getElem?_eq_getElem hi', ?_⟩
    rw [e, List.getD_eq_getElem?_getD, List.getElem?_eq_getElem hi']; rfl
  · obtain ⟨h', g', d', tk', os'⟩ := s'
    obtain rfl : g' = s.gens := mv.gens
    obtain rfl : d' = s.drawn := mv.drawn
    obtain rfl : os' = s.os := mv.os
    refine hR h' tk' ⟨D, m, e, T, by rw [← hsz]; exact c, d⟩ fun b o eb => ?_
    have b1 := Heap.lt_size eb
    refine mv.heap b o ?_ (Heap.get?_push_of_some _ (Heap.get?_push_of_some _ eb))
    rw [z1]
    simp only [List.mem_cons, List.not_mem_nil, or_false, not_or]
    exact ⟨Nat.ne_of_lt b1, Nat.ne_of_lt (Nat.lt_succ_of_lt b1)⟩
/-- set(x), x a tuple: what the loop leaves -/
theorem call_set_tuple {l : Addr} {items : Array Value} {Z : Heap → Prop} {Q : Value → Shared → Prop} (hh : A.handled = none) (hl : s.heap.IsTuple l items)
    (loop : ∀ (B : Around) (R : Result → Shared → Prop), B.handled = none → B.units ≤ A.units + 2 → (∀ h' tk, Z h' → (∀ b o, s.heap.get? b = some o → h'.get? b = some o) → R (.ok (.ret .none)) { s with heap := h', toks := tk }) →
      codeAny (model P w) B (.builtin "set.update.loop" ⟨[.ref s.heap.objs.size, .ref (s.heap.push (set0 w)).objs.size], []⟩) R { s with heap := (s.heap.push (set0 w)).push { cls := .type "tuple_iterator", data := .fields #[.ref l, .int 0 0] } })
    (h : ∀ (h' : Heap) (tk : Nat), Z h' → (∀ b o, s.heap.get? b = some o → h'.get? b = some o) → Q (.ref s.heap.objs.size) { s with heap := h', toks := tk }) :
    wpAny (model P w) A (call (.type "set") [.ref l]) Q E s := by
  obtain ⟨c, tl, hmro⟩ := PySem.F.called_set.mro
  have hmade := PySem.F.called_set.made
  have hsub := PySem.F.called_set.sub
  refine wpAny_call (codeAny_of_tree ?_)
  show wpAny _ _ (callAny (.type "set") _) _ _ _
  refine wpAny_pure ⟨Code.quiet_builtin _ (by decide +kernel), codeAny_builtin PySem.F.entry_type_call ?_⟩
  rw [Around.under_plain (weight_type_call_type "set" [.ref l] []) rfl]
  have h1 := PySem.F.called_set.notType
  have h2 := PySem.F.called_set.canCreate
  have hct := PySem.F.typeCall_set_1 (.ref l)
  repeat (any_goals (first | assumption | wp_step))
  refine codeAny_mono (code_set_led1 (.ref l) (E := E) (Q₁ := fun obj s₁ => obj = .ref s.heap.objs.size ∧ s₁ = { s with heap := s.heap.push (set0 w) }) ⟨rfl, rfl⟩) fun r s₁ hr => ?_
  cases r with
  | error e => exact hr
  | ok fl =>
    cases fl with
    | ret obj =>
      obtain ⟨rfl, rfl⟩ := hr
      have hS : (s.heap.push (set0 w)).get? s.heap.objs.size = some (set0 w) := Heap.get?_push_size _ rfl
      have hT : Shared.TypeIs { s with heap := s.heap.push (set0 w) } (.ref s.heap.objs.size) "set" := ⟨_, hS, rfl⟩
      have hli := PySem.F.called_set.init.lookup
      have hbi := PySem.F.called_set.init.bind (.ref s.heap.objs.size)
      repeat (any_goals (first | assumption | wp_step))
      refine codeAny_mono (codeAny_call_builtin (R := wants (fun r s₂ => r = .none ∧ ∃ h' tk, s₂ = { s with heap := h', toks := tk } ∧ Z h' ∧ ∀ b o, s.heap.get? b = some o → h'.get? b = some o) E) PySem.F.called_set.init.plain PySem.F.entry_set_init (check_set_init_1 hT ?_)) fun r₂ s₂ hr₂ => ?_
      · obtain ⟨ol, hol, hcl, nl, hdl⟩ := hl
        obtain ⟨ocls, odict, odata, oslots⟩ := ol
        simp only at hcl hdl
        subst hcl; subst hdl
        have hol' : (s.heap.push (set0 w)).get? l = some { cls := .type "tuple", dict := odict, data := .seq items nl, slots := oslots } := Heap.get?_push_of_some _ hol
        have hsls := PySem.F.sub_tuple_set
        have hslf := PySem.F.sub_tuple_frozenset
        have hne : (Value.type "tuple" == Value.type "dict") = false := by decide
        have hl1 : (s.heap.push (set0 w)).IsTuple l items := ⟨_, hol', rfl, nl, rfl⟩
        unfold Builtin.«set.__init__» noKeywords Builtin.Frozenset.updateFrom
        generalize hPI : pyIter = PI
        wp_walk
        subst hPI
        refine wpAny_pyIter_tuple hl1 (wpAny_bind (wpAny_runValue (loop _ _ (by simp [hh]) ?UN fun h' tk z k => ?_)))
        case UN => exact Nat.le_refl _
        exact wpAny_pure (wpAny_pure ⟨rfl, h', tk, rfl, z, k⟩)
      · cases r₂ with
        | error e => exact hr₂
        | ok fl₂ =>
          cases fl₂ with
          | ret r =>
            obtain ⟨rfl, h', tk, rfl, z, k⟩ := hr₂
            repeat (any_goals (first | assumption | wp_step))
            exact h _ _ z k
          | _ => exact hr₂.elim
    | _ => exact hr.elim
/-- set(x), x a tuple of texts -/
theorem set_txt_tuple {l : Addr} {items : Array Value} {xs : List Str} {Q : Value → Shared → Prop} (hh : A.handled = none) (hl : s.heap.IsTuple l items) (hi : StrsAre items.toList xs) (hb : xs.length + 1 < scanBound)
    (h : ∀ (h' : Heap) (tk : Nat) (D : SD) (m : List Str), h'.get? s.heap.objs.size = some (sObj "set" D) → TxS P w D m → m.length ≤ xs.length → (∀ x, x ∈ m ↔ x ∈ xs) → (∀ b o, s.heap.get? b = some o → h'.get? b = some o) → Q (.ref s.heap.objs.size) { s with heap := h', toks := tk }) :
    wpAny (model P w) A (call (.type "set") [.ref l]) Q E s := by
  have hsz : items.size = xs.length := by rw [← StrsAre.len_eq hi, Array.length_toList]
  refine call_set_tuple (Z := fun h' => ∃ D m, h'.get? s.heap.objs.size = some (sObj "set" D) ∧ TxS P w D m ∧ m.length ≤ xs.length ∧ ∀ x, x ∈ m ↔ x ∈ xs) hh hl (fun B R hB _ hR => ?_) fun h' tk ⟨D, m, a, b, c, d⟩ k => h h' tk D m a b c d k
  have lS : l < s.heap.objs.size := by
    obtain ⟨ol, hol, _⟩ := hl
    exact Heap.lt_size hol
  have z1 : (s.heap.push (set0 w)).objs.size = s.heap.objs.size + 1 := Heap.size_push ..
  have nI : l ≠ (s.heap.push (set0 w)).objs.size := by rw [z1]; exact Nat.ne_of_lt (Nat.lt_succ_of_lt lS)
  have nS : s.heap.objs.size ∉ [(s.heap.push (set0 w)).objs.size, l] := by
    rw [z1]
    simp only [List.mem_cons, List.not_mem_nil, or_false, not_or]
    exact ⟨Nat.ne_of_lt (Nat.lt_succ_self _), Nat.ne_of_gt lS⟩
  have hS : (s.heap.push (set0 w)).get? s.heap.objs.size = some (set0 w) := Heap.get?_push_size _ rfl
  refine loop_txt ((Walks.tuple (by simp [hB]) _ l nI items).toS) s.heap.objs.size nS xs hsz hb (fun i v hv => ?_) (items.size - 0) 0 _ (by omega) (Nat.zero_le _) ⟨⟨_, Heap.get?_push_size _ rfl, rfl, rfl⟩, (hl.push _).push _⟩ ⟨(#[], 0, .fresh 0 0 (!w.params.followText "set-order")), [], Heap.get?_push_of_some _ hS, TxS.none rfl, Nat.le_refl _, fun x => by simp⟩ fun s' D m mv e T c d => ?_
  · have q := SS.strs_at hi i v (by rw [Array.getElem?_toList]; exact hv)
    obtain ⟨t, e⟩ := q
    have hi' : i < xs.length := by rw [← hsz]; exact (Array.getElem?_eq_some_iff.mp hv).1
    refine ⟨xs[i], t, List.getElem?_eq_getElem hi', ?_⟩
    rw [e, List.getD_eq_getElem?_getD, List.getElem?_eq_getElem hi']; rfl
  · obtain ⟨h', g', d', tk', os'⟩ := s'
    obtain rfl : g' = s.gens := mv.gens
    obtain rfl : d' = s.drawn := mv.drawn
    obtain rfl : os' = s.os := mv.os
    refine hR h' tk' ⟨D, m, e, T, by rw [← hsz]; exact c, d⟩ fun b o eb => ?_
    have b1 := Heap.lt_size eb
    refine mv.heap b o ?_ (Heap.get?_push_of_some _ (Heap.get?_push_of_some _ eb))
    rw [z1]
    simp only [List.mem_cons, List.not_mem_nil, or_false, not_or]
    exact ⟨Nat.ne_of_lt b1, Nat.ne_of_lt (Nat.lt_succ_of_lt b1)⟩
end
end Lw

set_option Elab.async false
set_option linter.all false
set_option maxRecDepth 100000
set_option maxHeartbeats 4000000
namespace Lw
open PySem PySem.Spec PyProof.Rows L2 PySem.Calls PySem.Froz
open RZ (ItzT pi_zipA)
/-! ### sorted(set(x)), x a list or tuple of texts -/
def SetTx (P : Program) (w : World) (a : Addr) (l : List Str) : HO := .ext fun h => ∃ D, h.get? a = some (sObj "set" D) ∧ TxS P w D l
theorem setTx_new {P : Program} {w : World} {H : Hp} {h : Heap} {a : Addr} {D : SD} {l : List Str} (e : h.get? a = some (sObj "set" D)) (T : TxS P w D l) : ObjOk P w H h a (SetTx P w a l) :=
  ⟨⟨D, e, T⟩, ⟨_, e⟩, fun h1 h2 ⟨D, e, T⟩ k => ⟨D, k _ e, T⟩⟩
theorem perm_same {l m : List Str} (h1 : l.Nodup) (h2 : m.Nodup) (h : ∀ x, x ∈ l ↔ x ∈ m) : l.Perm m := (List.perm_ext_iff_of_nodup h1 h2).mpr h
theorem strs_perm {us vs : List Value} (p : us.Perm vs) : ∀ {m : List Str}, StrsAre us m → ∃ ws, StrsAre vs ws ∧ ws.Perm m := by
  induction p with
  | nil => intro m h; cases h; exact ⟨[], .nil, .refl _⟩
  | cons x p ih =>
    intro m h
    cases h with
    | cons n t hr =>
      obtain ⟨ws, h1, h2⟩ := ih hr
      exact ⟨_ :: ws, .cons n t h1, h2.cons _⟩
  | swap x y l =>
    intro m h
    cases h with
    | cons n t hr => cases hr with
      | cons n2 t2 hr2 => exact ⟨_, .cons n2 t2 (.cons n t hr2), .swap _ _ _⟩
  | trans p q ih1 ih2 =>
    intro m h
    obtain ⟨ws, h1, h2⟩ := ih1 h
    obtain ⟨zs, h3, h4⟩ := ih2 h1
    exact ⟨zs, h3, h4.trans h2⟩
section
variable {X : Cx}
def rSetTx (K : PySem.W.Frag) (P : Program) (w : World) : List V → Hp → VK → Prop := fun vs H Q => ∃ (a : Addr) (xs : List Str), vs = [.ref a] ∧ (SqL K H a (xs.map V.str) ∨ SqT K H a (xs.map V.str)) ∧ xs.length < 60 ∧
  ∀ p m, H p = none → m.Nodup → m.length ≤ xs.length → (∀ x, x ∈ m ↔ x ∈ xs) → Q (.ref p) (upd H p (SetTx P w p m))
theorem cr_setTx (hc : X.calm = true) : CallR X (.type "set") (rSetTx X.K X.prog X.w) := by
  intro pins s σ H vs us Q I r h
  obtain ⟨a, xs, rfl, hq, hz, q⟩ := h
  rw [Vals.ref1 r]
  have big : xs.length + 1 < scanBound := by unfold scanBound; omega
  have hn : H s.heap.objs.size = none := I.hok.fresh (Nat.le_refl _)
  have fin : ∀ (h' : Heap) (tk : Nat) (D : SD) (m : List Str), h'.get? s.heap.objs.size = some (sObj "set" D) → TxS X.prog X.w D m → m.length ≤ xs.length → (∀ x, x ∈ m ↔ x ∈ xs) → (∀ b o, s.heap.get? b = some o → h'.get? b = some o) →
      EP X pins σ Q (.ref s.heap.objs.size) { s with heap := h', toks := tk } := fun h' tk D m e T hl hm k =>
    ⟨.ref s.heap.objs.size, upd H s.heap.objs.size (SetTx X.prog X.w s.heap.objs.size m), I.laid (t' := tk) k (Nat.le_refl _) (setTx_new e T), rfl, q _ m hn T.nd hl hm⟩
  rcases hq with hq | hq
  · obtain ⟨its, rv, pl, _⟩ := I.list hq
    exact set_txt_list (P := X.prog) (w := X.w) (I.ok.hd hc) pl.isList (by simpa using strsAre_of rv) big fin
  · obtain ⟨its, rv, pl, _⟩ := I.tuple hq
    exact set_txt_tuple (P := X.prog) (w := X.w) (I.ok.hd hc) (show s.heap.IsTuple a its.toArray from pl) (by simpa using strsAre_of rv) big fin
def rSortTx (P : Program) (w : World) : List V → Hp → VK → Prop := fun vs H Q => ∃ (a : Addr) (m : List Str), vs = [V.ref a] ∧ H a = some (SetTx P w a m) ∧ m.length < 60 ∧
  ∀ (ys : List Str) (p : Addr), ys.Perm m → sortedS ys = true → H p = none → Q (.ref p) (upd H p (.lst (ys.map V.str)))
theorem cr_sortTx (hc : X.calm = true) : CallR X (.builtin "sorted") (rSortTx X.prog X.w) := by
  intro pins s σ H vs us Q I r h
  obtain ⟨a, m, rfl, ha, hz, q⟩ := h
  rw [Vals.ref1 r]
  obtain ⟨D, ho, T⟩ : ∃ D, s.heap.get? a = some (sObj "set" D) ∧ TxS X.prog X.w D m := (I.hok a _ ha).1
  obtain ⟨es, ep, t⟩ := D
  have hsz : es.size = m.length := T.ok.sz
  refine Calls.call_function_entry kind_sorted plain_sorted entry_sorted (args_sorted1 _) ?_
  unfold Builtin.«sorted»
  refine wpAny_bind (m := checkCount "sorted" 1 1 _) (wpAny_pure ?_)
  refine wpAny_bind (collect_set (A := X.A.in1) (I.ok.hd hc) ⟨_, ho, rfl, rfl⟩ T.ok.fit (by show es.size < scanBound; unfold scanBound; omega) T.ris T.led fun s1 vs k1 hz1 g1 o1 pm => ?_)
  obtain ⟨us0, pu, su⟩ := T.txt
  have pv : vs.Perm us0 := pm.trans pu
  obtain ⟨ws, hS, pw⟩ := strs_perm pv.symm su
  have hal : vs.length = m.length := by rw [StrsAre.len_eq hS, pw.length_eq]
  refine wpAny_bind (wpAny_newList ?_ (by rw [hal, sizeLine_eq]; omega))
  have hoL : (s1.heap.push (seqObj "list" vs.toArray 0)).get? s1.heap.objs.size = some (seqObj "list" vs.toArray 0) := Heap.get?_push_size _ rfl
  refine wpAny_bind (wpAny_holding (wpAny_call_entry slot_list_sort ⟨_, hoL, rfl⟩ entry_list_sort
    (list_sort_treeK strKind_oneLt (s := { s1 with heap := s1.heap.push (seqObj "list" vs.toArray 0) }) hoL hS.keysOf (fun v₁ v₂ rest e => keyKind_strs (by rw [← e]; exact hS)) (by rw [hal]; omega) fun st' hp hs => ⟨_, rfl, ?_⟩) (args_list_sort _)))
  obtain ⟨ys, e1, e2, e3⟩ := sorted_out_str hS hp hs
  obtain ⟨c, hcl⟩ := sortedHeap_at (vs := vs) (out := (arrOf st').map (·.2)) hoL
  have hlen : (ys.map V.str).length ≤ sizeLine := by rw [List.length_map, e2.length_eq, pw.length_eq, sizeLine_eq]; omega
  have kk : ∀ b u, s.heap.get? b = some u → (sortedHeap (s1.heap.push (seqObj "list" vs.toArray 0)) s1.heap.objs.size vs ((arrOf st').map (·.2))).get? b = some u := fun b u e => by
    have q := k1 b u e
    have hlt := Heap.lt_size q
    rw [sortedHeap_old (Nat.ne_of_lt hlt) (by rw [size_push']; exact Nat.lt_succ_of_lt hlt)]
    exact Heap.get?_push_of_some _ q
  have hn : H s1.heap.objs.size = none := I.hok.fresh hz1
  obtain ⟨h1, g', d1, tk1, os1⟩ := s1
  obtain rfl : g' = s.gens := g1
  obtain rfl : os1 = s.os := o1
  have J : L2.Inv X pins σ (upd H h1.objs.size (.lst (ys.map V.str))) { s with heap := sortedHeap (h1.push (seqObj "list" vs.toArray 0)) h1.objs.size vs ((arrOf st').map (·.2)), gens := s.gens, drawn := d1, toks := tk1 } :=
    I.call (ch := []) (Un.laid kk hz1 hn) (I.hok.laid kk hz1 ⟨hlen, ((arrOf st').map (·.2)).toList, c, vals_of_strs e1, hcl⟩) I.bare (fun _ z => nomatch z)
  exact wpAny_pure ⟨_, rfl, .ref h1.objs.size, upd H h1.objs.size (.lst (ys.map V.str)), J, rfl, q ys _ (e2.trans pw) e3 hn⟩
end
section
variable {X : Cx} {e o k x : Expr} {qe qd qk qx : QE} {p1 p2 pos apos : Pos}
def qSortSet (qe : QE) : QE := fun ρ G Q => qe ρ G fun x G1 => ∃ xs : List Str, (x = .tup (xs.map T.str) ∨ ∃ a, x = .ref a ∧ G1 a = some (.lst (xs.map T.str))) ∧ xs.length < 60 ∧
  ∀ ys : List Str, ys.Nodup → (∀ x, x ∈ ys ↔ x ∈ xs) → sortedS ys = true → ∀ p, G1 p = none → Q (.ref p) (gput G1 p (.lst (ys.map T.str)))
theorem RpL.strs {K : PySem.W.Frag} {H : Hp} : ∀ {ns : List Str} {vs : List V}, RpL K H (ns.map T.str) vs → vs = ns.map V.str
  | [], _, h => h
  | n :: ns, _, ⟨v, r, e, h, hr⟩ => by rw [e, show v = V.str n from h, RpL.strs hr]; rfl
theorem e_sortSet (hc : X.calm = true) (hg : Gl X "sorted") (hm : X.mg "sorted" = none) (hg2 : Gl X "set") (hm2 : X.mg "set" = none) (he : PE X e (cE X.K qe))
    (h1 : starEach [e] X.env = (false, eval e X.env) :: starEach [] X.env := by rfl) (h2 : starEach [.Call (.Name "set" p2) [e] [] apos] X.env = (false, eval (.Call (.Name "set" p2) [e] [] apos) X.env) :: starEach [] X.env := by rfl) :
    PE X (.Call (.Name "sorted" p1) [.Call (.Name "set" p2) [e] [] apos] [] pos) (cE X.K (qSortSet qe)) :=
  PE.wk (pe_callB (cr_sortTx hc) hg hm boot_sorted (pa_cons (pe_callTy (cr_setTx hc) hg2 hm2 (by decide +kernel) (pa_cons he pa_nil h1) (he := h1)) pa_nil h2) (he := h2)) fun σ H KQ h => by
    obtain ⟨ρ, G, Q, e, a, q, g⟩ := h
    refine ⟨ρ, G, _, e, a, q, fun v H1 t G1 k1 a1 r1 ⟨xs, hx, hz, q1⟩ => ?_⟩
    have fin : ∀ p, (SqL X.K H1 p (xs.map V.str) ∨ SqT X.K H1 p (xs.map V.str)) → v = .ref p → rSetTx X.K X.prog X.w [v] H1 fun x H2 => rSortTx X.prog X.w [x] H2 KQ := fun p hs ev => by
      refine ⟨p, xs, by rw [ev], hs, hz, fun p1 m hp1 nd hl hmm => ⟨p1, m, rfl, upd_same, by omega, fun ys p2 py sy hp2 => ?_⟩⟩
      have n1 : Tups H1 (upd H1 p1 (SetTx X.prog X.w p1 m)) := Tups.new hp1
      have a2 := a1.grow (u := SetTx X.prog X.w p1 m) hp1
      have n2 : Tups _ (upd (upd H1 p1 (SetTx X.prog X.w p1 m)) p2 (.lst (ys.map V.str))) := Tups.new hp2
      exact g (.ref p2) _ (.ref p2) _ (k1.trans (n1.trans n2)) (a2.put (o := .lst (ys.map T.str)) ⟨fun xs z => (by rw [hp2] at z; cases z), fun o xs z => (by rw [hp2] at z; cases z)⟩ ⟨_, upd_same, RpL.of_strs⟩) rfl (q1 ys (py.nodup_iff.mpr nd) (fun x => py.mem_iff.trans (hmm x)) sy p2 (a2.free hp2))
    rcases hx with rfl | ⟨b, rfl, hg1⟩
    · obtain ⟨b, ws, rfl, hb, rr⟩ := r1
      rw [rr.strs] at hb
      exact fin b (.inr (SqT.of hb)) rfl
    · cases r1
      obtain ⟨ws, hb, rr⟩ := a1 _ _ hg1
      rw [rr.strs] at hb
      exact fin b (.inl (SqL.of hb)) rfl
/-! ### d.get(k, x) -/
def qGet2 (qd qk qx : QE) : QE := fun ρ G Q => qd ρ G fun d G1 => match d with
  | .ref a => (∃ kvs, G1 a = some (.dK kvs)) ∧ qk ρ G1 fun y G2 => qx ρ G2 fun z G3 => ∃ k kvs, keyT y = some k ∧ G3 a = some (.dK kvs) ∧ Q ((valT kvs k).getD z) G3
  | _ => False
theorem e_get2 (hu : X.A.units + 1 < cLine) (ho : PE X o (cE X.K qd)) (hk : PE X k (cE X.K qk)) (hx : PE X x (cE X.K qx)) (m : M2 X o "get" apos k x pos) : PE X (.Call (.Attribute o "get" apos) [k, x] [] pos) (cE X.K (qGet2 qd qk qx)) :=
  PE.wk (pe_dget2 hu ho hk hx m) fun σ H KQ h => by
    obtain ⟨ρ, G, Q, e, a, q, g⟩ := h
    refine ⟨ρ, G, _, e, a, q, fun v H1 t G1 k1 a1 r1 q1 => ?_⟩
    split at q1
    · rename_i d
      obtain ⟨⟨kvs0, hd0⟩, q1⟩ := q1
      cases r1
      obtain ⟨ws0, hp0, _⟩ := a1 _ _ hd0
      refine ⟨_, rfl, .inl ⟨ws0, .inl hp0⟩, ρ, G1, _, e.mono k1, a1, q1, fun w H2 u G2 k2 a2 r2 q2 => ?_⟩
      refine ⟨ρ, G2, _, e.mono (k1.trans k2), a2, q2, fun z H3 y G3 k3 a3 r3 q3 => ?_⟩
      obtain ⟨kk, kvs, hkk, hg, q3⟩ := q3
      obtain ⟨ws, hp, r⟩ := a3 _ _ hg
      have ev := keyT_rp hkk (r2.mono k3)
      subst ev
      refine ⟨_, DGet.k (k := kk) hp, ?_⟩
      obtain ⟨s1, s2⟩ := r.val (k := kk)
      have kt := (k1.trans k2).trans k3
      cases hv : valT kvs kk with
      | none =>
        rw [hv] at s1 q3
        have : valV ws kk = none := by
          cases hw : valV ws kk with
          | none => rfl
          | some _ => rw [hw] at s1; cases s1
        rw [this]
        exact g z H3 y G3 kt a3 r3 q3
      | some t =>
        rw [hv] at q3
        obtain ⟨v, e1, rv⟩ := s2 t hv
        rw [e1]
        exact g v H3 t G3 kt a3 rv q3
    · exact q1.elim
/-! ### dict(pairs) -/
def fDictP : QC := fun ts G Q => match ts with
  | [.ref a] => ∃ kvs : List (Key × T), G a = some (.lst (kvs.map fun kv => T.tup [kT kv.1, kv.2])) ∧ (kvs.map (·.1)).Nodup ∧ ∀ p, G p = none → Q (.ref p) (gput G p (.dK kvs))
  | _ => False
theorem mergeK_new : ∀ {ws acc : List (Key × V)}, ((acc ++ ws).map (·.1)).Nodup → mergeK acc ws = acc ++ ws
  | [], acc, _ => by simp [mergeK]
  | p :: ws, acc, h => by
    have e : L2.putK acc p.1 p.2 = acc ++ [p] := by
      unfold L2.putK
      rw [if_neg]
      intro z
      rw [List.any_eq_true] at z
      obtain ⟨q, hq, z⟩ := z
      have z := of_decide_eq_true z
      rw [List.map_append, List.nodup_append] at h
      exact h.2.2 q.1 (List.mem_map.mpr ⟨q, hq, rfl⟩) p.1 (by simp) z
    show mergeK (L2.putK acc p.1 p.2) ws = _
    rw [e, mergeK_new (by rw [List.append_assoc]; exact h), List.append_assoc]; rfl
theorem pairs_rp {K : PySem.W.Frag} {H : Hp} : ∀ {kvs : List (Key × T)} {vs : List V}, RpL K H (kvs.map fun kv => T.tup [kT kv.1, kv.2]) vs → ∃ (ps : List Addr) (ws : List (Key × V)), vs = ps.map V.ref ∧ RpK K H kvs ws ∧ Paired (fun p kv => SqT K H p [kV kv.1, kv.2]) ps ws
  | [], _, h => ⟨[], [], h, rfl, .nil⟩
  | kv :: kvs, _, ⟨v, r, e, ⟨a, vs, e2, ha, v1, r1, e3, h1, v2, r2, e4, h2, h3⟩, hr⟩ => by
    obtain ⟨ps, ws, q1, q2, q3⟩ := pairs_rp hr
    have ek : v1 = kV kv.1 := by
      cases hk : kv.1 <;> (rw [hk] at h1; exact h1)
    subst ek
    subst e4
    rw [show r2 = [] from h3] at e3
    subst e3
    exact ⟨a :: ps, (kv.1, v2) :: ws, by rw [e, e2, q1]; rfl, ⟨v2, ws, rfl, h2, q2⟩, .cons (SqT.of ha) q3⟩
theorem b_dictP (hc : X.calm = true) : CallR X (.type "dict") (cC X.K fDictP) := by
  intro pins s σ H vs us KQ I r h
  obtain ⟨ts, G, Q, hr, ha, hf, hk⟩ := h
  unfold fDictP at hf
  split at hf
  · obtain ⟨v, rfl, h1⟩ := rpl1 hr
    cases h1
    obtain ⟨kvs, hg, nd, q⟩ := hf
    obtain ⟨vs, hp, rr⟩ := ha _ _ hg
    obtain ⟨ps, ws, rfl, q2, q3⟩ := pairs_rp rr
    have nw : (([] ++ ws : List (Key × V)).map (·.1)).Nodup := by rw [List.nil_append, q2.keys]; exact nd
    refine call_dictP hc pins s σ H _ us KQ I r ⟨_, ps, ws, rfl, SqL.of hp, q3, fun p hp0 => ?_⟩
    rw [mergeK_new nw, List.nil_append]
    have k2 : Tups H (upd H p (.dK ws)) := Tups.new hp0
    exact hk (.ref p) _ (.ref p) _ k2 (ha.put (o := .dK kvs) ⟨fun xs z => (by rw [hp0] at z; cases z), fun o xs z => (by rw [hp0] at z; cases z)⟩ ⟨ws, upd_same, q2.mono k2⟩) rfl (q p (ha.free hp0))
  · exact hf.elim
/-! ### zip of two lists, two tuples -/
def zipT (xs ys : List T) : List T := List.zipWith (fun a b => T.tup [a, b]) xs ys
theorem zipT_len {xs ys : List T} : (zipT xs ys).length = min xs.length ys.length := by unfold zipT; rw [List.length_zipWith]
theorem zipT_at {xs ys : List T} {i : Nat} {x y : T} (h1 : xs[i]? = some x) (h2 : ys[i]? = some y) : (zipT xs ys)[i]? = some (.tup [x, y]) := by
  unfold zipT
  rw [List.getElem?_zipWith, h1, h2]
theorem zipT_get {xs ys : List T} {i : Nat} {t : T} (h : (zipT xs ys)[i]? = some t) : ∃ x y, xs[i]? = some x ∧ ys[i]? = some y ∧ t = .tup [x, y] := by
  have hi := (List.getElem?_eq_some_iff.mp h).1
  rw [zipT_len] at hi
  have e1 : xs[i]? = some xs[i] := List.getElem?_eq_getElem (by omega)
  have e2 : ys[i]? = some ys[i] := List.getElem?_eq_getElem (by omega)
  rw [zipT_at e1 e2] at h
  exact ⟨_, _, e1, e2, (Option.some.inj h).symm⟩
theorem wt_zipL {K : PySem.W.Frag} {H1 : Hp} {a b : Addr} {xs ys : List T} : WalkT K (Itz K a b) H1 (zipT xs ys) (fun G => G a = some (.lst xs) ∧ G b = some (.lst ys)) where
  goes := fun i H G hi k ab s => by
    rw [zipT_len] at hi
    obtain ⟨vs, hp, r⟩ := ab _ _ s.1
    obtain ⟨ws, hq, r'⟩ := ab _ _ s.2
    obtain ⟨v, hv, _⟩ := r.at (show xs[i]? = some (xs[i]'(by omega)) by rw [List.getElem?_eq_getElem])
    obtain ⟨w, hw, _⟩ := r'.at (show ys[i]? = some (ys[i]'(by omega)) by rw [List.getElem?_eq_getElem])
    exact ⟨vs, ws, v, w, SqL.of hp, SqL.of hq, hv, hw⟩
  stops := fun H G k ab s => by
    obtain ⟨vs, hp, r⟩ := ab _ _ s.1
    obtain ⟨ws, hq, r'⟩ := ab _ _ s.2
    refine ⟨vs, ws, SqL.of hp, SqL.of hq, ?_⟩
    rw [r.length, r'.length, zipT_len]
    omega
  yields := fun i H G x H' hi k ab s y => by
    obtain ⟨p, z1, z2, rfl, hp0, rfl, h1, h2⟩ := y
    obtain ⟨vs, hp, r⟩ := ab _ _ s.1
    obtain ⟨ws, hq, r'⟩ := ab _ _ s.2
    obtain ⟨t, ht, rt⟩ := r.get (h1 vs (SqL.of hp))
    obtain ⟨u, hu, ru⟩ := r'.get (h2 ws (SqL.of hq))
    exact ⟨Tups.new hp0, ab.grow hp0, _, zipT_at ht hu, pair_new hp0 rt ru⟩
theorem wt_zipT {K : PySem.W.Frag} {H1 : Hp} {a b : Addr} {xs ys : List T} {vs ws : List V} (hp : H1 a = some (.tup vs)) (r : RpL K H1 xs vs) (hq : H1 b = some (.tup ws)) (r' : RpL K H1 ys ws) : WalkT K (ItzT K a b) H1 (zipT xs ys) (fun _ => True) where
  goes := fun i H G hi k ab s => by
    rw [zipT_len] at hi
    obtain ⟨v, hv, _⟩ := r.at (show xs[i]? = some (xs[i]'(by omega)) by rw [List.getElem?_eq_getElem])
    obtain ⟨w, hw, _⟩ := r'.at (show ys[i]? = some (ys[i]'(by omega)) by rw [List.getElem?_eq_getElem])
    exact ⟨vs, ws, v, w, SqT.of (k.t _ _ hp), SqT.of (k.t _ _ hq), hv, hw⟩
  stops := fun H G k ab s => by
    refine ⟨vs, ws, SqT.of (k.t _ _ hp), SqT.of (k.t _ _ hq), ?_⟩
    rw [r.length, r'.length, zipT_len]
    omega
  yields := fun i H G x H' hi k ab s y => by
    obtain ⟨p, z1, z2, rfl, hp0, rfl, h1, h2⟩ := y
    obtain ⟨t, ht, rt⟩ := (r.mono k).get (h1 vs (SqT.of (k.t _ _ hp)))
    obtain ⟨u, hu, ru⟩ := (r'.mono k).get (h2 ws (SqT.of (k.t _ _ hq)))
    exact ⟨Tups.new hp0, ab.grow hp0, _, zipT_at ht hu, pair_new hp0 rt ru⟩
def qiZip (qa : QA) : QI := fun ρ G R => qa ρ G fun ts G1 => match ts with
  | [.tup xs, .tup ys] => R (zipT xs ys) (fun _ => True) G1
  | [.ref a, .ref b] => ∃ xs ys, G1 a = some (.lst xs) ∧ G1 b = some (.lst ys) ∧ R (zipT xs ys) (fun G => G a = some (.lst xs) ∧ G b = some (.lst ys)) G1
  | _ => False
theorem i_zip {qa : QA} {f : Expr} {tpos : Pos} {elts : List Expr} {kk : Nat} (hg : Gl X "zip") (hm : X.mg "zip" = none) (ha : PA X [e, f] (cA X.K qa))
    (hs : starEach [e, f] X.env = (false, eval e X.env) :: starEach [f] X.env := by rfl) (hpl : (backTo pos (starEach [f] X.env)).any (·.1) = false := by rfl) :
    PI X (.Tuple elts kk tpos) (.Call (.Name "zip" p1) [e, f] [] pos) (cI X.K (qiZip qa)) := PI.wk (pi_zipA hg hm ha hs hpl) fun σ H R h => by
  obtain ⟨ρ, G, Q, e, a, q, f⟩ := h
  refine ⟨ρ, G, _, e, a, q, fun vs H1 ts G1 k1 a1 r1 q1 => ?_⟩
  split at q1
  · obtain ⟨v, w, rfl, h1, h2⟩ := rpl2 r1
    obtain ⟨p, vs, rfl, hp, r⟩ := h1
    obtain ⟨p', ws, rfl, hp', r'⟩ := h2
    exact ⟨p, p', vs, ws, rfl, .inr ⟨SqT.of hp, SqT.of hp', f _ H1 _ _ G1 k1 a1 (wt_zipT hp r hp' r') q1⟩⟩
  · obtain ⟨v, w, rfl, h1, h2⟩ := rpl2 r1
    cases h1; cases h2
    obtain ⟨xs, ys, g1, g2, q1⟩ := q1
    obtain ⟨vs, hp, r⟩ := a1 _ _ g1
    obtain ⟨ws, hp', r'⟩ := a1 _ _ g2
    exact ⟨_, _, vs, ws, rfl, .inl ⟨SqL.of hp, SqL.of hp', f _ H1 _ _ G1 k1 a1 wt_zipL q1⟩⟩
  · exact q1.elim
end
end Lw

set_option Elab.async false
set_option linter.all false
set_option maxRecDepth 100000
set_option maxHeartbeats 4000000
namespace Lw
open PySem PySem.Spec PyProof.Rows L2 HT
/-! ### t[::-1], t a tuple -/
theorem back_at (n k : Nat) (h : k < n) : (((n : Int) - 1) + (k : Int) * (-1)).toNat = n - 1 - k := by omega
theorem fm_map {α β : Type} {f : α → Option β} {g : α → β} : ∀ {l : List α}, (∀ k ∈ l, f k = some (g k)) → l.filterMap f = l.map g
  | [], _ => rfl
  | k :: l, h => by rw [List.filterMap_cons, h k List.mem_cons_self, List.map_cons, fm_map fun j hj => h j (List.mem_cons_of_mem _ hj)]
theorem back_pick (xs : Array Value) : ((List.range xs.size).filterMap fun (k : Nat) => xs[(((xs.size : Int) - 1) + (k : Int) * (-1)).toNat]?) = xs.toList.reverse := by
  have e : ∀ k ∈ List.range xs.size, xs[(((xs.size : Int) - 1) + (k : Int) * (-1)).toNat]? = some (xs.toList.reverse.getD k .none) := fun k hk => by
    have hk := List.mem_range.mp hk
    rw [back_at _ _ hk, ← Array.getElem?_toList]
    have : xs.toList.reverse[k]? = xs.toList[xs.size - 1 - k]? := by
      rw [List.getElem?_reverse (by simpa using hk), Array.length_toList]
    rw [List.getD_eq_getElem?_getD, this]
    rw [List.getElem?_eq_getElem (by simp; omega)]; rfl
  have e2 : ((List.range xs.size).filterMap fun (k : Nat) => xs[(((xs.size : Int) - 1) + (k : Int) * (-1)).toNat]?) = (List.range xs.size).map fun k => xs.toList.reverse.getD k .none := by
    exact fm_map e
  rw [e2]
  refine List.ext_getElem (by simp) fun i h1 h2 => ?_
  rw [List.getElem_map, List.getElem_range, List.getD_eq_getElem?_getD, List.getElem?_eq_getElem h2]; rfl
section
variable {prog : Program} {w : World} {A : Around} {E : Value → Shared → Prop} {s : Shared}
theorem applied_back {sl : Addr} {vs : Value} {n : Nat} {Q : Int × Int × Nat → Shared → Prop} (hs : s.heap.IsSliceOf sl .none .none vs) (ps : IsPart vs (some (-1))) (h : Q ((n : Int) - 1, -1, n) s) :
    wpAny (model prog w) A (Builtin.Slice.sliceApplied (.ref sl) (pure (n : Int))) Q E s := by
  obtain ⟨os, hos, hcs, hds⟩ := id hs
  unfold Builtin.Slice.sliceApplied Builtin.Slice.sliceFields
  refine wpAny_bind (wpAny_bind (wpAny_field hos hds (x := .none) rfl (wpAny_bind (wpAny_field hos hds (x := .none) rfl (wpAny_bind (wpAny_field hos hds (x := vs) rfl (wpAny_pure ?_)))))))
  refine wpAny_bind (slicePart_ ps ?_)
  show wpAny _ _ (if ((-1 : Int) == 0) = true then _ else _) _ _ s
  rw [if_neg (by decide)]
  refine wpAny_bind (slicePart_none (wpAny_bind (slicePart_none (wpAny_bind (wpAny_pure ?_)))))
  have e1 : Builtin.Slice.sliceAdjust none none (-1) (n : Int) = ((n : Int) - 1, -1) := by
    unfold Builtin.Slice.sliceAdjust
    simp
  show wpAny _ _ (match Builtin.Slice.sliceAdjust none none (-1) (n : Int) with | (lo, hi) => pure (lo, (-1 : Int), Builtin.Slice.slicePlaces lo hi (-1))) _ _ s
  rw [e1]
  have e2 : Builtin.Slice.slicePlaces ((n : Int) - 1) (-1) (-1) = n := by
    unfold Builtin.Slice.slicePlaces
    simp
    try omega
  show wpAny _ _ (pure ((n : Int) - 1, (-1 : Int), Builtin.Slice.slicePlaces ((n : Int) - 1) (-1) (-1))) _ _ s
  rw [e2]
  exact wpAny_pure h
theorem item_back {t sl : Addr} {items : Array Value} {vs : Value} {Q : Value → Shared → Prop} (ht : IsTup s.heap t items) (hs : s.heap.IsSliceOf sl .none .none vs) (ps : IsPart vs (some (-1)))
    (h : Q (.ref s.heap.objs.size) { s with heap := s.heap.push { cls := .type "tuple", data := .seq items.toList.reverse.toArray } }) (hsz : items.size ≤ sizeLine) : wpAny (model prog w) A (getItem (.ref t) (.ref sl)) Q E s := by
  have hok : sizeOk (.seq items.toList.reverse.toArray) := by
    show items.toList.reverse.toArray.size ≤ sizeLine
    simpa using hsz
  obtain ⟨os, hos, hcs, hds⟩ := id hs
  have hTs : s.TypeIs (.ref sl) "slice" := ⟨os, hos, hcs⟩
  unfold getItem
  try with_reducible refine wpAny_holding ?_
  first | refine wpAny_bind (wpAny_pure ?_) | skip
  refine wpAny_bind (wpAny_sequenceKey ht.typeIs (by decide) ?_)
  refine wpAny_bind (wpAny_callSpecial?_slot (name := Str.ofString "__getitem__") ht.typeIs PyProof.Rows.slot_tuple_getitem
    (wpAny_call_entry PyProof.Rows.slot_tuple_getitem ht.typeIs entry_tuple_getitem ?_ (args_tuple_getitem _ _)))
  show wpAny _ _ (Builtin.Tuple.tupleItemsOf (.ref t) >>= _) _ _ s
  refine wpAny_bind (tupleItemsOf_ ht (wpAny_bind (wpAny_typeOf hTs ?_)))
  rw [if_pos (by decide)]
  refine wpAny_bind (applied_back hs ps ?_)
  have no : ¬ (((items.size : Int) - 1 == 0 && (-1 : Int) == 1 && items.size == items.size) = true) := by
    intro q
    rw [Bool.and_eq_true, Bool.and_eq_true] at q
    exact absurd q.1.2 (by decide)
  show wpAny _ _ (if ((items.size : Int) - 1 == 0 && (-1 : Int) == 1 && items.size == items.size) = true then _ else _) _ _ s
  rw [if_neg no, back_pick]
  first
    | exact wpAny_bind (m := Builtin.Tuple.tupleExact _) (wpAny_newObj_type (wpAny_pure ⟨_, rfl, wpAny_pure h⟩) hok)
    | exact wpAny_bind (m := Builtin.Tuple.tupleExact _) (wpAny_newObj_type (wpAny_bind (wpAny_pure (wpAny_pure ⟨_, rfl, wpAny_pure h⟩))) hok)
    | exact wpAny_bind (wpAny_bind (m := Builtin.Tuple.tupleExact _) (wpAny_newObj_type (wpAny_pure (wpAny_pure ⟨_, rfl, wpAny_pure h⟩)) hok))
    | exact wpAny_bind (wpAny_bind (m := Builtin.Tuple.tupleExact _) (wpAny_newObj_type (wpAny_pure ⟨_, rfl, wpAny_pure h⟩) hok))
end
section
variable {X : Cx}
def tBackT (K : PySem.W.Frag) (te : TE) : TE := fun σ H Q => te σ H fun x H1 => ∃ a xs, x = .ref a ∧ SqT K H1 a xs ∧ ∀ p, H1 p = none → Q (.ref p) (upd H1 p (.tup xs.reverse))
theorem pe_backT {e : Expr} {te : TE} {k : Nat} {p1 p2 p3 pos : Pos} (he : PE X e te) : PE X (.Subscript e (.Slice none none (some (.UnaryOp .USub (.Constant (.int 1) k p1) p2)) p3) pos) (tBackT X.K te) := by
  refine ⟨fun pins s σ H Q I h => ?_⟩
  refine Subscript_ (thn (he.run pins s σ H _ I h) fun v s1 ⟨x, H1, I1, r1, a, xs, ex, hx, q⟩ => ?_)
  subst ex
  cases r1
  have hst : PO X (some (.UnaryOp .USub (.Constant (.int 1) k p1) p2)) (tPart (tUn (rU fun i => .int (-i)) (tC (.int 1)))) := po_some (pe_un un_neg pe_int)
  refine wpAny_Slice (thn (po_none.run pins s1 σ H1 (fun o H2 => o = none ∧ H2 = H1) I1 ⟨rfl, rfl⟩) fun vl s2 ⟨l, H2, I2, pl, el, e2⟩ => ?_)
  subst el e2
  refine thn (po_none.run pins s2 σ H2 (fun o H3 => o = none ∧ H3 = H2) I2 ⟨rfl, rfl⟩) fun vu s3 ⟨u, H3, I3, pu, eu, e3⟩ => ?_
  subst eu e3
  refine thn (hst.run pins s3 σ H3 (fun o H4 => o = some (-1) ∧ H4 = H3) I3 ⟨1, rfl, -1, rfl, rfl, rfl⟩) fun vs s4 ⟨o, H4, I4, ps, eo, e4⟩ => ?_
  subst eo e4
  cases pl
  cases pu
  have I5 : Inv X pins σ H4 { s4 with heap := s4.heap.push { cls := .type "slice", data := .fields #[.none, .none, vs] } } := I4.kept (t' := s4.toks) fun b ob q => Heap.get?_push_of_some _ q
  obtain ⟨its, r, ht, hz⟩ := I5.tuple hx
  have hlen := r.length
  show wpAny (model X.prog X.w) X.A (subscriptTail e (.Slice none none (some (.UnaryOp .USub (.Constant (.int 1) k p1) p2)) p3) (.ref a) (.ref s4.heap.objs.size)) (EP X pins σ Q) X.xe { s4 with heap := s4.heap.push { cls := .type "slice", data := .fields #[.none, .none, vs] } }
  refine tail_any (ops := [.ref a, .ref s4.heap.objs.size]) ht.typeIs (PyProof.Rows.slot_tuple_getitem.lookup) ?_ (by with_unfolding_all rfl)
  refine item_back ht (Heap.IsSliceOf.new _ .none .none vs) ps ?_ (by rw [List.size_toArray]; omega)
  refine ⟨.ref _, _, I5.laid (t' := s4.toks) (o := .tup xs.reverse) (fun b ob q => Heap.get?_push_of_some _ q) (Nat.le_refl _) ?_, rfl, q _ (I5.hok.fresh (Nat.le_refl _))⟩
  exact ⟨by rw [List.length_reverse]; exact hz, _, r.reverse, IsTup.new _ _⟩
def qBackT (qe : QE) : QE := fun ρ G Q => qe ρ G fun x G1 => match x with | .tup ts => Q (.tup ts.reverse) G1 | _ => False
theorem e_revT {e : Expr} {qe : QE} {kk : Nat} {p1 p2 p3 pos : Pos} (h : PE X e (cE X.K qe)) : PE X (.Subscript e (.Slice none none (some (.UnaryOp .USub (.Constant (.int 1) kk p1) p2)) p3) pos) (cE X.K (qBackT qe)) := PE.wk (pe_backT h) fun σ H KQ h => by
  obtain ⟨ρ, G, Q, e, a, q, g⟩ := h
  refine ⟨ρ, G, _, e, a, q, fun v H1 t G1 k1 a1 r1 q1 => ?_⟩
  split at q1
  · obtain ⟨p, vs, rfl, hp, r⟩ := r1
    refine ⟨p, vs, rfl, SqT.of hp, fun p2 hp2 => ?_⟩
    have k2 : Tups H1 (upd H1 p2 (.tup vs.reverse)) := Tups.new hp2
    exact g (.ref p2) _ (.tup _) G1 (k1.trans k2) (a1.grow hp2) ⟨p2, _, rfl, upd_same, r.rev.mono k2⟩ q1
  · exact q1.elim
end
end Lw

set_option Elab.async false
set_option linter.all false
set_option maxRecDepth 100000
set_option maxHeartbeats 4000000
namespace Lw
open PySem PySem.Spec PyProof.Rows L2
/-! ### d[k], the dict locked or not -/
def DRd (G : Gp) (a : Addr) (kvs : List (Key × T)) : Prop := G a = some (.dK kvs) ∨ ∃ od ws, G a = some (.fz od ws kvs)
theorem DRd.sub {G G' : Gp} {a : Addr} {kvs : List (Key × T)} (h : DRd G a kvs) (s : Sub G G') : DRd G' a kvs := by
  rcases h with h | ⟨od, ws, h⟩
  · exact .inl (s _ _ h)
  · exact .inr ⟨od, ws, s _ _ h⟩
theorem DRd.known {G : Gp} {a : Addr} {kvs : List (Key × T)} (h : DRd G a kvs) : ∃ o, G a = some o := by
  rcases h with h | ⟨od, ws, h⟩
  · exact ⟨_, h⟩
  · exact ⟨_, h⟩
section
variable {X : Cx} {o i : Expr} {qd qk : QE} {pos : Pos}
def qAGet (qd qk : QE) : QE := fun ρ G Q => qd ρ G fun x G1 => qk ρ G1 fun y G2 => match x with
  | .ref a => ∃ k kvs t, keyT y = some k ∧ DRd G2 a kvs ∧ valT kvs k = some t ∧ Q t G2
  | _ => False
theorem e_aget (hu : X.A.units + 1 < cLine) (hd : PE X o (cE X.K qd)) (hk : PE X i (cE X.K qk)) (hs : NoSl i) : PE X (.Subscript o i pos) (cE X.K (qAGet qd qk)) := PE.wk (pe_dget hu hd hk hs) fun σ H KQ h => by
  obtain ⟨ρ, G, Q, e, a, q, g⟩ := h
  refine ⟨ρ, G, _, e, a, q, fun v H1 t G1 k1 a1 r1 q1 => ?_⟩
  refine ⟨ρ, G1, _, e.mono k1, a1, q1, fun w H2 u G2 k2 a2 r2 q2 => ?_⟩
  split at q2
  · obtain ⟨k, kvs, t, hk, hg, hv, q2⟩ := q2
    cases r1
    have ev := keyT_rp hk r2
    subst ev
    rcases hg with hg | ⟨od, ws, hg⟩
    · obtain ⟨ws, hp, r⟩ := a2 _ _ hg
      obtain ⟨v, e1, rv⟩ := (r.val (k := k)).2 t hv
      exact ⟨_, v, rfl, by rw [← e1]; exact DGet.k (k := k) hp, g v H2 t G2 (k1.trans k2) a2 rv q2⟩
    · obtain ⟨hp, r⟩ := a2 _ _ hg
      obtain ⟨v, e1, rv⟩ := (r.val (k := k)).2 t hv
      exact ⟨_, v, rfl, .inl ⟨ws, k, .inr ⟨od, hp⟩, rfl, e1.symm⟩, g v H2 t G2 (k1.trans k2) a2 rv q2⟩
  · exact q2.elim
end
end Lw

set_option Elab.async false
set_option linter.all false
set_option maxRecDepth 100000
set_option maxHeartbeats 4000000
namespace Law
open PySem PySem.Spec PyProof.Rows L2 Lw
abbrev WN : List Str := ["rules", "made", "forms", "molten", "used"]
def topS (i : Nat) : Stmt := PySem.Challenge.pw_mouldkin_k06_found_marks_by_hand.main.body.getD i (.Pass ⟨0, 0, 0, 0⟩)
structure Txt (K : PySem.W.Frag) (mg : Str → Option Value) : Prop where
  c_LETTERS : ∃ t, mg "LETTERS" = some (.str "abcdefghijklmnopqrstuvwxyz" t)
  n_all : mg "all" = none
  n_isinstance : mg "isinstance" = none
  n_len : mg "len" = none
  n_str : mg "str" = none
  n_zip : mg "zip" = none
  c_MOST_FOUND : ∃ t, mg "MOST_FOUND" = some (.int 8 t)
  c_MOST_MARKS : ∃ t, mg "MOST_MARKS" = some (.int 6 t)
  n_tuple : mg "tuple" = none
  n_enumerate : mg "enumerate" = none
  n_any : mg "any" = none
  n_sorted : mg "sorted" = none
  n_abs : mg "abs" = none
  n_int : mg "int" = none
  n_list : mg "list" = none
  n_dict : mg "dict" = none
  n_set : mg "set" = none
  n_bool : mg "bool" = none
  n_min : mg "min" = none
  n_range : mg "range" = none
/-- a fraction -/
def fr (p : Int × Int) : T := .tup [.int p.1, .int p.2]
/-- in lowest terms -/
def low (t b : Int) : Int × Int := (t / (Int.gcd t b : Int), b / (Int.gcd t b : Int))
theorem gcd_step {x y : Int} (hx : 0 ≤ x) (hy : 0 < y) : Int.gcd y (x % y) = Int.gcd x y := by
  rw [Int.emod_def, Int.gcd_sub_mul_left_right, Int.gcd_comm]
theorem mulOk {i j : Int} (a b : Nat) (h1 : i.natAbs < 2 ^ a) (h2 : j.natAbs < 2 ^ b) (h : a + b ≤ 900000) : MulOk i j := ⟨a, b, h1, h2, h⟩
theorem divOk {j : Int} (b : Nat) (h : 0 < j) (h1 : j.natAbs < 2 ^ b) (h2 : b ≤ 8999) : DivOk j := ⟨h, b, h1, h2⟩
theorem natAbs_ediv_le {t : Int} {g : Nat} (h : 0 ≤ t) : (t / (g : Int)).natAbs ≤ t.natAbs := by
  have h1 : 0 ≤ t / (g : Int) := Int.ediv_nonneg h (Int.natCast_nonneg g)
  have h2 : t / (g : Int) ≤ t := Int.ediv_le_self _ h
  omega
/-- in bounds: top from nought on, bottom above, both below 2 ^ n -/
structure Fb (n : Nat) (p : Int × Int) : Prop where
  t0 : 0 ≤ p.1
  b0 : 0 < p.2
  t1 : p.1.natAbs < 2 ^ n
  b1 : p.2.natAbs < 2 ^ n
theorem low_b0 {t b : Int} (hb : 0 < b) : 0 < b / (Int.gcd t b : Int) := by
  have hp : 0 < Int.gcd t b := Int.gcd_pos_of_ne_zero_right t (by omega)
  exact Int.ediv_pos_of_pos_of_dvd hb (Int.natCast_nonneg _) (Int.gcd_dvd_right t b)
theorem Fb.low {n : Nat} {t b : Int} (h : Fb n (t, b)) : Fb n (low t b) :=
  ⟨Int.ediv_nonneg h.t0 (Int.natCast_nonneg _), low_b0 h.b0, Nat.lt_of_le_of_lt (natAbs_ediv_le h.t0) h.t1, Nat.lt_of_le_of_lt (natAbs_ediv_le (Int.le_of_lt h.b0)) h.b1⟩
theorem Fb.mono {n m : Nat} {p : Int × Int} (h : Fb n p) (k : n ≤ m) : Fb m p :=
  ⟨h.t0, h.b0, Nat.lt_of_lt_of_le h.t1 (Nat.pow_le_pow_right (by decide) k), Nat.lt_of_lt_of_le h.b1 (Nat.pow_le_pow_right (by decide) k)⟩
/-- rules: shrink, wear, life -/
abbrev Ru := (Int × Int) × (Int × Int) × Int
def ruT (r : Ru) : T := .tup [fr r.1, fr r.2.1, .int r.2.2]
structure RuOk (r : Ru) : Prop where
  s0 : 0 < r.1.1
  s1 : r.1.1 < r.1.2
  s2 : r.1.2 ≤ 20
  sg : Int.gcd r.1.1 r.1.2 = 1
  w0 : 0 ≤ r.2.1.1
  w1 : r.2.1.1 ≤ 1000
  w2 : 0 < r.2.1.2
  w3 : r.2.1.2 ≤ 20
  wg : Int.gcd r.2.1.1 r.2.1.2 = 1
  l0 : 1 ≤ r.2.2
  l1 : r.2.2 ≤ 6
structure SzOk (s : Int × Int) : Prop where
  t0 : 0 < s.1
  t1 : s.1 ≤ 1000000
  b0 : 0 < s.2
  b1 : s.2 ≤ 1000
  g : Int.gcd s.1 s.2 = 1
/-- a casting's size -/
def cast (r : Ru) (s : Int × Int) (n : Int) : Int × Int := low ((s.1 * r.2.1.2 + n * r.2.1.1 * s.2) * r.1.1) (s.2 * r.2.1.2 * r.1.2)
theorem mul_lt_pow {i j : Int} {a b : Nat} (h1 : i.natAbs < 2 ^ a) (h2 : j.natAbs < 2 ^ b) : (i * j).natAbs < 2 ^ (a + b) := wide_lt h1 h2
theorem small_pow {i : Int} (h0 : 0 ≤ i) (k : Nat) (h : i < 2 ^ k) : i.natAbs < 2 ^ k := by
  have e : ((2 ^ k : Nat) : Int) = (2 : Int) ^ k := by norm_cast
  omega
/-- what cast multiplies, in bounds -/
structure CastB (r : Ru) (s : Int × Int) (n : Int) (k : Nat) : Prop where
  a1 : (s.1 * r.2.1.2).natAbs < 2 ^ (k + 5)
  a2 : (n * r.2.1.1).natAbs < 2 ^ 13
  a3 : (n * r.2.1.1 * s.2).natAbs < 2 ^ (k + 13)
  a4 : (s.1 * r.2.1.2 + n * r.2.1.1 * s.2).natAbs < 2 ^ (k + 14)
  a5 : ((s.1 * r.2.1.2 + n * r.2.1.1 * s.2) * r.1.1).natAbs < 2 ^ (k + 19)
  b1 : (s.2 * r.2.1.2).natAbs < 2 ^ (k + 5)
  b2 : (s.2 * r.2.1.2 * r.1.2).natAbs < 2 ^ (k + 10)
  t0 : 0 ≤ (s.1 * r.2.1.2 + n * r.2.1.1 * s.2) * r.1.1
  b0 : 0 < s.2 * r.2.1.2 * r.1.2
theorem castB {r : Ru} {s : Int × Int} {n : Int} {k : Nat} (hr : RuOk r) (hs : Fb k s) (h0 : 0 ≤ n) (h1 : n ≤ 5) : CastB r s n k := by
  have w2 : r.2.1.2.natAbs < 2 ^ 5 := by have := hr.w2; have := hr.w3; have : (2 : Nat) ^ 5 = 32 := rfl; omega
  have w1 : r.2.1.1.natAbs < 2 ^ 10 := by have := hr.w0; have := hr.w1; have : (2 : Nat) ^ 10 = 1024 := rfl; omega
  have s1 : r.1.1.natAbs < 2 ^ 5 := by have := hr.s0; have := hr.s1; have := hr.s2; have : (2 : Nat) ^ 5 = 32 := rfl; omega
  have s2 : r.1.2.natAbs < 2 ^ 5 := by have := hr.s0; have := hr.s1; have := hr.s2; have : (2 : Nat) ^ 5 = 32 := rfl; omega
  have n1 : n.natAbs < 2 ^ 3 := by have : (2 : Nat) ^ 3 = 8 := rfl; omega
  have a1 := mul_lt_pow hs.t1 w2
  have a2 := mul_lt_pow n1 w1
  have a3 := mul_lt_pow a2 hs.b1
  have b1 := mul_lt_pow hs.b1 w2
  have b2 := mul_lt_pow b1 s2
  have p0 : 0 ≤ s.1 * r.2.1.2 := Int.mul_nonneg hs.t0 (Int.le_of_lt hr.w2)
  have p1 : 0 ≤ n * r.2.1.1 := Int.mul_nonneg h0 hr.w0
  have p2 : 0 ≤ n * r.2.1.1 * s.2 := Int.mul_nonneg p1 (Int.le_of_lt hs.b0)
  have e3 : 3 + 10 + k = k + 13 := by omega
  rw [e3] at a3
  have a4 : (s.1 * r.2.1.2 + n * r.2.1.1 * s.2).natAbs < 2 ^ (k + 14) := by
    have q1 : 2 ^ (k + 5) ≤ 2 ^ (k + 13) := Nat.pow_le_pow_right (by decide) (by omega)
    have q2 : 2 ^ (k + 14) = 2 ^ (k + 13) * 2 := Nat.pow_succ 2 (k + 13)
    omega
  have a5 := mul_lt_pow a4 s1
  exact ⟨a1, a2, a3, a4, a5, b1, b2, Int.mul_nonneg (by omega) (Int.le_of_lt hr.s0), Int.mul_pos (Int.mul_pos hs.b0 hr.w2) (Int.lt_trans hr.s0 hr.s1)⟩
theorem cast_b {r : Ru} {s : Int × Int} {n : Int} {k : Nat} (hr : RuOk r) (hs : Fb k s) (h0 : 0 ≤ n) (h1 : n ≤ 5) : Fb (k + 19) (cast r s n) := by
  have c := castB hr hs h0 h1
  exact Fb.low ⟨c.t0, c.b0, c.a5, Nat.lt_of_lt_of_le c.b2 (Nat.pow_le_pow_right (by decide) (by omega))⟩
/-! ### lists -/
theorem map_at {α : Type} {f : α → T} {l : List α} {i : Nat} {t : T} (h : (l.map f)[i]? = some t) : ∃ n, l[i]? = some n ∧ t = f n := by
  rw [List.getElem?_map] at h
  cases e : l[i]? with
  | none => rw [e] at h; cases h
  | some n => rw [e] at h; exact ⟨n, rfl, (Option.some.inj h).symm⟩
theorem take_one {α : Type} {l : List α} {i : Nat} {x : α} (h : l[i]? = some x) : l.take (i + 1) = l.take i ++ [x] := by
  rw [List.take_add_one, h]; rfl
theorem foldl_take {α β : Type} (f : β → α → β) (s : β) {l : List α} {i : Nat} {x : α} (h : l[i]? = some x) : (l.take (i + 1)).foldl f s = f ((l.take i).foldl f s) x := by
  rw [take_one h, List.foldl_append]; rfl
theorem rngT_at {n i : Nat} {t : T} (h : (rngT n)[i]? = some t) : i < n ∧ t = .int i := by
  unfold rngT at h
  obtain ⟨m, hm, e⟩ := map_at h
  have hi : i < n := by
    have := (List.getElem?_eq_some_iff.mp hm).1
    rw [List.length_range] at this; exact this
  rw [List.getElem?_range hi] at hm
  cases hm
  exact ⟨hi, e⟩
theorem rngT_len {n : Nat} : (rngT n).length = n := by unfold rngT; rw [List.length_map, List.length_range]
theorem flat_rep {α : Type} (x : α) : ∀ n : Nat, (List.replicate n [x]).flatten = List.replicate n x
  | 0 => rfl
  | n + 1 => by rw [List.replicate_succ, List.flatten_cons, flat_rep x n, List.replicate_succ]; rfl
abbrev lnT (l : List Int) : T := .tup (l.map T.int)
/-! ### the bag of draws -/
structure BOk (c1 c2 : Int) : Prop where
  h1 : 0 ≤ c1
  h2 : 0 ≤ c2
  h3 : c2 < 2147483647
abbrev bagO (c1 c2 : Int) : GO := .lst [.int c1, .int c2]
def Bag (G : Gp) (b : Addr) : Prop := ∃ c1 c2, G b = some (bagO c1 c2) ∧ BOk c1 c2
def BagTo (b : Addr) (G G' : Gp) : Prop := ∃ c1 c2, BOk c1 c2 ∧ G' = gput G b (bagO c1 c2)
/-- from G0 the bag alone was changed, new things were made -/
def BT (b : Addr) (G0 G : Gp) : Prop := ∃ c1 c2, BOk c1 c2 ∧ Sub (gput G0 b (bagO c1 c2)) G
theorem BT.start {b : Addr} {G : Gp} (h : Bag G b) : BT b G G := by
  obtain ⟨c1, c2, e, o⟩ := h
  exact ⟨c1, c2, o, by rw [gput_id e]; exact Sub.refl G⟩
theorem BT.bag {b : Addr} {G0 G : Gp} (h : BT b G0 G) : Bag G b := by
  obtain ⟨c1, c2, o, s⟩ := h
  exact ⟨c1, c2, s b _ gput_same, o⟩
theorem BT.to {b : Addr} {G0 G G' : Gp} (h : BT b G0 G) (t : BagTo b G G') : BT b G0 G' := by
  obtain ⟨c1, c2, o, s⟩ := h
  obtain ⟨d1, d2, o', rfl⟩ := t
  refine ⟨d1, d2, o', fun a u e => ?_⟩
  by_cases ha : a = b
  · subst ha; rw [gput_same] at e ⊢; exact e
  · rw [gput_ne ha] at e ⊢
    exact s a u (by rw [gput_ne ha]; exact e)
theorem BT.new {b p : Addr} {G0 G : Gp} {o : GO} (h : BT b G0 G) (hp : G p = none) : BT b G0 (gput G p o) := by
  obtain ⟨c1, c2, ok, s⟩ := h
  exact ⟨c1, c2, ok, s.new hp⟩
theorem BT.get {b a : Addr} {G0 G : Gp} {o : GO} (h : BT b G0 G) (ha : a ≠ b) (e : G0 a = some o) : G a = some o := by
  obtain ⟨c1, c2, ok, s⟩ := h
  exact s a o (by rw [gput_ne ha]; exact e)
theorem BT.ret {b : Addr} {G0 G : Gp} {Q : TK} {t : T} (h : BT b G0 G) (k : ∀ G', BagTo b G0 G' → Q t G') : Ret Q t G := by
  obtain ⟨c1, c2, o, s⟩ := h
  exact ⟨_, s, k _ ⟨c1, c2, o, rfl⟩⟩
theorem BagTo.bt {b : Addr} {G G' : Gp} (hb : Bag G b) (t : BagTo b G G') : BT b G G' := (BT.start hb).to t
theorem bag_new {b : Addr} {G : Gp} (h : Bag G b) {p : Addr} (hp : G p = none) : b ≠ p := by
  obtain ⟨c1, c2, e, _⟩ := h
  exact gne e hp
theorem BagTo.ne {a b : Addr} {G G' : Gp} (t : BagTo b G G') (h : a ≠ b) : G' a = G a := by
  obtain ⟨c1, c2, _, rfl⟩ := t
  exact gput_ne h
/-! ### lowest terms -/
theorem low_le {t b : Int} (h0 : 0 ≤ t) (hb : 0 < b) : 0 ≤ (low t b).1 ∧ (low t b).1 ≤ t ∧ 0 < (low t b).2 ∧ (low t b).2 ≤ b ∧ Int.gcd (low t b).1 (low t b).2 = 1 := by
  have hp : 0 < Int.gcd t b := Int.gcd_pos_of_ne_zero_right t (by omega)
  refine ⟨Int.ediv_nonneg h0 (Int.natCast_nonneg _), Int.ediv_le_self _ h0, low_b0 hb, Int.ediv_le_self _ (Int.le_of_lt hb), ?_⟩
  show Int.gcd (t / _) (b / _) = 1
  rw [Int.gcd_ediv (Int.gcd_dvd_left t b) (Int.gcd_dvd_right t b), Int.natAbs_natCast, Nat.div_self hp]
theorem low_mul {t b : Int} : (low t b).1 * (Int.gcd t b : Int) = t ∧ (low t b).2 * (Int.gcd t b : Int) = b :=
  ⟨Int.ediv_mul_cancel (Int.gcd_dvd_left t b), Int.ediv_mul_cancel (Int.gcd_dvd_right t b)⟩
theorem low_pos {t b : Int} (h0 : 0 < t) (hb : 0 < b) : 0 < (low t b).1 := by
  obtain ⟨h1, _⟩ := low_le (Int.le_of_lt h0) hb
  rcases Int.lt_or_eq_of_le h1 with h | h
  · exact h
  · have := (low_mul (t := t) (b := b)).1
    rw [← h, Int.zero_mul] at this
    omega
theorem low_lt {t b : Int} (h0 : 0 ≤ t) (hb : 0 < b) (h : t < b) : (low t b).1 < (low t b).2 := by
  have hp : 0 < Int.gcd t b := Int.gcd_pos_of_ne_zero_right t (by omega)
  obtain ⟨e1, e2⟩ := low_mul (t := t) (b := b)
  have : (low t b).1 * (Int.gcd t b : Int) < (low t b).2 * (Int.gcd t b : Int) := by rw [e1, e2]; exact h
  exact Int.lt_of_mul_lt_mul_right this (by omega)
theorem low_cross {t b : Int} : (low t b).1 * b = t * (low t b).2 := by
  obtain ⟨e1, e2⟩ := low_mul (t := t) (b := b)
  generalize (low t b).1 = x at *
  generalize (low t b).2 = y at *
  generalize (Int.gcd t b : Int) = g at *
  subst e1 e2
  grind
theorem dvd_cop {a b d : Int} (h : b ∣ a * d) (g : Int.gcd a b = 1) : b ∣ d := by
  have h' : b.natAbs ∣ a.natAbs * d.natAbs := by
    rw [← Int.natAbs_mul]
    exact Int.natAbs_dvd_natAbs.mpr h
  have c : Nat.Coprime b.natAbs a.natAbs := by
    show Nat.gcd b.natAbs a.natAbs = 1
    rw [Nat.gcd_comm]
    exact g
  exact Int.natAbs_dvd_natAbs.mp (c.dvd_of_dvd_mul_left h')
/-- a fraction in lowest terms is the only one of its value -/
theorem red_eq {a b c d : Int} (hb : 0 < b) (hd : 0 < d) (g1 : Int.gcd a b = 1) (g2 : Int.gcd c d = 1) (h : a * d = c * b) : a = c ∧ b = d := by
  have h1 : b ∣ d := by
    have : b ∣ a * d := ⟨c, by rw [h, Int.mul_comm]⟩
    exact dvd_cop this g1
  have h2 : d ∣ b := by
    have : d ∣ c * b := ⟨a, by rw [← h, Int.mul_comm]⟩
    exact dvd_cop this g2
  have e : b = d := Int.dvd_antisymm (Int.le_of_lt hb) (Int.le_of_lt hd) h1 h2
  subst e
  exact ⟨Int.eq_of_mul_eq_mul_right (by omega) h, rfl⟩
theorem low_eq {a b c d : Int} (ha : 0 ≤ a) (hc : 0 ≤ c) (hb : 0 < b) (hd : 0 < d) (h : a * d = c * b) : low a b = low c d := by
  obtain ⟨_, _, p1, _, g1⟩ := low_le ha hb
  obtain ⟨_, _, p2, _, g2⟩ := low_le hc hd
  have e1 := low_cross (t := a) (b := b)
  have e2 := low_cross (t := c) (b := d)
  have : (low a b).1 * (low c d).2 = (low c d).1 * (low a b).2 := by
    have hz : (low a b).1 * (low c d).2 * (b * d) = (low c d).1 * (low a b).2 * (b * d) := by
      generalize (low a b).1 = x1 at *
      generalize (low a b).2 = x2 at *
      generalize (low c d).1 = y1 at *
      generalize (low c d).2 = y2 at *
      have q1 : x1 * y2 * (b * d) = (x1 * b) * y2 * d := by grind
      have q2 : y1 * x2 * (b * d) = (y1 * d) * x2 * b := by grind
      rw [q1, q2, e1, e2]
      have q3 : a * x2 * y2 * d = (a * d) * x2 * y2 := by grind
      have q4 : c * y2 * x2 * b = (c * b) * x2 * y2 := by grind
      rw [q3, q4, h]
    exact Int.eq_of_mul_eq_mul_right (by have := Int.mul_pos hb hd; omega) hz
  obtain ⟨q1, q2⟩ := red_eq p1 p2 g1 g2 this
  exact Prod.ext q1 q2
theorem low_red {t b : Int} (g : Int.gcd t b = 1) : low t b = (t, b) := by
  unfold low
  rw [g]
  simp
/-! ### things of any kind -/
mutual
def AnyT (G : Gp) : T → Prop
  | .tup ts => AnyTs G ts
  | .ref a => ∃ xs, G a = some (.lst xs)
  | .ty _ => False
  | .scr _ => False
  | _ => True
def AnyTs (G : Gp) : List T → Prop
  | [] => True
  | t :: ts => AnyT G t ∧ AnyTs G ts
end
def isWhole : T → Bool
  | .int _ => true
  | _ => false
def isWithin (x : T) (a b : Int) : Bool := match x with
  | .int i => decide (a ≤ i) && decide (i ≤ b)
  | _ => false
def isPart (x : T) (mt mb : Int) : Bool := match x with
  | .tup [a, b] => isWithin a 0 mt && isWithin b 1 mb && (match a, b with | .int t, .int c => decide (low t c = (t, c)) | _, _ => false)
  | _ => false
def below : T → Bool
  | .tup [.int t, .int c] => decide (0 < t) && decide (t < c)
  | _ => false
def areRules : T → Bool
  | .tup [a, b, c] => isPart a 20 20 && below a && isPart b 1000 20 && isWithin c 1 6
  | _ => false
def isSize (x : T) : Bool := isPart x 1000000 1000 && (match x with | .tup (.int t :: _) => decide (0 < t) | _ => false)
theorem ite_bl {c : Bool} {A B : Prop} (h1 : c = true → A) (h2 : c = false → B) : (c = true → A) ∧ (c = false → B) := ⟨h1, h2⟩
theorem isPart_fr {t c mt mb : Int} (h : isPart (.tup [.int t, .int c]) mt mb = true) : 0 ≤ t ∧ t ≤ mt ∧ 1 ≤ c ∧ c ≤ mb ∧ low t c = (t, c) := by
  simp only [isPart, isWithin, Bool.and_eq_true, decide_eq_true_eq] at h
  exact ⟨h.1.1.1, h.1.1.2, h.1.2.1, h.1.2.2, h.2⟩
/-! ### fractions as rationals -/
def rv (p : Int × Int) : Rat := (p.1 : Rat) / (p.2 : Rat)
theorem cast_pos {a : Int} (h : 0 < a) : (0 : Rat) < (a : Rat) := by exact_mod_cast h
theorem div_lt {a b c d : Int} (hb : 0 < b) (hd : 0 < d) : a * d < c * b ↔ (a : Rat) / (b : Rat) < (c : Rat) / (d : Rat) := by
  have hb' := cast_pos hb
  have hd' := cast_pos hd
  rw [Rat.div_lt_iff hb']
  have e : (c : Rat) / d * b = (c * b : Rat) / d := by grind
  rw [e, Rat.lt_div_iff hd']
  exact_mod_cast Iff.rfl
theorem rv_lt {p q : Int × Int} (hp : 0 < p.2) (hq : 0 < q.2) : p.1 * q.2 < q.1 * p.2 ↔ rv p < rv q := div_lt hp hq
theorem rv_low {t b : Int} (hb : 0 < b) : rv (low t b) = (t : Rat) / (b : Rat) := by
  have h1 := low_cross (t := t) (b := b)
  have h2 : 0 < (low t b).2 := low_b0 hb
  have hb' := cast_pos hb
  have h2' := cast_pos h2
  have h3 : ((low t b).1 : Rat) * (b : Rat) = (t : Rat) * ((low t b).2 : Rat) := by exact_mod_cast h1
  unfold rv
  generalize ((low t b).1 : Rat) = x at *
  generalize ((low t b).2 : Rat) = y at *
  have hy : y ≠ 0 := by grind
  have hb2 : (b : Rat) ≠ 0 := by grind
  grind
theorem rv_inj {p q : Int × Int} (hp : 0 < p.2) (hq : 0 < q.2) (g1 : Int.gcd p.1 p.2 = 1) (g2 : Int.gcd q.1 q.2 = 1) (h : rv p = rv q) : p = q := by
  have h1 := cast_pos hp
  have h2 := cast_pos hq
  have e : (p.1 : Rat) * (q.2 : Rat) = (q.1 : Rat) * (p.2 : Rat) := by
    unfold rv at h
    grind
  have e' : p.1 * q.2 = q.1 * p.2 := by exact_mod_cast e
  obtain ⟨a, b⟩ := red_eq hp hq g1 g2 e'
  exact Prod.ext a b
theorem rv_cast {r : Ru} {s : Int × Int} {n : Int} (hr : RuOk r) (hs : 0 < s.2) : rv (cast r s n) = (rv s + (n : Rat) * rv r.2.1) * rv r.1 := by
  have hd : 0 < s.2 * r.2.1.2 * r.1.2 := Int.mul_pos (Int.mul_pos hs hr.w2) (Int.lt_trans hr.s0 hr.s1)
  unfold cast
  rw [rv_low hd]
  have a := cast_pos hs
  have b := cast_pos hr.w2
  have c := cast_pos (Int.lt_trans hr.s0 hr.s1)
  unfold rv
  simp only [Rat.intCast_mul, Rat.intCast_add]
  generalize (s.2 : Rat) = x at *
  generalize (r.2.1.2 : Rat) = y at *
  generalize (r.1.2 : Rat) = z at *
  have hx : x ≠ 0 := by grind
  have hy : y ≠ 0 := by grind
  have hz : z ≠ 0 := by grind
  grind
/-- in lowest terms, bottom from 1 on -/
structure Red (p : Int × Int) : Prop where
  b0 : 0 < p.2
  g : Int.gcd p.1 p.2 = 1
theorem SzOk.red {s : Int × Int} (h : SzOk s) : Red s := ⟨h.b0, h.g⟩
theorem red_low {t b : Int} (h0 : 0 ≤ t) (hb : 0 < b) : Red (low t b) := ⟨(low_le h0 hb).2.2.1, (low_le h0 hb).2.2.2.2⟩
theorem Red.inj {p q : Int × Int} (h : Red p) (k : Red q) (e : rv p = rv q) : p = q := rv_inj h.b0 k.b0 h.g k.g e
theorem SzOk.fb {s : Int × Int} (hs : SzOk s) : Fb 20 s :=
  ⟨Int.le_of_lt hs.t0, hs.b0, by have := hs.t0; have := hs.t1; have : (2 : Nat) ^ 20 = 1048576 := rfl; omega, by have := hs.b0; have := hs.b1; have : (2 : Nat) ^ 20 = 1048576 := rfl; omega⟩
/-- the piece of a line -/
def pc (r : Ru) (s : Int × Int) (l : List Int) : Int × Int := l.foldl (cast r) s
theorem pc_snoc {r : Ru} {s : Int × Int} {l : List Int} {n : Int} : pc r s (l ++ [n]) = cast r (pc r s l) n := by unfold pc; rw [List.foldl_append]; rfl
theorem pc_app {r : Ru} {s : Int × Int} {l m : List Int} : pc r s (l ++ m) = pc r (pc r s l) m := by unfold pc; rw [List.foldl_append]
/-- numbers of castings in bounds -/
def LnOk (l : List Int) : Prop := ∀ n ∈ l, 0 ≤ n ∧ n ≤ 5
theorem pc_fb {r : Ru} (hr : RuOk r) : ∀ (l : List Int) (k : Nat) (s : Int × Int), Fb k s → LnOk l → Fb (k + 19 * l.length) (pc r s l)
  | [], k, s, h, _ => h
  | a :: l, k, s, h, hl => by
    have := pc_fb hr l (k + 19) (cast r s a) (cast_b hr h (hl a (by simp)).1 (hl a (by simp)).2) fun n hn => hl n (by simp [hn])
    rw [List.length_cons, show k + 19 * (l.length + 1) = k + 19 + 19 * l.length by omega]
    exact this
theorem cast_red {r : Ru} (hr : RuOk r) {s : Int × Int} {n : Int} {k : Nat} (hs : Fb k s) (h0 : 0 ≤ n) (h1 : n ≤ 5) : Red (cast r s n) := by
  have c := castB hr hs h0 h1
  exact red_low c.t0 c.b0
theorem pc_red {r : Ru} (hr : RuOk r) : ∀ (l : List Int) (k : Nat) (s : Int × Int), Fb k s → Red s → LnOk l → Red (pc r s l)
  | [], k, s, _, h, _ => h
  | a :: l, k, s, h, _, hl => pc_red hr l (k + 19) (cast r s a) (cast_b hr h (hl a (by simp)).1 (hl a (by simp)).2) (cast_red hr h (hl a (by simp)).1 (hl a (by simp)).2) fun n hn => hl n (by simp [hn])
theorem rv_sh {r : Ru} (hr : RuOk r) : 0 < rv r.1 ∧ rv r.1 < 1 := by
  have a := cast_pos hr.s0
  have b := cast_pos (Int.lt_trans hr.s0 hr.s1)
  have c : (r.1.1 : Rat) < (r.1.2 : Rat) := by exact_mod_cast hr.s1
  unfold rv
  refine ⟨by rw [Rat.lt_div_iff b]; grind, ?_⟩
  rw [Rat.div_lt_iff b]
  grind
theorem rv_w {r : Ru} (hr : RuOk r) : 0 ≤ rv r.2.1 := by
  have b := cast_pos hr.w2
  have a : (0 : Rat) ≤ (r.2.1.1 : Rat) := by exact_mod_cast hr.w0
  unfold rv
  refine Rat.not_lt.mp fun h => ?_
  rw [Rat.div_lt_iff b] at h
  grind
theorem rv_mono {r : Ru} (hr : RuOk r) {s t : Int × Int} {n m : Int} (h1 : 0 < s.2) (h2 : 0 < t.2) (h : rv s ≤ rv t) (hn : n ≤ m) : rv (cast r s n) ≤ rv (cast r t m) := by
  rw [rv_cast hr h1, rv_cast hr h2]
  have hs := (rv_sh hr).1
  have hw := rv_w hr
  have hn' : (n : Rat) ≤ (m : Rat) := by exact_mod_cast hn
  have z := Rat.mul_le_mul_of_nonneg_right hn' hw
  exact Rat.mul_le_mul_of_nonneg_right (by grind) (Rat.le_of_lt hs)
theorem rv_strict {r : Ru} (hr : RuOk r) {s t : Int × Int} {n m : Int} (h1 : 0 < s.2) (h2 : 0 < t.2) (h : rv s < rv t) (hn : n ≤ m) : rv (cast r s n) < rv (cast r t m) := by
  rw [rv_cast hr h1, rv_cast hr h2]
  have hs := (rv_sh hr).1
  have hw := rv_w hr
  have hn' : (n : Rat) ≤ (m : Rat) := by exact_mod_cast hn
  have z := Rat.mul_le_mul_of_nonneg_right hn' hw
  exact Rat.mul_lt_mul_of_pos_right (by grind) hs
/-- number by number no greater -/
inductive Le2 : List Int → List Int → Prop
  | nil : Le2 [] []
  | cons {n m : Int} {l k : List Int} : n ≤ m → Le2 l k → Le2 (n :: l) (m :: k)
theorem Le2.len {l k : List Int} (h : Le2 l k) : l.length = k.length := by
  induction h with
  | nil => rfl
  | cons _ _ ih => simp [ih]
theorem Le2.snoc {l k : List Int} {n m : Int} (h : Le2 l k) (hn : n ≤ m) : Le2 (l ++ [n]) (k ++ [m]) := by
  induction h with
  | nil => exact .cons hn .nil
  | cons h _ ih => exact .cons h ih
theorem Le2.refl : ∀ l : List Int, Le2 l l
  | [] => .nil
  | n :: l => .cons (Int.le_refl n) (Le2.refl l)
theorem Le2.low : ∀ {l : List Int}, (∀ n ∈ l, 0 ≤ n) → Le2 (List.replicate l.length 0) l
  | [], _ => .nil
  | n :: l, h => .cons (h n (by simp)) (Le2.low fun m hm => h m (by simp [hm]))
theorem Le2.high {a : Int} : ∀ {l : List Int}, (∀ n ∈ l, n ≤ a) → Le2 l (List.replicate l.length a)
  | [], _ => .nil
  | n :: l, h => .cons (h n (by simp)) (Le2.high fun m hm => h m (by simp [hm]))
theorem fb_cast {r : Ru} (hr : RuOk r) {s : Int × Int} {n : Int} {k : Nat} (hs : Fb k s) (hn : 0 ≤ n ∧ n ≤ 5) : Fb (k + 19) (cast r s n) := cast_b hr hs hn.1 hn.2
theorem pc_mono {r : Ru} (hr : RuOk r) {l m : List Int} (h : Le2 l m) : ∀ {s t : Int × Int} {k : Nat}, LnOk l → LnOk m → Fb k s → Fb k t → rv s ≤ rv t → rv (pc r s l) ≤ rv (pc r t m) := by
  induction h with
  | nil => intro s t k _ _ _ _ e; exact e
  | @cons n m l k hn _ ih =>
    intro s t j h1 h2 hs ht e
    exact ih (fun x hx => h1 x (by simp [hx])) (fun x hx => h2 x (by simp [hx])) (fb_cast hr hs (h1 n (by simp))) (fb_cast hr ht (h2 m (by simp))) (rv_mono hr hs.b0 ht.b0 e hn)
theorem pc_strict {r : Ru} (hr : RuOk r) {l m : List Int} (h : Le2 l m) : ∀ {s t : Int × Int} {k : Nat}, LnOk l → LnOk m → Fb k s → Fb k t → rv s < rv t → rv (pc r s l) < rv (pc r t m) := by
  induction h with
  | nil => intro s t k _ _ _ _ e; exact e
  | @cons n m l k hn _ ih =>
    intro s t j h1 h2 hs ht e
    exact ih (fun x hx => h1 x (by simp [hx])) (fun x hx => h2 x (by simp [hx])) (fb_cast hr hs (h1 n (by simp))) (fb_cast hr ht (h2 m (by simp))) (rv_strict hr hs.b0 ht.b0 e hn)
theorem pc_strict2 {r : Ru} (hr : RuOk r) (hw : 0 < rv r.2.1) {l m : List Int} (h : Le2 l m) : ∀ {s t : Int × Int} {k : Nat}, LnOk l → LnOk m → Fb k s → Fb k t → rv s ≤ rv t → l ≠ m → rv (pc r s l) < rv (pc r t m) := by
  induction h with
  | nil => intro s t k _ _ _ _ _ e; exact absurd rfl e
  | @cons n m l k hn hlk ih =>
    intro s t j h1 h2 hs ht e hne
    have f1 := fb_cast hr hs (h1 n (by simp))
    have f2 := fb_cast hr ht (h2 m (by simp))
    have g1 : LnOk l := fun x hx => h1 x (by simp [hx])
    have g2 : LnOk k := fun x hx => h2 x (by simp [hx])
    by_cases hnm : n = m
    · subst hnm
      exact ih g1 g2 f1 f2 (rv_mono hr hs.b0 ht.b0 e (Int.le_refl n)) fun z => hne (by rw [z])
    · refine pc_strict hr hlk g1 g2 f1 f2 ?_
      rw [rv_cast hr hs.b0, rv_cast hr ht.b0]
      have hlt : (n : Rat) < (m : Rat) := by exact_mod_cast (show n < m by omega)
      have z := Rat.mul_lt_mul_of_pos_right hlt hw
      exact Rat.mul_lt_mul_of_pos_right (by grind) (rv_sh hr).1
/-- no wear: the numbers don't matter -/
theorem pc_flat {r : Ru} (hw : r.2.1.1 = 0) : ∀ {l m : List Int} {s : Int × Int}, l.length = m.length → pc r s l = pc r s m
  | [], [], _, _ => rfl
  | [], _ :: _, _, h => by simp at h
  | _ :: _, [], _, h => by simp at h
  | a :: l, b :: m, s, h => by
    have e : cast r s a = cast r s b := by unfold cast; rw [hw]; simp
    show pc r (cast r s a) l = pc r (cast r s b) m
    rw [e]
    exact pc_flat hw (by simpa using h)
theorem dead {c : Bool} {A : Prop} (h : c = false) (z : c = true) : A := absurd (h.symm.trans z) Bool.false_ne_true
theorem dead' {c : Bool} {A : Prop} (h : c = true) (z : c = false) : A := absurd (z.symm.trans h) Bool.false_ne_true

/-! ### data of any kind, lists within it: no list of av -/
def Dat (av : List Addr) (G : Gp) (k : Nat) : Nat → T → Prop
  | _, .non => True
  | _, .bl _ => True
  | _, .int i => i.natAbs < 2 ^ (120 + k)
  | _, .str x => x.length + 100 ≤ 150 * 3 ^ k
  | n + 1, .tup ts => ts.length ≤ 400 + k ∧ ∀ t ∈ ts, Dat av G k n t
  | n + 1, .ref a => a ∉ av ∧ ∃ ts, G a = some (.lst ts) ∧ ts.length ≤ 400 + k ∧ ∀ t ∈ ts, Dat av G k n t
  | _, _ => False
theorem pow3_up {k j : Nat} (h : k ≤ j) : 150 * 3 ^ k ≤ 150 * 3 ^ j := Nat.mul_le_mul_left _ (Nat.pow_le_pow_right (by decide) h)
/-- more room, another heap that keeps what is not of av, fewer kept off -/
theorem Dat.mono {av av' : List Addr} {G G' : Gp} {k k' : Nat} (hk : k ≤ k') (hav : ∀ a, a ∈ av' → a ∈ av) (hG : ∀ a o, a ∉ av → G a = some o → G' a = some o) : ∀ {n n' : Nat} {t : T}, n ≤ n' → Dat av G k n t → Dat av' G' k' n' t
  | _, _, .non, _, _ => by cases ‹Nat› <;> trivial
  | _, _, .bl _, _, _ => by cases ‹Nat› <;> trivial
  | n, n', .int i, _, h => by
    have h' : i.natAbs < 2 ^ (120 + k) := by cases n <;> exact h
    have : i.natAbs < 2 ^ (120 + k') := Nat.lt_of_lt_of_le h' (Nat.pow_le_pow_right (by decide) (by omega))
    cases n' <;> exact this
  | n, n', .str x, _, h => by
    have h' : x.length + 100 ≤ 150 * 3 ^ k := by cases n <;> exact h
    have : x.length + 100 ≤ 150 * 3 ^ k' := Nat.le_trans h' (pow3_up hk)
    cases n' <;> exact this
  | n + 1, n' + 1, .tup ts, hn, ⟨h1, h2⟩ => ⟨by omega, fun t ht => Dat.mono hk hav hG (by omega) (h2 t ht)⟩
  | n + 1, n' + 1, .ref a, hn, ⟨h0, ts, h1, h2, h3⟩ => ⟨fun z => h0 (hav a z), ts, hG a _ h0 h1, by omega, fun t ht => Dat.mono hk hav hG (by omega) (h3 t ht)⟩
  | 0, _, .tup _, _, h => h.elim
  | 0, _, .ref _, _, h => h.elim
  | n + 1, 0, .tup _, h, _ => absurd h (by omega)
  | n + 1, 0, .ref _, h, _ => absurd h (by omega)
  | 0, _, .ty _, _, h => h.elim
  | 0, _, .scr _, _, h => h.elim
  | _ + 1, _, .ty _, _, h => h.elim
  | _ + 1, _, .scr _, _, h => h.elim
theorem Dat.int {av : List Addr} {G : Gp} {k n : Nat} {i : Int} : Dat av G k n (.int i) ↔ i.natAbs < 2 ^ (120 + k) := by cases n <;> exact Iff.rfl
theorem Dat.str {av : List Addr} {G : Gp} {k n : Nat} {x : Str} : Dat av G k n (.str x) ↔ x.length + 100 ≤ 150 * 3 ^ k := by cases n <;> exact Iff.rfl
theorem Dat.bl {av : List Addr} {G : Gp} {k n : Nat} {b : Bool} : Dat av G k n (.bl b) := by cases n <;> trivial
theorem Dat.non {av : List Addr} {G : Gp} {k n : Nat} : Dat av G k n .non := by cases n <;> trivial
theorem Dat.ints {av : List Addr} {G : Gp} {k n : Nat} {l : List Int} (h : ∀ i ∈ l, i.natAbs < 2 ^ (120 + k)) : ∀ t ∈ l.map T.int, Dat av G k n t := fun t ht => by
  obtain ⟨i, hi, rfl⟩ := List.mem_map.mp ht
  exact Dat.int.mpr (h i hi)
theorem anyTs_of {G : Gp} : ∀ {ts : List T}, (∀ t ∈ ts, AnyT G t) → AnyTs G ts
  | [], _ => trivial
  | t :: ts, h => ⟨h t List.mem_cons_self, anyTs_of fun u hu => h u (List.mem_cons_of_mem _ hu)⟩
theorem Dat.any {av : List Addr} {G : Gp} {k : Nat} : ∀ {n : Nat} {t : T}, Dat av G k n t → AnyT G t
  | _, .non, _ => trivial
  | _, .bl _, _ => trivial
  | _, .int i, _ => trivial
  | _, .str x, _ => trivial
  | n + 1, .tup ts, ⟨_, h⟩ => anyTs_of fun t ht => Dat.any (h t ht)
  | n + 1, .ref a, ⟨_, ts, h, _, _⟩ => ⟨ts, h⟩
  | 0, .tup _, h => h.elim
  | 0, .ref _, h => h.elim
  | 0, .ty _, h => h.elim
  | 0, .scr _, h => h.elim
  | _ + 1, .ty _, h => h.elim
  | _ + 1, .scr _, h => h.elim
/-- from G0 to G nothing but what av holds has changed -/
def Off (av : List Addr) (G G' : Gp) : Prop := ∀ a o, a ∉ av → G a = some o → G' a = some o
theorem Off.refl (av : List Addr) (G : Gp) : Off av G G := fun _ _ _ h => h
theorem Off.trans {av : List Addr} {G G1 G2 : Gp} (h : Off av G G1) (k : Off av G1 G2) : Off av G G2 := fun a o n e => k a o n (h a o n e)
theorem Off.sub {av : List Addr} {G G' : Gp} (h : Sub G G') : Off av G G' := fun a o _ e => h a o e
theorem Off.more {av av' : List Addr} {G G' : Gp} (h : Off av G G') (s : ∀ a ∈ av, a ∈ av') : Off av' G G' := fun a o n e => h a o (fun z => n (s a z)) e
theorem Off.bt {av : List Addr} {b : Addr} {G G' : Gp} (hb : b ∈ av) (h : BT b G G') : Off av G G' := fun a o n e => h.get (fun z => n (by rw [z]; exact hb)) e
theorem Off.put {av : List Addr} {p : Addr} {G G' : Gp} {o : GO} (hp : p ∈ av) (h : Off av G G') : Off av G (gput G' p o) := fun a u n e => by
  rw [gput_ne (fun z => n (by rw [z]; exact hp))]
  exact h a u n e
theorem Off.new {av : List Addr} {p : Addr} {G G' : Gp} {o : GO} (hp : G' p = none) (h : Off av G G') : Off av G (gput G' p o) := fun a u n e => by
  have := h a u n e
  rw [gput_ne (gne this hp)]
  exact this
theorem Dat.off {av : List Addr} {G G' : Gp} {k n : Nat} {t : T} (h : Dat av G k n t) (f : Off av G G') : Dat av G' k n t := h.mono (Nat.le_refl _) (fun _ z => z) f (Nat.le_refl _)
/-- the lists kept off stand in the heap -/
def Known (av : List Addr) (G : Gp) : Prop := ∀ a ∈ av, ∃ o, G a = some o
theorem Known.new {av : List Addr} {G : Gp} {p : Addr} (h : Known av G) (hp : G p = none) : p ∉ av := fun z => by
  obtain ⟨o, e⟩ := h p z
  rw [hp] at e; cases e
theorem BT.trans {b : Addr} {G0 G1 G2 : Gp} (h : BT b G0 G1) (k : BT b G1 G2) : BT b G0 G2 := by
  obtain ⟨c1, c2, o, s⟩ := h
  obtain ⟨d1, d2, o', s'⟩ := k
  refine ⟨d1, d2, o', fun a u e => ?_⟩
  by_cases ha : a = b
  · subst ha; rw [gput_same] at e; exact s' a u (by rw [gput_same]; exact e)
  · rw [gput_ne ha] at e
    exact s' a u (by rw [gput_ne ha]; exact s a u (by rw [gput_ne ha]; exact e))
theorem Known.bt {av : List Addr} {b : Addr} {G G' : Gp} (h : Known av G) (k : BT b G G') : Known av G' := fun a ha => by
  by_cases e : a = b
  · subst e
    obtain ⟨c1, c2, z, _⟩ := k.bag
    exact ⟨_, z⟩
  · obtain ⟨o, z⟩ := h a ha
    exact ⟨o, k.get e z⟩
theorem Known.sub {av : List Addr} {G G' : Gp} (h : Known av G) (s : Sub G G') : Known av G' := fun a ha => by
  obtain ⟨o, z⟩ := h a ha
  exact ⟨o, s a o z⟩
theorem Known.put {av : List Addr} {G : Gp} {p : Addr} {o : GO} (h : Known av G) : Known av (gput G p o) := fun a ha => by
  by_cases e : a = p
  · subst e; exact ⟨_, gput_same⟩
  · obtain ⟨u, z⟩ := h a ha
    exact ⟨u, by rw [gput_ne e]; exact z⟩
theorem Known.cons {av : List Addr} {G : Gp} {p : Addr} {o : GO} (h : Known av G) (e : G p = some o) : Known (p :: av) G := fun a ha => by
  rcases List.mem_cons.mp ha with z | z
  · rw [z]; exact ⟨_, e⟩
  · exact h a z
/-- one of some things, picked by a drawn number -/
theorem pick_at {ts : List T} {i : Int} (h0 : 0 ≤ i) (h1 : i < ts.length) : ∃ n t, ixN ts.length i = some n ∧ ts[n]? = some t ∧ t ∈ ts ∧ n = i.toNat := by
  have hx : i.toNat < ts.length := by omega
  have hi := ixN_nat (n := i.toNat) (len := ts.length) hx
  rw [show Int.ofNat i.toNat = i by show ((i.toNat : Nat) : Int) = i; omega] at hi
  exact ⟨_, _, hi, List.getElem?_eq_getElem hx, List.getElem_mem hx, rfl⟩
theorem cut_take {α : Type} {ts : List α} {i : Int} (h : 0 ≤ i) : cutT ts none (some i) = ts.take i.toNat := by
  unfold cutT
  rw [HT.sIx_none, List.drop_zero, Nat.sub_zero]
  obtain ⟨n, rfl⟩ : ∃ n : Nat, i = n := ⟨i.toNat, by omega⟩
  rw [HT.sIx_nat, Int.toNat_natCast]
  exact List.take_eq_take_min.symm
theorem cut_drop {α : Type} {ts : List α} {i : Int} (h : 0 ≤ i) : cutT ts (some i) none = ts.drop i.toNat := by
  unfold cutT
  rw [HT.sIx_none]
  obtain ⟨n, rfl⟩ : ∃ n : Nat, i = n := ⟨i.toNat, by omega⟩
  rw [HT.sIx_nat, Int.toNat_natCast]
  by_cases c : n ≤ ts.length
  · rw [Nat.min_eq_left c, List.take_of_length_le]
    rw [List.length_drop]; exact Nat.le_refl _
  · rw [Nat.min_eq_right (by omega), Nat.sub_self, List.take_zero, List.drop_of_length_le (by omega)]
theorem cut_len {α : Type} {ts : List α} {lo hi : Option Int} : (cutT ts lo hi).length ≤ ts.length := by
  unfold cutT
  rw [List.length_take, List.length_drop]; omega
theorem cut_mem {α : Type} {ts : List α} {lo hi : Option Int} {x : α} (h : x ∈ cutT ts lo hi) : x ∈ ts := List.mem_of_mem_drop (List.mem_of_mem_take h)
theorem dat_num {av : List Addr} {G : Gp} {k n : Nat} {i : Int} (h : i.natAbs ≤ 2 ^ (120 + k) + 1000) : Dat av G (k + 1) n (.int i) := Dat.int.mpr (by
  have e : 2 ^ (120 + (k + 1)) = 2 ^ (120 + k) * 2 := Nat.pow_succ 2 (120 + k)
  have : 2 ^ 120 ≤ 2 ^ (120 + k) := Nat.pow_le_pow_right (by decide) (by omega)
  have : 1001 ≤ 2 ^ 120 := by decide
  omega)
theorem dat_str {av : List Addr} {G : Gp} {k n : Nat} {x : Str} {l : Nat} (h : x.length ≤ 3 * l + 200) (hl : l + 100 ≤ 150 * 3 ^ k) : Dat av G (k + 1) n (.str x) := Dat.str.mpr (by
  rw [Nat.pow_succ]
  omega)
theorem str_int_len {i : Int} {k : Nat} (h : i.natAbs < 2 ^ (120 + k)) (hk : k ≤ 5) : i.natAbs.log2 < 1920 ∧ (Str.ofString (toString i)).length ≤ 200 := by
  have h1 : i.natAbs.log2 < 126 := by
    by_cases c : i.natAbs = 0
    · rw [c]; decide
    · exact (Nat.log2_lt c).mpr (Nat.lt_of_lt_of_le h (Nat.pow_le_pow_right (by decide) (by omega)))
  refine ⟨by omega, ?_⟩
  rw [PySem.ofString_length]
  have := PySem.int_text_length_le (k := 126) (by decide) h1
  omega
theorem Dat.fresh {av : List Addr} {G : Gp} {k : Nat} {p : Addr} {o : GO} (hp : G p = none) : ∀ {n : Nat} {t : T}, Dat av G k n t → Dat (p :: av) (gput G p o) k n t
  | _, .non, _ => Dat.non
  | _, .bl _, _ => Dat.bl
  | _, .int i, h => Dat.int.mpr (Dat.int.mp h)
  | _, .str x, h => Dat.str.mpr (Dat.str.mp h)
  | n + 1, .tup ts, ⟨h1, h2⟩ => ⟨h1, fun t ht => Dat.fresh hp (h2 t ht)⟩
  | n + 1, .ref a, ⟨h0, ts, h1, h2, h3⟩ => ⟨fun z => by
      rcases List.mem_cons.mp z with z | z
      · rw [z, hp] at h1; cases h1
      · exact h0 z, ts, (by rw [gput_ne (gne h1 hp)]; exact h1), h2, fun t ht => Dat.fresh hp (h3 t ht)⟩
  | 0, .tup _, h => h.elim
  | 0, .ref _, h => h.elim
  | 0, .ty _, h => h.elim
  | 0, .scr _, h => h.elim
  | _ + 1, .ty _, h => h.elim
  | _ + 1, .scr _, h => h.elim
/-- kept off is kept off -/
theorem Dat.less {av : List Addr} {G : Gp} {k n : Nat} {p : Addr} {o : GO} {t : T} (h : Dat (p :: av) G k n t) : Dat av (gput G p o) k n t :=
  h.mono (Nat.le_refl _) (fun a z => List.mem_cons_of_mem _ z) (Off.put List.mem_cons_self (Off.refl _ _)) (Nat.le_refl _)

/-- a line of such rules -/
def isLine (life : Int) : T → Bool
  | .tup us => decide (us.length ≤ 40) && us.all fun x => isWithin x 0 (life - 1)
  | _ => false
theorem anyTs_mem {G : Gp} : ∀ {ts : List T}, AnyTs G ts → ∀ t ∈ ts, AnyT G t
  | [], _, t, h => by cases h
  | u :: ts, ⟨h1, h2⟩, t, h => by
    rcases List.mem_cons.mp h with e | e
    · rw [e]; exact h1
    · exact anyTs_mem h2 t e
mutual
theorem AnyT.sub {G G' : Gp} (s : Sub G G') : ∀ t : T, AnyT G t → AnyT G' t
  | .non, _ => trivial
  | .bl _, _ => trivial
  | .int _, _ => trivial
  | .str _, _ => trivial
  | .tup ts, h => AnyTs.sub s ts h
  | .ref a, ⟨xs, h⟩ => ⟨xs, s a _ h⟩
  | .ty _, h => h.elim
  | .scr _, h => h.elim
theorem AnyTs.sub {G G' : Gp} (s : Sub G G') : ∀ ts : List T, AnyTs G ts → AnyTs G' ts
  | [], _ => trivial
  | t :: ts, ⟨h1, h2⟩ => ⟨AnyT.sub s t h1, AnyTs.sub s ts h2⟩
end

theorem filt1 {α : Type} {p : α → Bool} {x : α} (h : p x = true) : [x].filter p = [x] := by simp [h]
theorem filt0 {α : Type} {p : α → Bool} {x : α} (h : p x = false) : [x].filter p = [] := by simp [h]
theorem sub_put {G0 G : Gp} {p : Addr} {o : GO} (s : Sub G0 G) (h : G p = some o) : Sub (gput G0 p o) G := fun a u e => by
  by_cases ha : a = p
  · subst ha; rw [gput_same] at e; cases e; exact h
  · rw [gput_ne ha] at e; exact s a u e
/-! ### all lines -/
def nxt (life : Nat) (here : List (List Int)) : List (List Int) := here.flatMap fun l => (List.range life).map fun n : Nat => l ++ [(n : Int)]
def lv (life : Nat) : Nat → List (List Int)
  | 0 => [[]]
  | n + 1 => nxt life (lv life n)
def allL (life : Nat) : Nat → List (List Int)
  | 0 => [[]]
  | n + 1 => allL life n ++ lv life (n + 1)
theorem nxt_len (life : Nat) : ∀ here : List (List Int), (nxt life here).length = here.length * life
  | [] => by simp [nxt]
  | l :: here => by
    have : nxt life (l :: here) = ((List.range life).map fun n : Nat => l ++ [(n : Int)]) ++ nxt life here := by simp [nxt]
    rw [this, List.length_append, nxt_len life here, List.length_map, List.length_range, List.length_cons, Nat.add_mul]; omega
theorem nxt_snoc {life : Nat} {here : List (List Int)} {i : Nat} {x : List Int} (h : here[i]? = some x) : nxt life (here.take (i + 1)) = nxt life (here.take i) ++ (List.range life).map fun n : Nat => x ++ [(n : Int)] := by
  rw [take_one h]
  unfold nxt
  rw [List.flatMap_append]; simp
theorem lv_len (life : Nat) : ∀ n, (lv life n).length = life ^ n
  | 0 => by simp [lv]
  | n + 1 => by show (nxt life (lv life n)).length = _; rw [nxt_len, lv_len life n, Nat.pow_succ]
theorem nxt_ok {life : Nat} {here : List (List Int)} {k : Nat} (h : ∀ l ∈ here, l.length = k ∧ ∀ n ∈ l, 0 ≤ n ∧ n < (life : Int)) : ∀ l ∈ nxt life here, l.length = k + 1 ∧ ∀ n ∈ l, 0 ≤ n ∧ n < (life : Int) := by
  intro l hl
  obtain ⟨a, ha, hl⟩ := List.mem_flatMap.mp hl
  obtain ⟨n, hn, rfl⟩ := List.mem_map.mp hl
  obtain ⟨h1, h2⟩ := h a ha
  refine ⟨by simp [h1], fun m hm => ?_⟩
  rcases List.mem_append.mp hm with z | z
  · exact h2 m z
  · rw [List.mem_singleton.mp z]
    have := List.mem_range.mp hn
    omega
theorem lv_ok {life : Nat} : ∀ n, ∀ l ∈ lv life n, l.length = n ∧ ∀ m ∈ l, 0 ≤ m ∧ m < (life : Int)
  | 0 => fun l hl => by
    have : l = [] := by simpa [lv] using hl
    subst this
    exact ⟨rfl, fun _ z => by cases z⟩
  | n + 1 => nxt_ok (lv_ok n)
theorem allL_ok {life : Nat} : ∀ n, ∀ l ∈ allL life n, l.length ≤ n ∧ ∀ m ∈ l, 0 ≤ m ∧ m < (life : Int)
  | 0 => fun l hl => by
    have : l = [] := by simpa [allL] using hl
    subst this
    exact ⟨Nat.le_refl _, fun _ z => by cases z⟩
  | n + 1 => fun l hl => by
    rcases List.mem_append.mp (show l ∈ allL life n ++ lv life (n + 1) from hl) with z | z
    · obtain ⟨a, b⟩ := allL_ok n l z
      exact ⟨by omega, b⟩
    · obtain ⟨a, b⟩ := lv_ok (n + 1) l z
      exact ⟨by omega, b⟩
theorem pow_le6 {life n : Nat} (h : life ≤ 6) (hn : n ≤ 4) : life ^ n ≤ 1296 := by
  have a := Nat.pow_le_pow_left h n
  have b := Nat.pow_le_pow_right (show 0 < 6 by decide) hn
  have : 6 ^ 4 = 1296 := rfl
  omega
theorem allL_len {life : Nat} (h : life ≤ 6) : ∀ n, n ≤ 4 → (allL life n).length ≤ 1 + n * 1296
  | 0, _ => by simp [allL]
  | n + 1, hn => by
    have a := allL_len h n (by omega)
    have b := lv_len life (n + 1)
    have c := pow_le6 h hn
    show (allL life n ++ lv life (n + 1)).length ≤ _
    rw [List.length_append, b]
    omega
theorem fr_teq {p q : Int × Int} : teq (fr p) (fr q) = decide (p = q) := by
  by_cases h : p = q
  · subst h; simp [fr, teq, teqs]
  · rw [decide_eq_false h]
    cases e : teq (fr p) (fr q) with
    | false => rfl
    | true =>
      simp only [fr, teq, teqs, Bool.and_true, Bool.and_eq_true, decide_eq_true_eq] at e
      exact absurd (Prod.ext e.1 e.2) h
theorem okTs_ints : ∀ l : List Int, okTs (l.map T.int) = true
  | [] => rfl
  | n :: l => by show (okT (.int n) && okTs (l.map T.int)) = true; rw [okTs_ints l]; rfl
theorem dpTs_ints : ∀ l : List Int, dpTs (l.map T.int) = 0
  | [] => rfl
  | n :: l => by show max (dpT (.int n)) (dpTs (l.map T.int)) = 0; rw [dpTs_ints l]; rfl
theorem lnT_ok (l : List Int) : okT (lnT l) = true ∧ dpT (lnT l) = 1 := ⟨okTs_ints l, by show dpTs _ + 1 = 1; rw [dpTs_ints l]⟩
theorem cmpbs_ints : ∀ l m : List Int, cmpbs (pdTs (l.map T.int)) (pdTs (m.map T.int)) = true
  | [], m => by cases m <;> rfl
  | _ :: _, [] => rfl
  | a :: l, b :: m => by show (cmpb (.int a) (.int b) && cmpbs (pdTs (l.map T.int)) (pdTs (m.map T.int))) = true; rw [cmpbs_ints l m]; rfl
theorem srtOk_lines {xs : List T} (h : ∀ x ∈ xs, ∃ l : List Int, x = lnT l) : SrtOk xs where
  ok := fun x hx => by
    obtain ⟨l, rfl⟩ := h x hx
    exact ⟨(lnT_ok l).1, by rw [(lnT_ok l).2]; decide⟩
  cm := fun x hx y hy => by
    obtain ⟨l, rfl⟩ := h x hx
    obtain ⟨m, rfl⟩ := h y hy
    exact cmpbs_ints l m
theorem okTs_of : ∀ {xs : List T}, (∀ x ∈ xs, okT x = true) → okTs xs = true
  | [], _ => rfl
  | x :: xs, h => by
    show (okT x && okTs xs) = true
    rw [h x List.mem_cons_self, okTs_of fun y m => h y (List.mem_cons_of_mem _ m)]; rfl
theorem dpTs_of {n : Nat} : ∀ {xs : List T}, (∀ x ∈ xs, dpT x ≤ n) → dpTs xs ≤ n
  | [], _ => Nat.zero_le _
  | x :: xs, h => by
    show max (dpT x) (dpTs xs) ≤ n
    exact Nat.max_le.mpr ⟨h x List.mem_cons_self, dpTs_of fun y m => h y (List.mem_cons_of_mem _ m)⟩
theorem eqOks_of {xs : List T} (h : ∀ x ∈ xs, okT x = true ∧ dpT x ≤ 50) : eqOks xs = true := by
  unfold eqOks
  rw [okTs_of fun x m => (h x m).1, decide_eq_true (dpTs_of fun x m => (h x m).2)]; rfl
mutual
theorem teq_refl : ∀ x : T, okT x = true → teq x x = true
  | .non, _ => rfl
  | .bl b, _ => by simp [teq]
  | .int i, _ => by simp [teq]
  | .str x, _ => by simp [teq]
  | .tup ts, h => by simp only [teq]; exact teqs_refl ts h
  | .ref _, h => by cases h
  | .ty _, h => by cases h
  | .scr _, h => by cases h
theorem teqs_refl : ∀ xs : List T, okTs xs = true → teqs xs xs = true
  | [], _ => rfl
  | x :: xs, h => by
    have h' : (okT x && okTs xs) = true := h
    rw [Bool.and_eq_true] at h'
    show (teq x x && teqs xs xs) = true
    rw [teq_refl x h'.1, teqs_refl xs h'.2]; rfl
end

/-! ### names -/
abbrev strsT (l : List Str) : T := .tup (l.map T.str)
theorem at_map {α : Type} {f : α → T} {l : List α} {i : Nat} {x : α} (h : l[i]? = some x) : (l.map f)[i]? = some (f x) := by rw [List.getElem?_map, h]; rfl
theorem ix_at {n i : Nat} (h : i < n) : ixN n (i : Int) = some i := ixN_nat h
theorem gput_none {G : Gp} {a b : Addr} {o : GO} (h : gput G a o b = none) : b ≠ a ∧ G b = none := by
  by_cases e : b = a
  · subst e; rw [gput_same] at h; cases h
  · rw [gput_ne e] at h; exact ⟨e, h⟩
theorem perm_map {α β : Type} {f : α → β} : ∀ {l : List α} {m : List β}, m.Perm (l.map f) → ∃ l' : List α, m = l'.map f ∧ l'.Perm l := by
  intro l m h
  have h' := h.symm
  clear h
  generalize e : l.map f = k at h'
  induction h' generalizing l with
  | nil => cases l with
    | nil => exact ⟨[], rfl, .refl _⟩
    | cons _ _ => cases e
  | cons x p ih =>
    cases l with
    | nil => cases e
    | cons a l =>
      simp only [List.map_cons, List.cons.injEq] at e
      obtain ⟨rfl, rfl⟩ := e
      obtain ⟨l', rfl, q⟩ := ih rfl
      exact ⟨a :: l', rfl, q.cons a⟩
  | swap x y t =>
    cases l with
    | nil => cases e
    | cons a l =>
      cases l with
      | nil => simp at e
      | cons b l =>
        simp only [List.map_cons, List.cons.injEq] at e
        obtain ⟨rfl, rfl, rfl⟩ := e
        exact ⟨b :: a :: l, rfl, .swap a b l⟩
  | trans p q ih1 ih2 =>
    obtain ⟨l1, rfl, q1⟩ := ih1 e
    obtain ⟨l2, rfl, q2⟩ := ih2 rfl
    exact ⟨l2, rfl, q2.trans q1⟩
def nameOk (x : Str) : Bool := decide (1 ≤ x.length) && decide (x.length ≤ 8) && x.cps.toList.all fun c => decide (97 ≤ c) && decide (c ≤ 122)
theorem nameOk_str {x : Str} (h : nameOk x = true) : okT (.str x) = true := by
  unfold nameOk at h
  simp only [Bool.and_eq_true, List.all_eq_true, decide_eq_true_eq] at h
  show PyData.strOk x = true
  unfold PyData.strOk
  rw [← Array.all_toList, List.all_eq_true]
  intro c hc
  have := h.2 c hc
  exact decide_eq_true (by omega)
theorem srtOk_strs {xs : List T} (h : ∀ x ∈ xs, ∃ s : Str, x = .str s ∧ nameOk s = true) : SrtOk xs where
  ok := fun x hx => by
    obtain ⟨l, rfl, hl⟩ := h x hx
    exact ⟨nameOk_str hl, by show 0 ≤ 50; decide⟩
  cm := fun x hx y hy => by
    obtain ⟨l, rfl, _⟩ := h x hx
    obtain ⟨m, rfl, _⟩ := h y hy
    rfl
def SrtS (l : List Str) : Prop := (l.map T.str).Pairwise fun x y => tlt y x = false
theorem sorted_strs {l : List Str} {ys : List T} (p : ys.Perm (l.map T.str)) (w : ys.Pairwise fun x y => tlt y x = false) : ∃ m : List Str, ys = m.map T.str ∧ m.Perm l ∧ SrtS m := by
  obtain ⟨m, rfl, q⟩ := perm_map p
  exact ⟨m, rfl, q, w⟩
theorem eqOks_nats (l : List Nat) : eqOks (l.map fun k : Nat => T.int k) = true := eqOks_of fun x hx => by
  obtain ⟨k, _, rfl⟩ := List.mem_map.mp hx
  exact ⟨rfl, by show 0 ≤ 50; decide⟩
theorem any_nats {j : Nat} : ∀ l : List Nat, ((l.map fun k : Nat => T.int k).any fun t => teq t (.int j)) = decide (j ∈ l)
  | [] => by simp
  | k :: l => by
    rw [List.map_cons, List.any_cons, any_nats l]
    by_cases c : k = j
    · subst c; simp [teq]
    · have c' : ¬ j = k := fun z => c z.symm
      have c2 : ¬ (k : Int) = (j : Int) := by omega
      simp [teq, c', c2]
theorem letters {c : Nat} (h : 97 ≤ c) (h2 : c ≤ 122) : c ∈ (("abcdefghijklmnopqrstuvwxyz" : Str).cps.toList) := by
  obtain ⟨k, rfl⟩ : ∃ k : Nat, c = 97 + k := ⟨c - 97, by omega⟩
  have : ∀ k : Fin 26, 97 + k.1 ∈ (("abcdefghijklmnopqrstuvwxyz" : Str).cps.toList) := by decide +kernel
  exact this ⟨k, by omega⟩
theorem ltCps_cd : ∀ a b : List Nat, ltCps a b = HT.lexLt (cdS a) (cdS b)
  | [], [] => by show false = HT.lexLt [0] [0]; rw [HT.lexLt_cons, if_pos rfl]; rfl
  | [], b :: t => by show true = HT.lexLt [0] (1 :: (b : Int) :: cdS t); rw [HT.lexLt_cons, if_neg (by decide)]; rfl
  | a :: r, [] => by show false = HT.lexLt (1 :: (a : Int) :: cdS r) [0]; rw [HT.lexLt_cons, if_neg (by decide)]; rfl
  | a :: r, b :: t => by
    show (decide (a < b) || (a == b && ltCps r t)) = HT.lexLt (1 :: (a : Int) :: cdS r) (1 :: (b : Int) :: cdS t)
    rw [HT.lexLt_cons, if_pos rfl, HT.lexLt_cons, ltCps_cd r t]
    by_cases c : a = b
    · subst c; simp
    · have c' : ¬ (a : Int) = b := by omega
      rw [if_neg c']
      by_cases d : a < b
      · have : (a : Int) < b := by omega
        simp [d, this]
      · have : ¬ (a : Int) < b := by omega
        simp [d, this, c]
theorem rising_srt : ∀ (r : List Str) (p : Str), risingS p r = true → (∀ x ∈ r, tlt (.str x) (.str p) = false) ∧ (r.map T.str).Pairwise fun x y => tlt y x = false
  | [], p, _ => ⟨fun x hx => (by cases hx), List.Pairwise.nil⟩
  | x :: r, p, h => by
    simp only [risingS, Bool.and_eq_true, Bool.not_eq_true'] at h
    obtain ⟨h1, h2⟩ := h
    rw [ltCps_cd] at h1
    obtain ⟨a, b⟩ := rising_srt r x h2
    refine ⟨fun y hy => ?_, ?_⟩
    · rcases List.mem_cons.mp hy with e | e
      · rw [e]; exact h1
      · exact (NtL.swo_lexL (fun x : Str => cdS x.cps.toList)).tr p x y h1 (a y e)
    · refine List.pairwise_cons.mpr ⟨fun t ht => ?_, b⟩
      obtain ⟨y, hy, rfl⟩ := List.mem_map.mp ht
      exact a y hy
theorem sorted_srt {l : List Str} (h : sortedS l = true) : SrtS l := by
  cases l with
  | nil => exact List.Pairwise.nil
  | cons x r =>
    obtain ⟨a, b⟩ := rising_srt r x h
    refine List.pairwise_cons.mpr ⟨fun t ht => ?_, b⟩
    obtain ⟨y, hy, rfl⟩ := List.mem_map.mp ht
    exact a y hy
theorem SrtS.uniq {l m k : List Str} (h : ∀ x ∈ k, nameOk x = true) (p1 : l.Perm k) (p2 : m.Perm k) (s1 : SrtS l) (s2 : SrtS m) : l = m := by
  have so : SrtOk (k.map T.str) := srtOk_strs fun x hx => by
    obtain ⟨s, hs, rfl⟩ := List.mem_map.mp hx
    exact ⟨s, rfl, h s hs⟩
  have e := so.uniq (p1.map T.str) (p2.map T.str) s1 s2
  exact List.map_inj_right (fun a b z => by cases z; rfl) |>.mp e
theorem SrtS.filter {l : List Str} (h : SrtS l) (f : Str → Bool) : SrtS (l.filter f) := by
  unfold SrtS at *
  exact List.Pairwise.sublist (List.Sublist.map T.str List.filter_sublist) h
theorem eqOks_names {l : List Str} (h : ∀ x ∈ l, nameOk x = true) : eqOks (l.map T.str) = true := eqOks_of fun x hx => by
  obtain ⟨s, hs, rfl⟩ := List.mem_map.mp hx
  exact ⟨nameOk_str (h s hs), by show 0 ≤ 50; decide⟩
theorem any_strs {x : Str} : ∀ l : List Str, ((l.map T.str).any fun t => teq t (.str x)) = decide (x ∈ l)
  | [] => by simp
  | k :: l => by
    rw [List.map_cons, List.any_cons, any_strs l]
    by_cases c : k = x
    · subst c; simp [teq]
    · have c' : ¬ x = k := fun z => c z.symm
      simp [teq, c', c]
theorem eqOk_name {x : Str} (h : nameOk x = true) : eqOk (.str x) = true := by
  have := nameOk_str h
  unfold eqOk
  rw [this]; rfl
theorem okTs_strs {l : List Str} (h : ∀ y ∈ l, nameOk y = true) : okTs (l.map T.str) = true := okTs_of fun x hx => by
  obtain ⟨s, hs, rfl⟩ := List.mem_map.mp hx
  exact nameOk_str (h s hs)
theorem dpTs_strs : ∀ l : List Str, dpTs (l.map T.str) = 0
  | [] => rfl
  | n :: l => by show max (dpT (.str n)) (dpTs (l.map T.str)) = 0; rw [dpTs_strs l]; rfl

/-! ### found pieces -/
def isNm : T → Bool
  | .str x => nameOk x
  | _ => false
def upS (l : List Str) : Bool := (List.zipWith (fun a b : Str => decide (a.cps.toList < b.cps.toList)) l l.tail).all id
def txts : List T → Option (List Str)
  | [] => some []
  | .str x :: ts => (txts ts).map (x :: ·)
  | _ => none
def upT (ts : List T) : Bool := match txts ts with
  | some l => upS l
  | none => false
def pairOk : T → Bool
  | .tup [a, .tup ms] => isNm a && decide (ms.length ≤ 6) && ms.all isNm && upT ms
  | _ => false
def fstT : T → T
  | .tup (a :: _) => a
  | t => t
def isFound : T → Bool
  | .tup ts => decide (ts.length ≤ 8) && ts.all pairOk && upT (ts.map fstT)
  | _ => false
theorem txts_map : ∀ l : List Str, txts (l.map T.str) = some l
  | [] => rfl
  | x :: l => by simp [txts, txts_map l]
theorem upT_map (l : List Str) : upT (l.map T.str) = upS l := by unfold upT; rw [txts_map]
theorem names_of : ∀ {ts : List T}, ts.all isNm = true → ∃ l : List Str, ts = l.map T.str ∧ ∀ x ∈ l, nameOk x = true
  | [], _ => ⟨[], rfl, fun x h => by cases h⟩
  | t :: ts, h => by
    rw [List.all_cons, Bool.and_eq_true] at h
    obtain ⟨l, rfl, hl⟩ := names_of h.2
    cases t with
    | str x => exact ⟨x :: l, rfl, fun y hy => by
        rcases List.mem_cons.mp hy with e | e
        · rw [e]; exact h.1
        · exact hl y e⟩
    | _ => exact absurd h.1 (by simp [isNm])
theorem pairOk_of {t : T} (h : pairOk t = true) : ∃ (x : Str) (ms : List Str), t = .tup [.str x, strsT ms] ∧ nameOk x = true ∧ ms.length ≤ 6 ∧ (∀ y ∈ ms, nameOk y = true) ∧ upS ms = true := by
  unfold pairOk at h
  split at h
  · rename_i a ms
    simp only [Bool.and_eq_true, decide_eq_true_eq] at h
    obtain ⟨⟨⟨h1, h2⟩, h3⟩, h4⟩ := h
    obtain ⟨l, rfl, hl⟩ := names_of h3
    cases a with
    | str x =>
      rw [upT_map] at h4
      exact ⟨x, l, rfl, h1, by simpa using h2, hl, h4⟩
    | _ => exact absurd h1 (by simp [isNm])
  · cases h
theorem pairs_of_ok : ∀ {ts : List T}, ts.all pairOk = true → ∃ l : List (Str × List Str), ts = l.map (fun p => T.tup [.str p.1, strsT p.2]) ∧ ∀ p ∈ l, nameOk p.1 = true ∧ p.2.length ≤ 6 ∧ (∀ y ∈ p.2, nameOk y = true) ∧ upS p.2 = true
  | [], _ => ⟨[], rfl, fun x h => by cases h⟩
  | t :: ts, h => by
    rw [List.all_cons, Bool.and_eq_true] at h
    obtain ⟨l, rfl, hl⟩ := pairs_of_ok h.2
    obtain ⟨x, ms, rfl, q⟩ := pairOk_of h.1
    exact ⟨(x, ms) :: l, rfl, fun y hy => by
      rcases List.mem_cons.mp hy with e | e
      · rw [e]; exact q
      · exact hl y e⟩
theorem dat_len {av : List Addr} {G : Gp} {k n : Nat} {x : Str} (h : Dat av G k n (.str x)) (hk : k ≤ 5) : x.length ≤ 100000 := by
  have := Dat.str.mp h
  have e : 3 ^ k ≤ 3 ^ 5 := Nat.pow_le_pow_right (by decide) hk
  have : (3 : Nat) ^ 5 = 243 := rfl
  omega
theorem Dat.sub' {av : List Addr} {G G' : Gp} {k n : Nat} {t : T} (h : Dat av G k n t) (s : Sub G G') : Dat av G' k n t := h.off (Off.sub s)
theorem pairOk_two (a : T) (ms : List T) : pairOk (.tup [a, .tup ms]) = (isNm a && decide (ms.length ≤ 6) && ms.all isNm && upT ms) := rfl
theorem isFound_tup (us : List T) : isFound (.tup us) = (decide (us.length ≤ 8) && us.all pairOk && upT (us.map fstT)) := rfl
theorem pairOk_len {vs : List T} (h : vs.length ≠ 2) : pairOk (.tup vs) = false := by
  unfold pairOk
  split
  · rename_i e; cases e; exact absurd rfl h
  · rfl
theorem str_tlt (x y : Str) : tlt (.str x) (.str y) = decide (x.cps.toList < y.cps.toList) := (ltCps_cd x.cps.toList y.cps.toList).symm.trans (ltCps_eq _ _)
theorem upS_cons (x y : Str) (r : List Str) : upS (x :: y :: r) = (decide (x.cps.toList < y.cps.toList) && upS (y :: r)) := by simp [upS]
theorem up_pw : ∀ {l : List Str}, upS l = true → l.Pairwise fun a b => a.cps.toList < b.cps.toList
  | [], _ => .nil
  | [x], _ => .cons (fun _ h => by cases h) .nil
  | x :: y :: r, h => by
    rw [upS_cons, Bool.and_eq_true, decide_eq_true_eq] at h
    have ih := up_pw h.2
    refine .cons (fun z hz => ?_) ih
    rcases List.mem_cons.mp hz with e | e
    · rw [e]; exact h.1
    · exact List.lt_trans h.1 ((List.pairwise_cons.mp ih).1 z e)
theorem pw_up : ∀ {l : List Str}, l.Pairwise (fun a b => a.cps.toList < b.cps.toList) → upS l = true
  | [], _ => rfl
  | [x], _ => rfl
  | x :: y :: r, h => by
    obtain ⟨h1, h2⟩ := List.pairwise_cons.mp h
    rw [upS_cons, pw_up h2, decide_eq_true (h1 y List.mem_cons_self)]; rfl
theorem pw_srt {l : List Str} (h : l.Pairwise fun a b => a.cps.toList < b.cps.toList) : SrtS l ∧ l.Nodup := by
  constructor
  · unfold SrtS
    rw [List.pairwise_map]
    refine h.imp fun {a b} hab => ?_
    rw [str_tlt]
    exact decide_eq_false fun z => List.lt_irrefl _ (List.lt_trans hab z)
  · refine h.imp fun {a b} hab e => ?_
    rw [e] at hab
    exact List.lt_irrefl _ hab
theorem str_lt_of {a b : Str} (ha : nameOk a = true) (hb : nameOk b = true) (h : tlt (.str b) (.str a) = false) (ne : a ≠ b) : a.cps.toList < b.cps.toList := by
  have : tlt (.str a) (.str b) = true := by
    cases e : tlt (.str a) (.str b) with
    | true => rfl
    | false =>
      have := pdT_inj (.str a) (.str b) (nameOk_str ha) (nameOk_str hb) (cd_inj rfl (lex_tot _ _ e h))
      exact absurd (T.str.inj this) ne
  rw [str_tlt] at this
  exact of_decide_eq_true this
theorem srt_pw {l : List Str} (hn : ∀ x ∈ l, nameOk x = true) (h : SrtS l) (nd : l.Nodup) : l.Pairwise fun a b => a.cps.toList < b.cps.toList := by
  unfold SrtS at h
  rw [List.pairwise_map] at h
  have := h.and nd
  exact this.imp_of_mem fun {a b} ha hb hab => str_lt_of (hn a ha) (hn b hb) hab.1 hab.2
theorem up_iff {l ys : List Str} (hn : ∀ x ∈ l, nameOk x = true) (nd : ys.Nodup) (hm : ∀ x, x ∈ ys ↔ x ∈ l) (hs : sortedS ys = true) : decide (l = ys) = upS l := by
  cases h : upS l with
  | true =>
    obtain ⟨s, n⟩ := pw_srt (up_pw h)
    exact decide_eq_true (SrtS.uniq hn (.refl _) (perm_same nd n hm) s (sorted_srt hs))
  | false =>
    refine decide_eq_false fun e => ?_
    subst e
    rw [pw_up (srt_pw hn (sorted_srt hs) nd)] at h
    cases h
theorem strs_teq {l m : List Str} : teqs (l.map T.str) (m.map T.str) = decide (l = m) := by
  induction l generalizing m with
  | nil => cases m with
    | nil => rfl
    | cons y m => rfl
  | cons x l ih => cases m with
    | nil => rfl
    | cons y m =>
      show (teq (.str x) (.str y) && teqs (l.map T.str) (m.map T.str)) = _
      rw [ih]
      by_cases h : x = y
      · subst h
        by_cases h2 : l = m
        · subst h2; simp [teq]
        · simp [teq, h2]
      · simp [teq, h]
abbrev Fnd := List (Str × List Str)
abbrev fpT (p : Str × List Str) : T := .tup [.str p.1, strsT p.2]
abbrev fndT (l : Fnd) : T := .tup (l.map fpT)
/-- found pieces, the names of pieces not asked -/
structure FOk (l : Fnd) : Prop where
  len : l.length ≤ 100
  nm : ∀ p ∈ l, (∀ y ∈ p.2, nameOk y = true) ∧ p.2.Nodup ∧ p.2.length ≤ 50
/-- where a mark is -/
def posOf (l : Fnd) (m : Str) : List Nat := (l.zipIdx.filter fun p => decide (m ∈ p.1.2)).map (·.2)
abbrev natsT (l : List Nat) : T := .tup (l.map fun i : Nat => T.int i)
/-- the marks that some piece has, in some order -/
structure Mks (l : Fnd) (ks : List Str) : Prop where
  nd : ks.Nodup
  mem : ∀ x, x ∈ ks ↔ ∃ p ∈ l, x ∈ p.2
theorem Mks.names {l : Fnd} {ks : List Str} (h : Mks l ks) (ho : FOk l) : ∀ x ∈ ks, nameOk x = true := fun x hx => by
  obtain ⟨p, hp, hm⟩ := (h.mem x).mp hx
  exact (ho.nm p hp).1 x hm
/-- the dict of having -/
def hvK (l : Fnd) (ks : List Str) : List (Key × T) := ks.map fun m => ((Sum.inr m : Key), natsT (posOf l m))
theorem hvK_at {l : Fnd} {ks : List Str} {m : Str} (hm : m ∈ ks) : valT (hvK l ks) (.inr m) = some (natsT (posOf l m)) := by
  unfold hvK valT
  induction ks with
  | nil => cases hm
  | cons a r ih =>
    by_cases e : a = m
    · subst e; simp
    · have ne : ¬ (Sum.inr a : Key) = .inr m := fun z => e (Sum.inr.inj z)
      have hm' : m ∈ r := by
        rcases List.mem_cons.mp hm with z | z
        · exact absurd z.symm e
        · exact z
      have := ih hm'
      simp only [List.map_cons, List.find?_cons, ne, decide_false] at this ⊢
      exact this
theorem hvK_keys {l : Fnd} {ks : List Str} : (hvK l ks).map (·.1) = ks.map Sum.inr := by
  unfold hvK
  rw [List.map_map]; rfl
theorem posOf_lt {l : Fnd} {m : Str} : ∀ i ∈ posOf l m, i < l.length := fun i hi => by
  obtain ⟨p, hp, rfl⟩ := List.mem_map.mp hi
  obtain ⟨h1, _⟩ := List.mem_filter.mp hp
  obtain ⟨k, hk⟩ := List.mem_iff_getElem?.mp h1
  rw [List.getElem?_zipIdx] at hk
  cases e : l[k]? with
  | none => rw [e] at hk; cases hk
  | some y =>
    rw [e] at hk
    have := (List.getElem?_eq_some_iff.mp e).1
    simp at hk
    rw [← hk]
    simpa using this
theorem posOf_len {l : Fnd} {m : Str} : (posOf l m).length ≤ l.length := by
  unfold posOf
  rw [List.length_map]
  exact Nat.le_trans (List.length_filter_le _ _) (by rw [List.length_zipIdx]; exact Nat.le_refl _)
def inB (a b : List Nat) : Bool := a.all fun i => decide (i ∈ b)
def crossB (a b : List Nat) : Bool := a.any (fun i => decide (i ∈ b)) && !inB a b && !inB b a
theorem posOf_app (l : Fnd) (p : Str × List Str) (m : Str) : posOf (l ++ [p]) m = posOf l m ++ (if m ∈ p.2 then [l.length] else []) := by
  unfold posOf
  rw [List.zipIdx_append, List.filter_append, List.map_append]
  congr 1
  by_cases h : m ∈ p.2
  · simp [h]
  · simp [h]
theorem posOf_none {l : Fnd} {m : Str} (h : ∀ p ∈ l, m ∉ p.2) : posOf l m = [] := by
  unfold posOf
  rw [List.filter_eq_nil_iff.mpr]
  · rfl
  · intro p hp z
    obtain ⟨k, hk⟩ := List.mem_iff_getElem?.mp hp
    rw [List.getElem?_zipIdx] at hk
    cases e : l[k]? with
    | none => rw [e] at hk; cases hk
    | some y =>
      rw [e] at hk
      simp at hk
      have := h y (List.mem_of_getElem? e)
      rw [← hk] at z
      exact this (of_decide_eq_true z)
theorem hvK_none {l : Fnd} {ks : List Str} {m : Str} (hm : m ∉ ks) : valT (hvK l ks) (.inr m) = none := by
  unfold valT
  rw [List.find?_eq_none.mpr]
  · rfl
  · intro x hx z
    obtain ⟨y, hy, rfl⟩ := List.mem_map.mp hx
    have := Sum.inr.inj (of_decide_eq_true z)
    exact hm (this ▸ hy)
theorem Mks.start : Mks [] [] := ⟨List.nodup_nil, fun x => by simp⟩
theorem Mks.idle {l : Fnd} {ks : List Str} {n : Str} : Mks (l ++ [(n, [])]) ks ↔ Mks l ks := by
  constructor
  · intro h
    exact ⟨h.nd, fun x => (h.mem x).trans (by simp)⟩
  · intro h
    exact ⟨h.nd, fun x => (h.mem x).trans (by simp)⟩
theorem hvK_idle {l : Fnd} {ks : List Str} {n : Str} : hvK (l ++ [(n, [])]) ks = hvK l ks := by
  unfold hvK
  refine List.map_congr_left fun m _ => ?_
  rw [posOf_app]; simp
/-- one more mark of the piece that is looked at -/
theorem hv_step {l : Fnd} {n m : Str} {ms : List Str} {ks : List Str} (h : Mks (l ++ [(n, ms)]) ks) (hm : m ∉ ms) :
    ∃ ks', Mks (l ++ [(n, ms ++ [m])]) ks' ∧ ks'.length ≤ ks.length + 1 ∧ (valT (hvK (l ++ [(n, ms)]) ks) (.inr m)).getD (.tup []) = natsT (posOf l m) ∧
      putT (hvK (l ++ [(n, ms)]) ks) (.inr m) (.tup ((posOf l m).map (fun i : Nat => T.int i) ++ [.int (l.length : Nat)])) = hvK (l ++ [(n, ms ++ [m])]) ks' := by
  have e1 : posOf (l ++ [(n, ms)]) m = posOf l m := by rw [posOf_app]; simp [hm]
  have e2 : posOf (l ++ [(n, ms ++ [m])]) m = posOf l m ++ [l.length] := by rw [posOf_app]; simp
  have e3 : ∀ x, x ≠ m → posOf (l ++ [(n, ms ++ [m])]) x = posOf (l ++ [(n, ms)]) x := fun x hx => by rw [posOf_app, posOf_app]; simp [hx]
  have ev : T.tup ((posOf l m).map (fun i : Nat => T.int i) ++ [.int (l.length : Nat)]) = natsT (posOf (l ++ [(n, ms ++ [m])]) m) := by rw [e2]; simp
  have mem' : ∀ x, (∃ p ∈ l ++ [(n, ms ++ [m])], x ∈ p.2) ↔ (∃ p ∈ l ++ [(n, ms)], x ∈ p.2) ∨ x = m := fun x => by
    simp only [List.mem_append, List.mem_singleton]
    constructor
    · rintro ⟨p, hp | rfl, hx⟩
      · exact .inl ⟨p, .inl hp, hx⟩
      · rcases List.mem_append.mp hx with z | z
        · exact .inl ⟨_, .inr rfl, z⟩
        · exact .inr (List.mem_singleton.mp z)
    · rintro (⟨p, hp | rfl, hx⟩ | rfl)
      · exact ⟨p, .inl hp, hx⟩
      · exact ⟨_, .inr rfl, List.mem_append_left _ hx⟩
      · exact ⟨_, .inr rfl, by simp⟩
  by_cases c : m ∈ ks
  · refine ⟨ks, ⟨h.nd, fun x => ?_⟩, Nat.le_succ _, ?_, ?_⟩
    · rw [mem' x, ← h.mem x]
      exact ⟨.inl, fun z => z.elim id fun e => e ▸ c⟩
    · rw [hvK_at c, e1]; rfl
    · rw [ev]
      have an : ((hvK (l ++ [(n, ms)]) ks).any fun kv => decide (kv.1 = Sum.inr m)) = true := List.any_eq_true.mpr ⟨_, List.mem_map.mpr ⟨m, c, rfl⟩, decide_eq_true rfl⟩
      unfold putT
      rw [if_pos an]
      unfold hvK
      rw [List.map_map]
      refine List.map_congr_left fun x _ => ?_
      by_cases hx : x = m
      · subst hx; simp
      · have : ¬ (Sum.inr x : Key) = .inr m := fun z => hx (Sum.inr.inj z)
        simp only [Function.comp_def, if_neg this]
        rw [e3 x hx]
  · have nz : ∀ p ∈ l, m ∉ p.2 := fun p hp z => c ((h.mem m).mpr ⟨p, List.mem_append_left _ hp, z⟩)
    refine ⟨ks ++ [m], ⟨?_, fun x => ?_⟩, by simp, ?_, ?_⟩
    · exact List.nodup_append.mpr ⟨h.nd, by simp, fun a ha b hb e => c (by rw [← List.mem_singleton.mp hb, ← e]; exact ha)⟩
    · rw [mem' x, ← h.mem x, List.mem_append, List.mem_singleton]
    · rw [hvK_none c, posOf_none nz]; rfl
    · rw [ev]
      unfold putT
      rw [if_neg]
      · unfold hvK
        rw [List.map_append]
        congr 1
        refine List.map_congr_left fun x hx => ?_
        rw [e3 x fun z => c (z ▸ hx)]
      · intro z
        rw [List.any_eq_true] at z
        obtain ⟨y, hy, z⟩ := z
        obtain ⟨x, hx, rfl⟩ := List.mem_map.mp hy
        exact c (by rw [← Sum.inr.inj (of_decide_eq_true z)]; exact hx)
def rankT (l : Fnd) (m : Str) : T := .tup [.int (0 - ((posOf l m).length : Int)), .str m]
/-- a mark stands around another one -/
def OutOf (l : Fnd) (m o : Str) : Prop := inB (posOf l m) (posOf l o) = true ∧ tlt (rankT l o) (rankT l m) = true
/-- the mark just around one: that of the greatest rank -/
def IsOut (l : Fnd) (ks : List Str) (m : Str) : Option Str → Prop
  | none => ∀ x ∈ ks, ¬ OutOf l m x
  | some o => o ∈ ks ∧ OutOf l m o ∧ ∀ x ∈ ks, OutOf l m x → tlt (rankT l o) (rankT l x) = false
def optS : Option Str → T
  | none => .non
  | some x => .str x
theorem rank_ok {l : Fnd} {m : Str} (h : nameOk m = true) : okT (rankT l m) = true ∧ dpT (rankT l m) ≤ 50 := by
  constructor
  · show (true && (PyData.strOk m && true)) = true
    rw [show PyData.strOk m = true from nameOk_str h]; rfl
  · show max 0 (max 0 0) + 1 ≤ 50
    decide
theorem rank_eqOk {l : Fnd} {m : Str} (h : nameOk m = true) : eqOk (rankT l m) = true := by
  obtain ⟨a, b⟩ := rank_ok (l := l) h
  unfold eqOk
  rw [a, decide_eq_true b]; rfl
theorem rank_cmp {l : Fnd} {m o : Str} : cmpb (pdT (rankT l m)) (pdT (rankT l o)) = true := rfl
theorem rank_inj {l : Fnd} {m o : Str} (hm : nameOk m = true) (ho : nameOk o = true) (h1 : tlt (rankT l m) (rankT l o) = false) (h2 : tlt (rankT l o) (rankT l m) = false) : m = o := by
  have := pdT_inj (rankT l m) (rankT l o) (rank_ok hm).1 (rank_ok ho).1 (cd_inj rank_cmp (lex_tot _ _ h1 h2))
  unfold rankT at this
  simp only [T.tup.injEq, List.cons.injEq, T.str.injEq, and_true] at this
  exact this.2
theorem IsOut.uniq {l : Fnd} {ks ys : List Str} {m : Str} {o p : Option Str} (hk : Mks l ks) (hy : Mks l ys) (hl : FOk l) (h1 : IsOut l ks m o) (h2 : IsOut l ys m p) : o = p := by
  have mm : ∀ x, x ∈ ks ↔ x ∈ ys := fun x => (hk.mem x).trans (hy.mem x).symm
  have hn := hk.names hl
  cases o with
  | none =>
    cases p with
    | none => rfl
    | some x => exact absurd h2.2.1 (h1 x ((mm x).mpr h2.1))
  | some a =>
    cases p with
    | none => exact absurd h1.2.1 (h2 a ((mm a).mp h1.1))
    | some b =>
      obtain ⟨a1, a2, a3⟩ := h1
      obtain ⟨b1, b2, b3⟩ := h2
      have hb := (mm b).mpr b1
      rw [rank_inj (hn a a1) (hn b hb) (a3 b hb b2) (b3 a ((mm a).mp a1) a2)]
theorem lexLt_irr : ∀ a : List Int, HT.lexLt a a = false
  | [] => rfl
  | a :: r => by rw [HT.lexLt_cons, if_pos rfl]; exact lexLt_irr r
theorem tlt_irr (x : T) : tlt x x = false := lexLt_irr _

/-! ### the law's own reading of marks: by the names of pieces -/
def kvOf (ks : List Str) (f : Str → T) : List (Key × T) := ks.map fun m => ((Sum.inr m : Key), f m)
theorem kv_at {ks : List Str} {f : Str → T} {m : Str} (hm : m ∈ ks) : valT (kvOf ks f) (.inr m) = some (f m) := by
  unfold kvOf valT
  induction ks with
  | nil => cases hm
  | cons a r ih =>
    by_cases e : a = m
    · subst e; simp
    · have ne : ¬ (Sum.inr a : Key) = .inr m := fun z => e (Sum.inr.inj z)
      have hm' : m ∈ r := by
        rcases List.mem_cons.mp hm with z | z
        · exact absurd z.symm e
        · exact z
      have := ih hm'
      simp only [List.map_cons, List.find?_cons, ne, decide_false] at this ⊢
      exact this
theorem kv_none {ks : List Str} {f : Str → T} {m : Str} (hm : m ∉ ks) : valT (kvOf ks f) (.inr m) = none := by
  unfold valT
  rw [List.find?_eq_none.mpr]
  · rfl
  · intro x hx z
    obtain ⟨y, hy, rfl⟩ := List.mem_map.mp hx
    exact hm ((Sum.inr.inj (of_decide_eq_true z)) ▸ hy)
theorem kv_keys {ks : List Str} {f : Str → T} : (kvOf ks f).map (·.1) = ks.map Sum.inr := by
  unfold kvOf
  rw [List.map_map]; rfl
def addS (ks : List Str) (m : Str) : List Str := if m ∈ ks then ks else ks ++ [m]
theorem kv_put {ks : List Str} {f : Str → T} {m : Str} {t : T} : putT (kvOf ks f) (.inr m) t = kvOf (addS ks m) fun x => if x = m then t else f x := by
  unfold putT addS
  by_cases c : m ∈ ks
  · have an : ((kvOf ks f).any fun kv => decide (kv.1 = Sum.inr m)) = true := List.any_eq_true.mpr ⟨_, List.mem_map.mpr ⟨m, c, rfl⟩, decide_eq_true rfl⟩
    rw [if_pos an, if_pos c]
    unfold kvOf
    rw [List.map_map]
    refine List.map_congr_left fun x _ => ?_
    by_cases hx : x = m
    · subst hx; simp
    · have : ¬ (Sum.inr x : Key) = .inr m := fun z => hx (Sum.inr.inj z)
      simp only [Function.comp_def, if_neg this, if_neg hx]
  · have an : ¬ ((kvOf ks f).any fun kv => decide (kv.1 = Sum.inr m)) = true := fun z => by
      rw [List.any_eq_true] at z
      obtain ⟨y, hy, z⟩ := z
      obtain ⟨x, hx, rfl⟩ := List.mem_map.mp hy
      exact c (by rw [← Sum.inr.inj (of_decide_eq_true z)]; exact hx)
    rw [if_neg an, if_neg c]
    unfold kvOf
    rw [List.map_append]
    congr 1
    · refine List.map_congr_left fun x hx => ?_
      have : ¬ x = m := fun z => c (z ▸ hx)
      simp only [if_neg this]
    · simp
theorem mem_addS {ks : List Str} {m x : Str} : x ∈ addS ks m ↔ x ∈ ks ∨ x = m := by
  unfold addS
  by_cases c : m ∈ ks
  · rw [if_pos c]; exact ⟨.inl, fun z => z.elim id fun e => e ▸ c⟩
  · rw [if_neg c]; simp
/-- the names of the pieces that have a mark -/
def namesOf (l : Fnd) (m : Str) : List Str := (l.filter fun p => decide (m ∈ p.2)).map (·.1)
theorem namesOf_app (l : Fnd) (p : Str × List Str) (m : Str) : namesOf (l ++ [p]) m = namesOf l m ++ (if m ∈ p.2 then [p.1] else []) := by
  unfold namesOf
  rw [List.filter_append, List.map_append]
  congr 1
  by_cases h : m ∈ p.2
  · simp [h]
  · simp [h]
theorem namesOf_len {l : Fnd} {m : Str} : (namesOf l m).length = (posOf l m).length := by
  unfold namesOf posOf
  rw [List.length_map, List.length_map]
  have : ∀ (l : Fnd) (k : Nat), (l.filter fun p => decide (m ∈ p.2)).length = ((l.zipIdx k).filter fun p => decide (m ∈ p.1.2)).length := fun l => by
    induction l with
    | nil => intro k; rfl
    | cons a r ih =>
      intro k
      rw [List.zipIdx_cons, List.filter_cons, List.filter_cons]
      by_cases h : m ∈ a.2
      · simp [h, ih (k + 1)]
      · simp [h, ih (k + 1)]
  exact this l 0
/-- the names of pieces are unlike -/
structure FNm (l : Fnd) : Prop where
  nd : (l.map (·.1)).Nodup
  nm : ∀ p ∈ l, nameOk p.1 = true
theorem mem_namesOf {l : Fnd} {m x : Str} : x ∈ namesOf l m ↔ ∃ p ∈ l, p.1 = x ∧ m ∈ p.2 := by
  unfold namesOf
  rw [List.mem_map]
  constructor
  · rintro ⟨p, hp, rfl⟩
    obtain ⟨h1, h2⟩ := List.mem_filter.mp hp
    exact ⟨p, h1, rfl, of_decide_eq_true h2⟩
  · rintro ⟨p, h1, h2, h3⟩
    exact ⟨p, List.mem_filter.mpr ⟨h1, decide_eq_true h3⟩, h2⟩
theorem mem_posOf {l : Fnd} {m : Str} {i : Nat} : i ∈ posOf l m ↔ ∃ p, l[i]? = some p ∧ m ∈ p.2 := by
  unfold posOf
  rw [List.mem_map]
  constructor
  · rintro ⟨p, hp, rfl⟩
    obtain ⟨h1, h2⟩ := List.mem_filter.mp hp
    obtain ⟨k, hk⟩ := List.mem_iff_getElem?.mp h1
    rw [List.getElem?_zipIdx] at hk
    cases e : l[k]? with
    | none => rw [e] at hk; cases hk
    | some y =>
      rw [e] at hk
      simp at hk
      rw [← hk] at h2 ⊢
      exact ⟨y, by simpa using e, of_decide_eq_true h2⟩
  · rintro ⟨p, h1, h2⟩
    refine ⟨(p, i), List.mem_filter.mpr ⟨?_, decide_eq_true h2⟩, rfl⟩
    have : l.zipIdx[i]? = some (p, i) := by rw [List.getElem?_zipIdx, h1]; simp
    exact List.mem_of_getElem? this
theorem FNm.inj {l : Fnd} (h : FNm l) {i j : Nat} {p q : Str × List Str} (h1 : l[i]? = some p) (h2 : l[j]? = some q) (e : p.1 = q.1) : i = j := by
  have a1 : (l.map (·.1))[i]? = some p.1 := by rw [List.getElem?_map, h1]; rfl
  have a2 : (l.map (·.1))[j]? = some q.1 := by rw [List.getElem?_map, h2]; rfl
  obtain ⟨b1, c1⟩ := List.getElem?_eq_some_iff.mp a1
  obtain ⟨b2, c2⟩ := List.getElem?_eq_some_iff.mp a2
  exact (List.getElem_inj h.nd).mp (by rw [c1, c2, e])
theorem name_pos {l : Fnd} (h : FNm l) {i : Nat} {p : Str × List Str} (hi : l[i]? = some p) (m : Str) : p.1 ∈ namesOf l m ↔ i ∈ posOf l m := by
  rw [mem_namesOf, mem_posOf]
  constructor
  · rintro ⟨q, hq, e, hm⟩
    obtain ⟨j, hj⟩ := List.mem_iff_getElem?.mp hq
    have := h.inj hi hj e.symm
    subst this
    exact ⟨q, hj, hm⟩
  · rintro ⟨q, hq, hm⟩
    rw [hi] at hq; cases hq
    exact ⟨p, List.mem_of_getElem? hi, rfl, hm⟩
theorem namesOf_nd {l : Fnd} (h : FNm l) (m : Str) : (namesOf l m).Nodup := by
  unfold namesOf
  exact List.Pairwise.sublist (List.Sublist.map _ List.filter_sublist) h.nd
theorem posOf_nd {l : Fnd} (m : Str) : (posOf l m).Nodup := by
  unfold posOf
  have : (l.zipIdx.map (·.2)).Nodup := by
    rw [List.zipIdx_map_snd, List.nodup_iff_pairwise_ne]
    exact (List.pairwise_lt_range' (s := 0) (n := l.length)).imp fun h => Nat.ne_of_lt h
  exact List.Pairwise.sublist (List.Sublist.map _ List.filter_sublist) this
/-- all names are among others just where all places are -/
theorem in_names {l : Fnd} (h : FNm l) (a b : Str) : (∀ x ∈ namesOf l a, x ∈ namesOf l b) ↔ inB (posOf l a) (posOf l b) = true := by
  unfold inB
  rw [List.all_eq_true]
  constructor
  · intro q i hi
    obtain ⟨p, hp, hm⟩ := mem_posOf.mp hi
    exact decide_eq_true ((name_pos h hp b).mp (q p.1 ((name_pos h hp a).mpr hi)))
  · intro q x hx
    obtain ⟨p, hp, rfl, hm⟩ := mem_namesOf.mp hx
    obtain ⟨i, hi⟩ := List.mem_iff_getElem?.mp hp
    exact (name_pos h hi b).mpr (of_decide_eq_true (q i ((name_pos h hi a).mp hx)))
theorem some_name {l : Fnd} (h : FNm l) (a b : Str) : (∃ x ∈ namesOf l a, x ∈ namesOf l b) ↔ (posOf l a).any (fun i => decide (i ∈ posOf l b)) = true := by
  rw [List.any_eq_true]
  constructor
  · rintro ⟨x, hx, hb⟩
    obtain ⟨p, hp, rfl, hm⟩ := mem_namesOf.mp hx
    obtain ⟨i, hi⟩ := List.mem_iff_getElem?.mp hp
    exact ⟨i, (name_pos h hi a).mp hx, decide_eq_true ((name_pos h hi b).mp hb)⟩
  · rintro ⟨i, hi, hb⟩
    obtain ⟨p, hp, hm⟩ := mem_posOf.mp hi
    exact ⟨p.1, (name_pos h hp a).mpr hi, (name_pos h hp b).mpr (of_decide_eq_true hb)⟩
/-- the law's own test of two marks -/
def crossN (xs ys : List Str) : Bool := !(xs.filter fun x => decide (x ∈ ys)).isEmpty && decide ((xs.filter fun x => decide (x ∈ ys)).length < xs.length) && decide ((xs.filter fun x => decide (x ∈ ys)).length < ys.length)
theorem filter_all {α : Type} {f : α → Bool} {l : List α} : (l.filter f).length < l.length ↔ ¬ ∀ x ∈ l, f x = true := by
  constructor
  · intro h q
    rw [List.filter_eq_self.mpr q] at h
    exact Nat.lt_irrefl _ h
  · intro h
    have h1 := List.length_filter_le f l
    rcases Nat.lt_or_ge (l.filter f).length l.length with z | z
    · exact z
    · exact absurd (List.length_filter_eq_length_iff.mp (Nat.le_antisymm h1 z)) h
theorem both_len {xs ys : List Str} (h1 : xs.Nodup) (h2 : ys.Nodup) : (xs.filter fun x => decide (x ∈ ys)).length = (ys.filter fun y => decide (y ∈ xs)).length := by
  refine List.Perm.length_eq ((List.perm_ext_iff_of_nodup (List.Pairwise.sublist List.filter_sublist h1) (List.Pairwise.sublist List.filter_sublist h2)).mpr fun x => ?_)
  rw [List.mem_filter, List.mem_filter, decide_eq_true_eq, decide_eq_true_eq]
  exact And.comm
theorem crossN_eq {l : Fnd} (h : FNm l) (a b : Str) : crossN (namesOf l a) (namesOf l b) = crossB (posOf l a) (posOf l b) := by
  have e1 : (!((namesOf l a).filter fun x => decide (x ∈ namesOf l b)).isEmpty) = (posOf l a).any fun i => decide (i ∈ posOf l b) := by
    cases q : (posOf l a).any fun i => decide (i ∈ posOf l b) with
    | true =>
      obtain ⟨x, hx, hb⟩ := (some_name h a b).mpr q
      have : x ∈ (namesOf l a).filter fun x => decide (x ∈ namesOf l b) := List.mem_filter.mpr ⟨hx, decide_eq_true hb⟩
      cases z : (namesOf l a).filter fun x => decide (x ∈ namesOf l b) with
      | nil => rw [z] at this; cases this
      | cons y r => rfl
    | false =>
      cases z : (namesOf l a).filter fun x => decide (x ∈ namesOf l b) with
      | nil => rfl
      | cons y r =>
        have hy : y ∈ (namesOf l a).filter fun x => decide (x ∈ namesOf l b) := by rw [z]; exact List.mem_cons_self
        obtain ⟨h1, h2⟩ := List.mem_filter.mp hy
        rw [(some_name h a b).mp ⟨y, h1, of_decide_eq_true h2⟩] at q; cases q
  have dd : ∀ {P : Prop} [Decidable P] {c : Bool}, (P ↔ ¬ c = true) → decide P = !c := fun {P} _ {c} hh => by
    cases c with
    | true => exact decide_eq_false fun z => hh.mp z rfl
    | false => exact decide_eq_true (hh.mpr (by simp))
  have e2 : decide (((namesOf l a).filter fun x => decide (x ∈ namesOf l b)).length < (namesOf l a).length) = !inB (posOf l a) (posOf l b) := dd (by
    rw [filter_all, ← in_names h]
    exact not_congr ⟨fun q x hx => of_decide_eq_true (q x hx), fun q x hx => decide_eq_true (q x hx)⟩)
  have e3 : decide (((namesOf l a).filter fun x => decide (x ∈ namesOf l b)).length < (namesOf l b).length) = !inB (posOf l b) (posOf l a) := dd (by
    rw [both_len (namesOf_nd h a) (namesOf_nd h b), filter_all, ← in_names h]
    exact not_congr ⟨fun q x hx => of_decide_eq_true (q x hx), fun q x hx => decide_eq_true (q x hx)⟩)
  unfold crossN crossB
  rw [e1, e2, e3]
/-- the ranks, by numbers and names -/
theorem rank_lt {l : Fnd} {m o : Str} : tlt (rankT l o) (rankT l m) = decide ((posOf l m).length < (posOf l o).length ∨ ((posOf l m).length = (posOf l o).length ∧ o.cps.toList < m.cps.toList)) := by
  show HT.lexLt (1 :: (0 - ((posOf l o).length : Int)) :: 1 :: (cdS o.cps.toList ++ [0])) (1 :: (0 - ((posOf l m).length : Int)) :: 1 :: (cdS m.cps.toList ++ [0])) = _
  rw [HT.lexLt_cons, if_pos rfl, HT.lexLt_cons]
  by_cases c : (posOf l m).length = (posOf l o).length
  · rw [if_pos (by omega), HT.lexLt_cons, if_pos rfl]
    have : ¬ (posOf l m).length < (posOf l o).length := by omega
    by_cases e : o.cps.toList = m.cps.toList
    · rw [e, lex_same]
      have := List.lt_irrefl m.cps.toList
      rw [HT.lexLt_cons, if_pos rfl]
      simp_all [HT.lexLt]
    · rw [cdS_ne _ _ _ _ e]
      simp [c]
  · rw [if_neg (by omega)]
    by_cases d : (posOf l m).length < (posOf l o).length
    · rw [decide_eq_true (by omega), decide_eq_true (.inl d)]
    · rw [decide_eq_false (by omega), decide_eq_false]
      rintro (h | h)
      · exact d h
      · exact c h.1
theorem addS_len {ks : List Str} {m : Str} : (addS ks m).length ≤ ks.length + 1 := by
  unfold addS
  split
  · omega
  · simp
theorem Mks.add {l : Fnd} {n m : Str} {ms : List Str} {ks : List Str} (h : Mks (l ++ [(n, ms)]) ks) : Mks (l ++ [(n, ms ++ [m])]) (addS ks m) := by
  constructor
  · unfold addS
    split
    · exact h.nd
    · rename_i c
      exact List.nodup_append.mpr ⟨h.nd, by simp, fun a ha b hb e => c (by rw [← List.mem_singleton.mp hb, ← e]; exact ha)⟩
  · intro x
    rw [mem_addS, h.mem x]
    simp only [List.mem_append, List.mem_singleton]
    constructor
    · rintro (⟨p, hp | rfl, hx⟩ | rfl)
      · exact ⟨p, .inl hp, hx⟩
      · exact ⟨_, .inr rfl, List.mem_append_left _ hx⟩
      · exact ⟨_, .inr rfl, by simp⟩
    · rintro ⟨p, hp | rfl, hx⟩
      · exact .inl ⟨p, .inl hp, hx⟩
      · rcases List.mem_append.mp hx with z | z
        · exact .inl ⟨_, .inr rfl, z⟩
        · exact .inr (List.mem_singleton.mp z)
theorem names_none {l : Fnd} {m : Str} (h : ∀ p ∈ l, m ∉ p.2) : namesOf l m = [] := by
  unfold namesOf
  rw [List.filter_eq_nil_iff.mpr]
  · rfl
  · intro p hp z
    exact h p hp (of_decide_eq_true z)
theorem names_idle {l : Fnd} {n m : Str} : namesOf (l ++ [(n, [])]) m = namesOf l m := by rw [namesOf_app]; simp
theorem names_old {l : Fnd} {n m : Str} {ms : List Str} (h : m ∉ ms) : namesOf (l ++ [(n, ms)]) m = namesOf l m := by rw [namesOf_app]; simp [h]
theorem names_new {l : Fnd} {n m : Str} {ms : List Str} (h : m ∈ ms) : namesOf (l ++ [(n, ms)]) m = namesOf l m ++ [n] := by rw [namesOf_app]; simp [h]
theorem names_len {l : Fnd} {m : Str} : (namesOf l m).length ≤ l.length := by rw [namesOf_len]; exact posOf_len
theorem OutOf_iff {l : Fnd} {m o : Str} : OutOf l m o ↔ inB (posOf l m) (posOf l o) = true ∧ ((namesOf l m).length < (namesOf l o).length ∨ ((namesOf l m).length = (namesOf l o).length ∧ o.cps.toList < m.cps.toList)) := by
  unfold OutOf
  rw [rank_lt, namesOf_len, namesOf_len, decide_eq_true_eq]
theorem out_skip {l : Fnd} {pre : List Str} {m o : Str} {best : Option Str} (h : IsOut l pre m best) (ho : ¬ OutOf l m o) : IsOut l (pre ++ [o]) m best := by
  cases best with
  | none =>
    intro x hx
    rcases List.mem_append.mp hx with z | z
    · exact h x z
    · rw [List.mem_singleton.mp z]; exact ho
  | some b =>
    obtain ⟨h1, h2, h3⟩ := h
    refine ⟨List.mem_append_left _ h1, h2, fun x hx hxo => ?_⟩
    rcases List.mem_append.mp hx with z | z
    · exact h3 x z hxo
    · rw [List.mem_singleton.mp z] at hxo; exact absurd hxo ho
theorem out_keep {l : Fnd} {pre : List Str} {m o b : Str} (h : IsOut l pre m (some b)) (hb : ¬ (namesOf l o).length ≤ (namesOf l b).length) : IsOut l (pre ++ [o]) m (some b) := by
  obtain ⟨h1, h2, h3⟩ := h
  refine ⟨List.mem_append_left _ h1, h2, fun x hx hxo => ?_⟩
  rcases List.mem_append.mp hx with z | z
  · exact h3 x z hxo
  · rw [List.mem_singleton.mp z, rank_lt]
    rw [namesOf_len, namesOf_len] at hb
    exact decide_eq_false (by omega)
theorem out_take {l : Fnd} {pre : List Str} {m o : Str} {best : Option Str} (h : IsOut l pre m best) (hs : ∀ x ∈ pre, x.cps.toList < o.cps.toList) (ho : OutOf l m o) (hb : ∀ b, best = some b → (namesOf l o).length ≤ (namesOf l b).length) : IsOut l (pre ++ [o]) m (some o) := by
  refine ⟨by simp, ho, fun x hx hxo => ?_⟩
  rcases List.mem_append.mp hx with z | z
  · cases best with
    | none => exact absurd hxo (h x z)
    | some b =>
      have h3 := h.2.2 x z hxo
      have hb := hb b rfl
      rw [rank_lt] at h3 ⊢
      rw [namesOf_len, namesOf_len] at hb
      have h3 := of_decide_eq_false h3
      refine decide_eq_false fun w => ?_
      rcases w with w | w
      · exact h3 (.inl (by omega))
      · exact List.lt_irrefl _ (List.lt_trans w.2 (hs x z))
  · rw [List.mem_singleton.mp z]; exact tlt_irr _
theorem holds_in {l : Fnd} (h : FNm l) (a b : Str) : ((namesOf l a).filter fun x => !decide (x ∈ namesOf l b)).isEmpty = inB (posOf l a) (posOf l b) := by
  rw [Bool.eq_iff_iff, ← in_names h, List.isEmpty_iff, List.filter_eq_nil_iff]
  constructor
  · intro q x hx
    have := q x hx
    by_cases c : x ∈ namesOf l b
    · exact c
    · rw [decide_eq_false c] at this; exact absurd rfl this
  · intro q x hx
    rw [decide_eq_true (q x hx)]; decide
/-- the pairs of a list, in order -/
def prs : List Str → List (Str × Str)
  | [] => []
  | x :: r => r.map (fun y => (x, y)) ++ prs r
/-- the first pair that crosses -/
def crossL (l : Fnd) (ys : List Str) : Option (Str × Str) := (prs ys).find? fun p => crossB (posOf l p.1) (posOf l p.2)
def pairT : Option (Str × Str) → T
  | none => .non
  | some p => .tup [.str p.1, .str p.2]
def aroundT (ys : List Str) (os : List (Option Str)) : List T := List.zipWith (fun m o => T.tup [.str m, optS o]) ys os

/-! ### drawing found pieces -/
def MK6 : List Str := ["ink", "jot", "key", "lip", "mud", "nib"]
def NM8 : List Str := ["ann", "bo", "cy", "dee", "eli", "fay", "gus", "hal"]
theorem MK6_ok : ∀ x ∈ MK6, nameOk x = true := by
  intro x hx
  simp only [MK6, List.mem_cons, List.not_mem_nil, or_false] at hx
  rcases hx with rfl | rfl | rfl | rfl | rfl | rfl <;> decide +kernel
theorem NM8_ok : ∀ x ∈ NM8, nameOk x = true := by
  intro x hx
  simp only [NM8, List.mem_cons, List.not_mem_nil, or_false] at hx
  rcases hx with rfl | rfl | rfl | rfl | rfl | rfl | rfl | rfl <;> decide +kernel
theorem MK6_nd : MK6.Nodup := by decide +kernel
theorem NM8_nd : NM8.Nodup := by decide +kernel
/-- the dict of lists while it is drawn -/
structure FS (b : Addr) (G : Gp) (q d : Addr) (N : List Str) (A : Str → Addr) (f : Str → List Str) : Prop where
  hq : G q = some (.lst (N.map T.str))
  qb : q ≠ b
  hd : G d = some (.dK (kvOf N fun n => .ref (A n)))
  db : d ≠ b
  hA : ∀ n ∈ N, G (A n) = some (.lst ((f n).map T.str))
  Ab : ∀ n ∈ N, A n ≠ b
  Aq : ∀ n ∈ N, A n ≠ q
  inj : ∀ n ∈ N, ∀ m ∈ N, A n = A m → n = m
theorem FS.bt {b : Addr} {G G' : Gp} {q d : Addr} {N : List Str} {A : Str → Addr} {f : Str → List Str} (h : FS b G q d N A f) (t : BT b G G') : FS b G' q d N A f :=
  ⟨t.get h.qb h.hq, h.qb, t.get h.db h.hd, h.db, fun n hn => t.get (h.Ab n hn) (h.hA n hn), h.Ab, h.Aq, h.inj⟩
theorem FS.put {b : Addr} {G : Gp} {q d : Addr} {N : List Str} {A : Str → Addr} {f : Str → List Str} (h : FS b G q d N A f) {n : Str} (hn : n ∈ N) (m : Str) : FS b (gput G (A n) (.lst ((f n).map T.str ++ [.str m]))) q d N A (fun x => if x = n then f x ++ [m] else f x) := by
  have nd : d ≠ A n := fun z => by
    have := h.hA n hn
    rw [← z, h.hd] at this; cases this
  refine ⟨(gput_ne (h.Aq n hn).symm).trans h.hq, h.qb, (gput_ne nd).trans h.hd, h.db, fun x hx => ?_, h.Ab, h.Aq, h.inj⟩
  by_cases e : x = n
  · subst e
    rw [gput_same, if_pos rfl, List.map_append]; rfl
  · rw [if_neg e, gput_ne fun z => e (h.inj x hx n hn z)]
    exact h.hA x hx
theorem FS.new {b p : Addr} {G : Gp} {q d : Addr} {N : List Str} {A : Str → Addr} {f : Str → List Str} {o : GO} (h : FS b G q d N A f) (hp : G p = none) : FS b (gput G p o) q d N A f :=
  have s : Sub G (gput G p o) := (Sub.refl _).new hp
  ⟨s _ _ h.hq, h.qb, s _ _ h.hd, h.db, fun n hn => s _ _ (h.hA n hn), h.Ab, h.Aq, h.inj⟩
/-- the groups of names -/
structure GS (b : Addr) (G : Gp) (N : List Str) (A : Str → Addr) (gs : List Addr) : Prop where
  ls : ∀ a ∈ gs, ∃ ns : List Str, G a = some (.lst (ns.map T.str)) ∧ ns.Sublist N
  ne : ∀ a ∈ gs, a ≠ b ∧ ∀ n ∈ N, A n ≠ a
theorem GS.bt {b : Addr} {G G' : Gp} {N : List Str} {A : Str → Addr} {gs : List Addr} (h : GS b G N A gs) (t : BT b G G') : GS b G' N A gs :=
  ⟨fun a ha => by
    obtain ⟨ns, e, s⟩ := h.ls a ha
    exact ⟨ns, t.get (h.ne a ha).1 e, s⟩, h.ne⟩
theorem GS.put {b : Addr} {G : Gp} {N : List Str} {A : Str → Addr} {gs : List Addr} (h : GS b G N A gs) {n : Str} (hn : n ∈ N) (o : GO) : GS b (gput G (A n) o) N A gs :=
  ⟨fun a ha => by
    obtain ⟨ns, e, s⟩ := h.ls a ha
    exact ⟨ns, (gput_ne ((h.ne a ha).2 n hn).symm).trans e, s⟩, h.ne⟩
theorem GS.new {b p : Addr} {G : Gp} {N : List Str} {A : Str → Addr} {gs : List Addr} {o : GO} (h : GS b G N A gs) (hp : G p = none) : GS b (gput G p o) N A gs :=
  ⟨fun a ha => by
    obtain ⟨ns, e, s⟩ := h.ls a ha
    exact ⟨ns, ((Sub.refl G).new hp) _ _ e, s⟩, h.ne⟩
theorem GS.sub {b : Addr} {G : Gp} {N : List Str} {A : Str → Addr} {gs hs : List Addr} (h : GS b G N A gs) (s : ∀ a ∈ hs, a ∈ gs) : GS b G N A hs :=
  ⟨fun a ha => h.ls a (s a ha), fun a ha => h.ne a (s a ha)⟩
theorem GS.add {b : Addr} {G : Gp} {N : List Str} {A : Str → Addr} {gs : List Addr} (h : GS b G N A gs) {a : Addr} {ns : List Str} (e : G a = some (.lst (ns.map T.str))) (s : ns.Sublist N) (ab : a ≠ b) (An : ∀ n ∈ N, A n ≠ a) : GS b G N A (gs ++ [a]) :=
  ⟨fun x hx => by
    rcases List.mem_append.mp hx with z | z
    · exact h.ls x z
    · rw [List.mem_singleton.mp z]; exact ⟨ns, e, s⟩, fun x hx => by
    rcases List.mem_append.mp hx with z | z
    · exact h.ne x z
    · rw [List.mem_singleton.mp z]; exact ⟨ab, An⟩⟩
theorem FS.fresh {b : Addr} {G : Gp} {q d : Addr} {N : List Str} {A : Str → Addr} {f : Str → List Str} (h : FS b G q d N A f) {p : Addr} (hp : G p = none) : ∀ n ∈ N, A n ≠ p := fun n hn => gne (h.hA n hn) hp
theorem sub_nd {l m : List Str} (h : l.Sublist m) (n : m.Nodup) : l.Nodup := List.Pairwise.sublist h n
theorem mks_few {l : Fnd} (h : ∀ p ∈ l, ∀ y ∈ p.2, y ∈ MK6) {ks : List Str} (k : Mks l ks) : ks.length < 64 := by
  have : ks.length ≤ MK6.length := List.Nodup.length_le_of_subset k.nd fun x hx => by
    obtain ⟨p, hp, hm⟩ := (k.mem x).mp hx
    exact h p hp x hm
  have e : MK6.length = 6 := rfl
  omega
theorem BT.mutN {b D : Addr} {G0 G1 G : Gp} {o : GO} (t : BT b G0 G) (t1 : BT b G0 G1) (hD : G1 D = none) : BT b G0 (gput G D o) := by
  obtain ⟨c1, c2, ok, s⟩ := t
  obtain ⟨d1, d2, ok2, s2⟩ := t1
  refine ⟨c1, c2, ok, s.mut ?_⟩
  have nb : D ≠ b := fun z => by
    rw [z, s2 _ _ gput_same] at hD; cases hD
  rw [gput_ne nb]
  cases h : G0 D with
  | none => rfl
  | some o =>
    rw [s2 _ _ ((gput_ne nb).trans h)] at hD; cases hD
theorem take_nd {l : List Str} (h : l.Nodup) {k : Nat} {n : Str} (hn : l[k]? = some n) : n ∉ l.take k := fun z => by
  obtain ⟨a, ha⟩ := List.mem_iff_getElem?.mp z
  rw [List.getElem?_take] at ha
  split at ha
  · rename_i lt
    obtain ⟨ha1, ha2⟩ := List.getElem?_eq_some_iff.mp ha
    obtain ⟨hb1, hb2⟩ := List.getElem?_eq_some_iff.mp hn
    have := (List.getElem_inj h).mp (ha2.trans hb2.symm)
    omega
  · cases ha
theorem FS.off {b p : Addr} {G : Gp} {q d : Addr} {N : List Str} {A : Str → Addr} {f : Str → List Str} {o : GO} (h : FS b G q d N A f) (hq : p ≠ q) (hd : p ≠ d) (hA : ∀ n ∈ N, A n ≠ p) : FS b (gput G p o) q d N A f :=
  ⟨(gput_ne hq.symm).trans h.hq, h.qb, (gput_ne hd.symm).trans h.hd, h.db, fun n hn => (gput_ne (hA n hn)).trans (h.hA n hn), h.Ab, h.Aq, h.inj⟩
theorem GS.off {b p : Addr} {G : Gp} {N : List Str} {A : Str → Addr} {gs : List Addr} {o : GO} (h : GS b G N A gs) (hp : ∀ a ∈ gs, a ≠ p) : GS b (gput G p o) N A gs :=
  ⟨fun a ha => by
    obtain ⟨ns, e, s⟩ := h.ls a ha
    exact ⟨ns, (gput_ne (hp a ha)).trans e, s⟩, h.ne⟩
theorem GS.fresh {b : Addr} {G : Gp} {N : List Str} {A : Str → Addr} {gs : List Addr} (h : GS b G N A gs) {p : Addr} (hp : G p = none) : ∀ a ∈ gs, a ≠ p := fun a ha => by
  obtain ⟨ns, e, _⟩ := h.ls a ha
  exact gne e hp
/-- the lists that a turn of the loop leaves alone -/
structure LS (b : Addr) (G : Gp) (N : List Str) (A : Str → Addr) (p : Addr) (ts : List T) : Prop where
  at_ : G p = some (.lst ts)
  pb : p ≠ b
  Ap : ∀ n ∈ N, A n ≠ p
theorem LS.bt {b : Addr} {G G' : Gp} {N : List Str} {A : Str → Addr} {p : Addr} {ts : List T} (h : LS b G N A p ts) (t : BT b G G') : LS b G' N A p ts := ⟨t.get h.pb h.at_, h.pb, h.Ap⟩
theorem LS.new {b r : Addr} {G : Gp} {N : List Str} {A : Str → Addr} {p : Addr} {ts : List T} {o : GO} (h : LS b G N A p ts) (hr : G r = none) : LS b (gput G r o) N A p ts := ⟨((Sub.refl G).new hr) _ _ h.at_, h.pb, h.Ap⟩
theorem LS.put {b : Addr} {G : Gp} {N : List Str} {A : Str → Addr} {p : Addr} {ts : List T} (h : LS b G N A p ts) {n : Str} (hn : n ∈ N) (o : GO) : LS b (gput G (A n) o) N A p ts := ⟨(gput_ne (h.Ap n hn).symm).trans h.at_, h.pb, h.Ap⟩
theorem LS.off {b r : Addr} {G : Gp} {N : List Str} {A : Str → Addr} {p : Addr} {ts : List T} {o : GO} (h : LS b G N A p ts) (hr : p ≠ r) : LS b (gput G r o) N A p ts := ⟨(gput_ne hr).trans h.at_, h.pb, h.Ap⟩
/-- found pieces as they are drawn -/
structure FAll (l : Fnd) : Prop where
  ok : FOk l
  nm : FNm l
  len : l.length ≤ 8
  mks : ∀ p ∈ l, ∀ y ∈ p.2, y ∈ MK6
theorem name_dat {av : List Addr} {G : Gp} {n : Nat} {x : Str} (h : nameOk x = true) : Dat av G 0 n (.str x) := Dat.str.mpr (by
  unfold nameOk at h
  simp only [Bool.and_eq_true, decide_eq_true_eq] at h
  have := h.1.2
  show x.length + 100 ≤ 150 * 1
  omega)
theorem fp_dat {av : List Addr} {G : Gp} {l : Fnd} (h : FAll l) : ∀ p ∈ l, Dat av G 0 2 (fpT p) := fun p hp => by
  obtain ⟨h1, h2, h3⟩ := h.ok.nm p hp
  refine ⟨by show 2 ≤ 400 + 0; decide, fun t ht => ?_⟩
  simp only [List.mem_cons, List.not_mem_nil, or_false] at ht
  rcases ht with rfl | rfl
  · exact name_dat (h.nm.nm p hp)
  · refine ⟨by rw [List.length_map]; omega, fun t ht => ?_⟩
    obtain ⟨y, hy, rfl⟩ := List.mem_map.mp ht
    exact name_dat (h1 y hy)
theorem fps_dat {av : List Addr} {G : Gp} {l : Fnd} (h : FAll l) : ∀ t ∈ l.map fpT, Dat av G 0 2 t := fun t ht => by
  obtain ⟨p, hp, rfl⟩ := List.mem_map.mp ht
  exact fp_dat h p hp
theorem mem_prs {p : Str × Str} : ∀ {l : List Str}, p ∈ prs l → p.1 ∈ l ∧ p.2 ∈ l
  | [], h => by cases h
  | x :: r, h => by
    unfold prs at h
    rcases List.mem_append.mp h with h | h
    · obtain ⟨y, hy, rfl⟩ := List.mem_map.mp h
      exact ⟨List.mem_cons_self, List.mem_cons_of_mem _ hy⟩
    · obtain ⟨a, b⟩ := mem_prs h
      exact ⟨List.mem_cons_of_mem _ a, List.mem_cons_of_mem _ b⟩
theorem pair_ok {l : Fnd} {ys : List Str} (h : ∀ x ∈ ys, nameOk x = true) : okT (pairT (crossL l ys)) = true ∧ dpT (pairT (crossL l ys)) ≤ 50 := by
  cases e : crossL l ys with
  | none => exact ⟨rfl, by show 0 ≤ 50; decide⟩
  | some p =>
    obtain ⟨a, b⟩ := mem_prs (List.mem_of_find?_eq_some e)
    constructor
    · show (okT (.str p.1) && (okT (.str p.2) && true)) = true
      rw [nameOk_str (h _ a), nameOk_str (h _ b)]; rfl
    · show max 0 (max 0 0) + 1 ≤ 50
      decide
theorem around_ok {l : Fnd} {ys : List Str} {os : List (Option Str)} (h : ∀ x ∈ ys, nameOk x = true) (ho : ∀ (i : Nat) (m : Str) (o : Option Str), ys[i]? = some m → os[i]? = some o → IsOut l ys m o) : eqOks (aroundT ys os) = true := eqOks_of fun x hx => by
  unfold aroundT at hx
  obtain ⟨i, hi⟩ := List.mem_iff_getElem?.mp hx
  rw [List.getElem?_zipWith] at hi
  cases e1 : ys[i]? with
  | none => rw [e1] at hi; cases hi
  | some m =>
    cases e2 : os[i]? with
    | none => rw [e1, e2] at hi; cases hi
    | some o =>
      rw [e1, e2] at hi
      have hi : T.tup [.str m, optS o] = x := Option.some.inj hi
      rw [← hi]
      have h1 := h m (List.mem_of_getElem? e1)
      have h2 := ho i m o e1 e2
      cases o with
      | none =>
        constructor
        · show (okT (.str m) && (true && true)) = true
          rw [nameOk_str h1]; rfl
        · show max 0 (max 0 0) + 1 ≤ 50
          decide
      | some o =>
        constructor
        · show (okT (.str m) && (okT (.str o) && true)) = true
          rw [nameOk_str h1, nameOk_str (h o h2.1)]; rfl
        · show max 0 (max 0 0) + 1 ≤ 50
          decide
theorem mks_same {l : Fnd} {ks ys : List Str} (ho : FOk l) (h1 : Mks l ks) (h2 : Mks l ys) (s1 : SrtS ks) (s2 : SrtS ys) : ks = ys :=
  SrtS.uniq (h1.names ho) (.refl _) (perm_same h2.nd h1.nd fun x => (h2.mem x).trans (h1.mem x).symm) s1 s2
theorem outs_same {l : Fnd} {ys : List Str} {os ps : List (Option Str)} (ho : FOk l) (h1 : Mks l ys) (l1 : os.length = ys.length) (l2 : ps.length = ys.length) (o1 : ∀ (i : Nat) (m : Str) (o : Option Str), ys[i]? = some m → os[i]? = some o → IsOut l ys m o) (o2 : ∀ (i : Nat) (m : Str) (o : Option Str), ys[i]? = some m → ps[i]? = some o → IsOut l ys m o) : os = ps := by
  refine List.ext_getElem (l1.trans l2.symm) fun i h1' h2' => ?_
  have hy : i < ys.length := by omega
  exact IsOut.uniq h1 h1 ho (o1 i ys[i] os[i] (List.getElem?_eq_getElem hy) (List.getElem?_eq_getElem h1')) (o2 i ys[i] ps[i] (List.getElem?_eq_getElem hy) (List.getElem?_eq_getElem h2'))

--USE data isl lines names marks mark2 fnd LW26 @gm
theorem letter_dec (c : Nat) : (decide (97 ≤ c) && decide (c ≤ 122)) = decide (c ∈ ("abcdefghijklmnopqrstuvwxyz" : Str).cps.toList) := by
  by_cases h : 97 ≤ c ∧ c ≤ 122
  · rw [decide_eq_true h.1, decide_eq_true h.2, decide_eq_true (letters h.1 h.2)]; rfl
  · have : ¬ c ∈ ("abcdefghijklmnopqrstuvwxyz" : Str).cps.toList := fun z => by
      have k : ∀ c ∈ ("abcdefghijklmnopqrstuvwxyz" : Str).cps.toList, 97 ≤ c ∧ c ≤ 122 := by decide +kernel
      exact h (k c z)
    rw [decide_eq_false this]
    by_cases h1 : 97 ≤ c
    · have h2 : ¬ c ≤ 122 := fun z => h ⟨h1, z⟩
      simp [h1, h2]
    · simp [h1]

def sp_is_name : QSp := fun ts G Q _ => ∃ t : T, ts = [t] ∧ AnyT G t ∧ (∀ x, t = .str x → x.length ≤ 100000) ∧ Q (.bl (isNm t)) G
def sp_are_rising : QSp := fun ts G Q _ => ∃ (t : T) (xs : List Str), ts = [t] ∧ (t = .tup (xs.map T.str) ∨ ∃ a, t = .ref a ∧ G a = some (.lst (xs.map T.str))) ∧ xs.length ≤ 1000 ∧ Q (.bl (upS xs)) G
def sp_are_found : QSp := fun ts G Q _ => ∃ (t : T) (av : List Addr) (k n : Nat), ts = [t] ∧ k ≤ 5 ∧ Dat av G k n t ∧ Q (.bl (isFound t)) G
def sp_having : QSp := fun ts G Q _ => ∃ l : Fnd, ts = [fndT l] ∧ FOk l ∧ ∀ ks, Mks l ks → ks.length ≤ 5000 → ∀ p, G p = none → Q (.ref p) (gput G p (.dK (hvK l ks)))
def sp_is_in : QSp := fun ts G Q _ => ∃ a b : List Nat, ts = [natsT a, natsT b] ∧ a.length ≤ 1000 ∧ Q (.bl (inB a b)) G
def sp_do_cross : QSp := fun ts G Q _ => ∃ a b : List Nat, ts = [natsT a, natsT b] ∧ a.length ≤ 1000 ∧ b.length ≤ 1000 ∧ Q (.bl (crossB a b)) G
def sp_crossing : QSp := fun ts G Q _ => ∃ l : Fnd, ts = [fndT l] ∧ FOk l ∧ (∀ ks, Mks l ks → ks.length < 64) ∧ ∀ ys G', Mks l ys → SrtS ys → Sub G G' → Q (pairT (crossL l ys)) G'
def sp_rank : QSp := fun ts G Q _ => ∃ (d : Addr) (l : Fnd) (ks : List Str) (m : Str), ts = [.ref d, .str m] ∧ DRd G d (hvK l ks) ∧ m ∈ ks ∧ Q (rankT l m) G
def sp_around : QSp := fun ts G Q _ => ∃ l : Fnd, ts = [fndT l] ∧ FOk l ∧ (∀ ks, Mks l ks → ks.length < 64) ∧ ∀ ys G' p (os : List (Option Str)), Mks l ys → SrtS ys → os.length = ys.length → (∀ (i : Nat) (m : Str) (o : Option Str), ys[i]? = some m → os[i]? = some o → IsOut l ys m o) → Sub G G' → G' p = some (.lst (aroundT ys os)) → Q (.ref p) G'
def sp_law_bag : QSp := fun ts G Q _ => match ts with
  | [.scr ns, .int k] => (0 ≤ k ∧ k ≤ 100 ∧ ns.length ≤ 63) ∧ ∀ p c1 c2, G p = none → BOk c1 c2 → Q (.ref p) (gput G p (bagO c1 c2))
  | _ => False
def sp_law_take : QSp := fun ts G Q _ => match ts with
  | [.ref b, .int m] => (Bag G b ∧ 0 < m ∧ m ≤ 2000000) ∧ ∀ r G', 0 ≤ r → r < m → BagTo b G G' → Q (.int r) G'
  | _ => False
def sp_law_is_name : QSp := fun ts G Q _ => ∃ t : T, ts = [t] ∧ AnyT G t ∧ (∀ x, t = .str x → x.length ≤ 100000) ∧ Q (.bl (isNm t)) G
def sp_law_odd : QSp := fun ts G Q _ => ∃ (b : Addr) (av : List Addr), ts = [.ref b] ∧ b ∈ av ∧ Known av G ∧ Bag G b ∧ ∀ y G', BT b G G' → Dat av G' 1 3 y → Q y G'
def sp_law_spoilt (n : Nat) : QSp := fun ts G Q _ => ∃ (b : Addr) (av : List Addr) (x : T) (m k : Nat), ts = [.ref b, x] ∧ m < n ∧ k ≤ 5 ∧ b ∈ av ∧ Known av G ∧ Bag G b ∧ Dat av G k m x ∧ ∀ y G', BT b G G' → Dat av G' (k + 1) (m + 3) y → Q y G'
theorem sp_law_spoilt_none {ts : List T} {G : Gp} {Q : TK} {E : XQ} : ¬ sp_law_spoilt 0 ts G Q E := by
  rintro ⟨_, _, _, m, _, _, h, _⟩
  omega
def sp_law_found : QSp := fun ts G Q _ => ∃ (b : Addr) (x : T), ts = [.ref b, x] ∧ (x = .bl true ∨ x = .bl false) ∧ Bag G b ∧ ∀ (l : Fnd) G', FOk l → FNm l → l.length ≤ 8 → (∀ p ∈ l, ∀ y ∈ p.2, y ∈ MK6) → BT b G G' → Q (fndT l) G'
def sp_law_having : QSp := fun ts G Q _ => ∃ l : Fnd, ts = [fndT l] ∧ FOk l ∧ ∀ ks (A : Str → Addr) p G', Mks l ks → ks.length ≤ 5000 → Sub G G' → G' p = some (.dK (kvOf ks fun m => .ref (A m))) → (∀ m ∈ ks, G' (A m) = some (.lst ((namesOf l m).map T.str))) → Q (.ref p) G'
def sp_law_cross : QSp := fun ts G Q _ => ∃ (a b : Addr) (xs ys : List Str), ts = [.ref a, .ref b] ∧ G a = some (.lst (xs.map T.str)) ∧ G b = some (.lst (ys.map T.str)) ∧ xs.length ≤ 1000 ∧ ys.length ≤ 1000 ∧ (∀ x ∈ xs, nameOk x = true) ∧ (∀ x ∈ ys, nameOk x = true) ∧ ∀ G', Sub G G' → Q (.bl (crossN xs ys)) G'
def sp_law_crossing : QSp := fun ts G Q _ => ∃ l : Fnd, ts = [fndT l] ∧ FOk l ∧ FNm l ∧ (∀ ks, Mks l ks → ks.length < 64) ∧ ∀ ys G', Mks l ys → SrtS ys → Sub G G' → Q (pairT (crossL l ys)) G'
def sp_law_are_found : QSp := fun ts G Q _ => ∃ (t : T) (av : List Addr) (k n : Nat), ts = [t] ∧ k ≤ 5 ∧ Dat av G k n t ∧ Q (.bl (isFound t)) G
def sp_law_around : QSp := fun ts G Q _ => ∃ l : Fnd, ts = [fndT l] ∧ FOk l ∧ FNm l ∧ (∀ ks, Mks l ks → ks.length < 64) ∧ ∀ ys G' p (os : List (Option Str)), Mks l ys → SrtS ys → os.length = ys.length → (∀ (i : Nat) (m : Str) (o : Option Str), ys[i]? = some m → os[i]? = some o → IsOut l ys m o) → Sub G G' → G' p = some (.lst (aroundT ys os)) → Q (.ref p) G'
abbrev s_is_name : Stmt := topS 2
abbrev N_is_name : List Str := ["thing", "sign"]
theorem sc_is_name : FnScope N_is_name ["thing"] (defScope s_is_name) := ⟨rfl, rfl, rfl, by decide +kernel, rfl, by decide +kernel, by decide +kernel⟩
set_option maxHeartbeats 4000000 in
theorem ok_is_name {P : Program} {w : World} {K : PySem.W.Frag} {mg : Str → Option Value} {base : Heap} (F : FunAt K mg "is_name" "is_name" s_is_name ["thing"]) (TX : Txt K mg)  :
    DefOk P w K mg base 1 "is_name" ["thing"] sp_is_name := by
  refine okd F sc_is_name (fun ts G Q E h => ?len) (fun f cdv A outer s H E hr => ss_one (s_ret (e_and (e_callB b_isi (by rfl) TX.n_isinstance (by decide +kernel) (a_cons (e_var 0) (a_cons (e_ty .str (by rfl) TX.n_str (by decide +kernel)) a_nil))) (e_and (e_chain o_le o_le (e_int) (e_callB b_len (by rfl) TX.n_len (by decide +kernel) (a_cons (e_var 0) a_nil)) (e_int)) (pe_one (e_callB (b_all rfl) (by rfl) TX.n_all (by decide +kernel) (a_cons (e_lc (own := [("sign", 1)]) rfl sc_is_name.nd (i_str (e_var 0)) (blkOk_by (N := N_is_name) (sc := defScope s_is_name) (own := [("sign", 1)]) (by decide +kernel)) (fun _ _ _ _ _ => g_name (i := 1) sc_is_name.nd rfl (by first | exact Or.inl rfl | exact Or.inr rfl)) (fun _ _ _ _ _ => ts_nil) (fun _ _ _ _ _ => e_cmp o_inS (e_var 1) (e_glS (by rfl) TX.c_LETTERS) rfl)) a_nil)))))))
    (fun ts G Q E h => ?run)
  case len => obtain ⟨x, rfl, _⟩ := h; rfl
  case run =>
    obtain ⟨t, rfl, hx, hl, hQ⟩ := h
    cases t with
    | str x =>
      have hl := hl x rfl
      refine ⟨fun _ => ?_, fun c => (by cases c)⟩
      refine ⟨hl, fun c1 => ⟨fun c2 => ?_, fun c2 => ?_⟩, fun c1 => ?_⟩
      · have c1 := of_decide_eq_true c1
        have c2 := of_decide_eq_true c2
        have hz : (signsT x).length = x.length := by unfold signsT Str.length; simp
        refine fun D hD => ⟨by omega, fun k acc G' => acc = ((x.cps.toList.take k).map fun c => T.bl (decide (c ∈ ("abcdefghijklmnopqrstuvwxyz" : Str).cps.toList))) ∧ Sub G G' ∧ G' D = some (.lst acc) ∧ acc.length ≤ k, ⟨by simp, (Sub.refl _).new hD, gput_same, by simp⟩, ?_, ?_, ?_⟩
        · rintro k acc G' hk ⟨rfl, s, e, z⟩
          exact ⟨trivial, e, z⟩
        · rintro k t acc G' ht ⟨rfl, s, e, z⟩
          obtain ⟨c, hc, rfl⟩ := map_at ht
          refine ⟨fun _ => ?_, fun c => (by cases c)⟩
          refine ⟨c, rfl, e, _, Sub.refl _, ?_, s.mut hD, gput_same, by rw [List.length_append]; exact Nat.succ_le_succ z⟩
          rw [take_one hc, List.map_append, Bool.false_bne]; rfl
        · rintro acc G' ⟨rfl, s, e, z⟩
          refine ⟨x.cps.toList.map fun c => decide (c ∈ ("abcdefghijklmnopqrstuvwxyz" : Str).cps.toList), ?_, ?_⟩
          · rw [e, show (signsT x).length = x.cps.toList.length by unfold signsT; simp, List.take_length, List.map_map]; rfl
          refine ⟨G, s, ?_⟩
          have : isNm (.str x) = (x.cps.toList.map fun c => decide (c ∈ ("abcdefghijklmnopqrstuvwxyz" : Str).cps.toList)).all id := by
            show nameOk x = _
            unfold nameOk
            rw [decide_eq_true (by omega : 1 ≤ x.length), decide_eq_true (by omega : x.length ≤ 8), Bool.true_and, Bool.true_and, List.all_map]
            rw [show (fun c => decide (97 ≤ c) && decide (c ≤ 122)) = fun c => decide (c ∈ ("abcdefghijklmnopqrstuvwxyz" : Str).cps.toList) from funext letter_dec]
            rfl
          rw [← this]
          exact hQ
      · have c2 := of_decide_eq_false c2
        have : isNm (.str x) = false := by
          show nameOk x = false
          unfold nameOk
          rw [decide_eq_false (by omega : ¬ x.length ≤ 8)]; simp
        rw [this] at hQ
        exact ⟨G, Sub.refl _, hQ⟩
      · have c1 := of_decide_eq_false c1
        have : isNm (.str x) = false := by
          show nameOk x = false
          unfold nameOk
          rw [decide_eq_false (by omega : ¬ 1 ≤ x.length)]; simp
        rw [this] at hQ
        exact ⟨fun c => (by cases c), fun _ => ⟨G, Sub.refl _, hQ⟩⟩
    | ref a =>
      obtain ⟨xs, hg⟩ := hx
      exact ⟨xs, hg, fun c => (by cases c), fun _ => ⟨G, Sub.refl _, hQ⟩⟩
    | ty _ => exact hx.elim
    | scr _ => exact hx.elim
    | _ => exact ⟨fun c => (by cases c), fun _ => ⟨G, Sub.refl _, hQ⟩⟩
abbrev s_are_rising : Stmt := topS 3
abbrev N_are_rising : List Str := ["some", "one", "other"]
theorem sc_are_rising : FnScope N_are_rising ["some"] (defScope s_are_rising) := ⟨rfl, rfl, rfl, by decide +kernel, rfl, by decide +kernel, by decide +kernel⟩
set_option maxHeartbeats 4000000 in
theorem ok_are_rising {P : Program} {w : World} {K : PySem.W.Frag} {mg : Str → Option Value} {base : Heap} (F : FunAt K mg "are_rising" "are_rising" s_are_rising ["some"]) (TX : Txt K mg)  :
    DefOk P w K mg base 1 "are_rising" ["some"] sp_are_rising := by
  refine okd F sc_are_rising (fun ts G Q E h => ?len) (fun f cdv A outer s H E hr => ss_one (s_ret (e_callB (b_all rfl) (by rfl) TX.n_all (by decide +kernel) (a_cons (e_lc (own := [("one", 1), ("other", 2)]) rfl sc_are_rising.nd (i_zip (by rfl) TX.n_zip (a_cons (e_var 0) (a_cons (e_slice sl_seq (e_var 0) (o_some (e_int)) (o_none)) a_nil))) (blkOk_by (N := N_are_rising) (sc := defScope s_are_rising) (own := [("one", 1), ("other", 2)]) (by decide +kernel)) (fun _ _ _ _ _ => g_tup (n := 2) rfl (gs_cons (g_name (i := 1) sc_are_rising.nd rfl (by first | exact Or.inl rfl | exact Or.inr rfl)) (gs_cons (g_name (i := 2) sc_are_rising.nd rfl (by first | exact Or.inl rfl | exact Or.inr rfl)) (gs_nil)))) (fun _ _ _ _ _ => ts_nil) (fun _ _ _ _ _ => e_cmp (o_lt2 (un66 hr)) (e_var 1) (e_var 2) (nomark _))) a_nil))))
    (fun ts G Q E h => ?run)
  case len => obtain ⟨t, x, rfl, _⟩ := h; rfl
  case run =>
    obtain ⟨t, xs, rfl, hx, hz, hQ⟩ := h
    have et : (xs.map T.str).drop 1 = xs.tail.map T.str := by rw [List.drop_one, List.map_tail]
    rcases hx with rfl | ⟨a, rfl, hg⟩
    · show ∀ D, _
      rw [cut_drop (by decide)]
      rw [show (Int.toNat 1) = 1 from rfl, et]
      refine fun D hD => ⟨by rw [zipT_len]; simp; omega, fun k acc G' => acc = ((List.zipWith (fun a b : Str => decide (a.cps.toList < b.cps.toList)) xs xs.tail).take k).map T.bl ∧ Sub G G' ∧ G' D = some (.lst acc) ∧ acc.length ≤ k, ⟨by simp, (Sub.refl _).new hD, gput_same, by simp⟩, ?_, ?_, ?_⟩
      · rintro k acc G' hk ⟨rfl, s, e, z⟩
        exact ⟨trivial, e, z⟩
      · rintro k t acc G' ht ⟨rfl, s, e, z⟩
        obtain ⟨x, y, h1, h2, rfl⟩ := zipT_get ht
        obtain ⟨x, j1, rfl⟩ := map_at h1
        obtain ⟨y, j2, rfl⟩ := map_at h2
        refine ⟨fun _ => ?_, fun c => (by cases c)⟩
        refine ⟨e, _, Sub.refl _, ?_, s.mut hD, gput_same, by rw [List.length_append]; exact Nat.succ_le_succ z⟩
        rw [take_one (x := decide (x.cps.toList < y.cps.toList)) (by rw [List.getElem?_zipWith, j1, j2]), List.map_append]; rfl
      · rintro acc G' ⟨rfl, s, e, z⟩
        refine ⟨_, e, ?_⟩
        rw [List.take_of_length_le (by rw [zipT_len, List.length_zipWith]; simp)]
        exact ⟨G, s, hQ⟩
    · refine ⟨_, hg, fun p hp => ?_⟩
      rw [cut_drop (by decide)]
      rw [show (Int.toNat 1) = 1 from rfl, et]
      have s0 := (Sub.refl G).new (o := .lst (xs.tail.map T.str)) hp
      refine ⟨_, _, s0 _ _ hg, gput_same, fun D hD => ⟨by rw [zipT_len]; simp; omega, fun k acc G' => acc = ((List.zipWith (fun a b : Str => decide (a.cps.toList < b.cps.toList)) xs xs.tail).take k).map T.bl ∧ Sub (gput G p (.lst (xs.tail.map T.str))) G' ∧ G' D = some (.lst acc) ∧ acc.length ≤ k, ⟨by simp, (Sub.refl _).new hD, gput_same, by simp⟩, ?_, ?_, ?_⟩⟩
      · rintro k acc G' hk ⟨rfl, s, e, z⟩
        exact ⟨⟨s _ _ (s0 _ _ hg), s _ _ gput_same⟩, e, z⟩
      · rintro k t acc G' ht ⟨rfl, s, e, z⟩
        obtain ⟨x, y, h1, h2, rfl⟩ := zipT_get ht
        obtain ⟨x, j1, rfl⟩ := map_at h1
        obtain ⟨y, j2, rfl⟩ := map_at h2
        refine ⟨fun _ => ?_, fun c => (by cases c)⟩
        refine ⟨e, _, Sub.refl _, ?_, s.mut hD, gput_same, by rw [List.length_append]; exact Nat.succ_le_succ z⟩
        rw [take_one (x := decide (x.cps.toList < y.cps.toList)) (by rw [List.getElem?_zipWith, j1, j2]), List.map_append]; rfl
      · rintro acc G' ⟨rfl, s, e, z⟩
        refine ⟨_, e, ?_⟩
        rw [List.take_of_length_le (by rw [zipT_len, List.length_zipWith]; simp)]
        exact ⟨G, s0.trans s, hQ⟩
abbrev s_are_found : Stmt := topS 7
abbrev N_are_found : List Str := ["thing", "pair", "mark"]
theorem sc_are_found : FnScope N_are_found ["thing"] (defScope s_are_found) := ⟨rfl, rfl, rfl, by decide +kernel, rfl, by decide +kernel, by decide +kernel⟩
set_option maxHeartbeats 4000000 in
theorem ok_are_found {P : Program} {w : World} {K : PySem.W.Frag} {mg : Str → Option Value} {base : Heap} (F : FunAt K mg "are_found" "are_found" s_are_found ["thing"]) (TX : Txt K mg) (D_is_name : DefOk P w K mg base 1 "is_name" ["thing"] sp_is_name) (D_are_rising : DefOk P w K mg base 1 "are_rising" ["some"] sp_are_rising) :
    DefOk P w K mg base 2 "are_found" ["thing"] sp_are_found := by
  refine okd F sc_are_found (fun ts G Q E h => ?len) (fun f cdv A outer s H E hr => ss_cons (s_if (PW.pt (w_or (t_not (t_tr (e_callB b_isi (by rfl) TX.n_isinstance (by decide +kernel) (a_cons (e_var 0) (a_cons (e_ty .tuple (by rfl) TX.n_tuple (by decide +kernel)) a_nil))))) (pw_or1 (t_cmp o_gt (e_callB b_len (by rfl) TX.n_len (by decide +kernel) (a_cons (e_var 0) a_nil)) (e_glI (by rfl) TX.c_MOST_FOUND) (nomark _))))) (ss_one (s_ret (e_bl))) (ss_nil))
    (ss_cons (s_for (own := [1]) PassesOwn.never rfl (i_seq (e_var 0)) (g_name (i := 1) sc_are_found.nd rfl (by first | exact Or.inl rfl | exact Or.inr rfl)) (ss_cons (s_if (PW.pt (w_or (t_not (t_tr (e_callB b_isi (by rfl) TX.n_isinstance (by decide +kernel) (a_cons (e_var 1) (a_cons (e_ty .tuple (by rfl) TX.n_tuple (by decide +kernel)) a_nil))))) (w_or (t_cmp (o_ne hr.units) (e_callB b_len (by rfl) TX.n_len (by decide +kernel) (a_cons (e_var 1) a_nil)) (e_int) (nomark _)) (w_or (t_not (t_tr (e_callD D_is_name hr (by rfl) (a_cons (e_ix i_ixC (e_var 1) (e_int) (fun _ _ => rfl)) a_nil)))) (pw_or1 (t_not (t_tr (e_callB b_isi (by rfl) TX.n_isinstance (by decide +kernel) (a_cons (e_ix i_ixC (e_var 1) (e_int) (fun _ _ => rfl)) (a_cons (e_ty .tuple (by rfl) TX.n_tuple (by decide +kernel)) a_nil)))))))))) (ss_one (s_ret (e_bl))) (ss_nil))
    (ss_one (s_if (PW.pt (w_or (t_cmp o_gt (e_callB b_len (by rfl) TX.n_len (by decide +kernel) (a_cons (e_ix i_ixC (e_var 1) (e_int) (fun _ _ => rfl)) a_nil)) (e_glI (by rfl) TX.c_MOST_MARKS) (nomark _)) (w_or (t_not (t_tr (e_callB (b_all rfl) (by rfl) TX.n_all (by decide +kernel) (a_cons (e_lc (own := [("mark", 2)]) rfl sc_are_found.nd (i_seq (e_ix i_ixC (e_var 1) (e_int) (fun _ _ => rfl))) (blkOk_by (N := N_are_found) (sc := defScope s_are_found) (own := [("mark", 2)]) (by decide +kernel)) (fun _ _ _ _ _ => g_name (i := 2) sc_are_found.nd rfl (by first | exact Or.inl rfl | exact Or.inr rfl)) (fun _ _ _ _ _ => ts_nil) (fun _ _ _ _ _ => e_callD D_is_name hr (by rfl) (a_cons (e_var 2) a_nil))) a_nil)))) (pw_or1 (t_not (t_tr (e_callD D_are_rising hr (by rfl) (a_cons (e_ix i_ixC (e_var 1) (e_int) (fun _ _ => rfl)) a_nil)))))))) (ss_one (s_ret (e_bl))) (ss_nil)))))
    (ss_one (s_ret (e_callD D_are_rising hr (by rfl) (a_cons (e_lc (own := [("pair", 1)]) rfl sc_are_found.nd (i_seq (e_var 0)) (blkOk_by (N := N_are_found) (sc := defScope s_are_found) (own := [("pair", 1)]) (by decide +kernel)) (fun _ _ _ _ _ => g_name (i := 1) sc_are_found.nd rfl (by first | exact Or.inl rfl | exact Or.inr rfl)) (fun _ _ _ _ _ => ts_nil) (fun _ _ _ _ _ => e_ix i_ixC (e_var 1) (e_int) (fun _ _ => rfl))) a_nil))))))
    (fun ts G Q E h => ?run)
  case len => obtain ⟨t, av, k, n, rfl, _⟩ := h; rfl
  case run =>
    obtain ⟨t, av, k, n, rfl, hk, hd, hQ⟩ := h
    cases t with
    | tup us =>
      cases n with
      | zero => exact hd.elim
      | succ n =>
      obtain ⟨hl, hu⟩ := hd
      refine ⟨fun c => (by cases c), fun _ => ⟨fun c => ?_, fun c => ?_⟩⟩
      · have c : 8 < (us.length : Int) := of_decide_eq_true c
        have : isFound (.tup us) = false := by
          show (decide (us.length ≤ 8) && us.all pairOk && upT (us.map fstT)) = false
          rw [decide_eq_false (by omega : ¬ us.length ≤ 8)]; simp
        rw [this] at hQ
        exact ⟨G, Sub.refl _, hQ⟩
      · have c : ¬ 8 < (us.length : Int) := of_decide_eq_false c
        have no : ∀ t ∈ us, pairOk t = false → isFound (.tup us) = false := fun t ht h => by
          show (decide (us.length ≤ 8) && us.all pairOk && upT (us.map fstT)) = false
          have : us.all pairOk = false := by rw [List.all_eq_false]; exact ⟨t, ht, by rw [h]; decide⟩
          rw [this]; simp
        refine ⟨fun i ρ G' => ρ = [some (.tup us), none, none] ∧ Sub G G' ∧ (us.take i).all pairOk = true, ⟨rfl, Sub.refl _, rfl⟩, fun _ _ _ _ _ => trivial, ?_, ?_⟩
        · rintro i t ρ G' ht ⟨rfl, s, hp⟩
          have hm := List.mem_of_getElem? ht
          have hdt := hu t hm
          have bad : pairOk t = false → Ret Q (.bl false) G' := fun h => ⟨G, s, by rw [no t hm h] at hQ; exact hQ⟩
          cases t with
          | tup vs =>
            cases n with
            | zero => exact hdt.elim
            | succ n =>
            obtain ⟨hl2, hv⟩ := hdt
            refine ⟨fun c => (by cases c), fun _ => ?_⟩
            have two : vs.length ≠ 2 ∨ vs.length = 2 := by omega
            rcases two with two | two
            · refine ⟨fun _ => ⟨fun _ => bad (pairOk_len two), fun c => (by cases c)⟩, fun z => ?_⟩
              · have := of_decide_eq_true (show decide ((vs.length : Int) = 2) = true by simpa using z)
                omega
            obtain ⟨a, b, rfl⟩ : ∃ a b, vs = [a, b] := by
              match vs, two with
              | [a, b], _ => exact ⟨a, b, rfl⟩
            have ha := (hv a (by simp)).sub' s
            have hb := (hv b (by simp)).sub' s
            refine ⟨fun z => (by cases z), fun _ => ?_⟩
            refine ⟨a, rfl, ha.any, fun x e => by subst e; exact dat_len ha hk, fun c1 => ?_, fun c1 => ?_⟩
            · exact ⟨fun _ => bad (by cases b <;> simp_all [pairOk]), fun c => (by cases c)⟩
            have c1 : isNm a = true := by simpa using c1
            cases b with
            | tup ms =>
              cases n with
              | zero => exact hb.elim
              | succ n =>
              obtain ⟨hl3, hms⟩ := hb
              refine ⟨fun c => (by cases c), fun _ => ?_⟩
              refine ⟨fun c => ?_, fun c => ?_⟩
              · have c : 6 < (ms.length : Int) := of_decide_eq_true c
                refine ⟨fun _ => bad ?_, fun c => (by cases c)⟩
                rw [pairOk_two, decide_eq_false (by omega : ¬ ms.length ≤ 6)]; simp
              have c6 : ¬ 6 < (ms.length : Int) := of_decide_eq_false c
              refine fun D hD => ⟨by omega, fun k acc G2 => acc = ((ms.take k).map fun t => T.bl (isNm t)) ∧ Sub G' G2 ∧ G2 D = some (.lst acc) ∧ acc.length ≤ k, ⟨by simp, (Sub.refl _).new hD, gput_same, by simp⟩, ?_, ?_, ?_⟩
              · rintro k acc G2 hk ⟨rfl, s, e, z⟩
                exact ⟨trivial, e, z⟩
              · rintro k t acc G2 ht ⟨rfl, s2, e, z⟩
                have hdt := (hms t (List.mem_of_getElem? ht)).sub' s2
                refine ⟨fun _ => ?_, fun c => (by cases c)⟩
                refine ⟨t, rfl, hdt.any, fun x e => by subst e; exact dat_len hdt hk, ?_⟩
                refine ⟨e, _, Sub.refl _, ?_, s2.mut hD, gput_same, by rw [List.length_append]; exact Nat.succ_le_succ z⟩
                rw [take_one ht, List.map_append]; rfl
              · rintro acc G2 ⟨rfl, s2, e, z⟩
                rw [List.take_length] at e
                refine ⟨ms.map isNm, by rw [e, List.map_map]; rfl, fun c => ?_, fun c => ?_⟩
                · have c : ms.all isNm = false := by
                    have : (ms.map isNm).all id = false := by simpa using c
                    rw [List.all_map] at this
                    exact this
                  refine ⟨fun _ => ?_, fun c => (by cases c)⟩
                  refine ⟨G, s.trans s2, ?_⟩
                  rw [no _ hm (by rw [pairOk_two, c]; simp)] at hQ
                  exact hQ
                have c : ms.all isNm = true := by
                  have : (ms.map isNm).all id = true := by simpa using c
                  rw [List.all_map] at this
                  exact this
                obtain ⟨l, rfl, hl⟩ := names_of c
                have hll : l.length ≤ 1000 := by rw [List.length_map] at c6; omega
                refine ⟨_, l, rfl, .inl rfl, hll, fun c2 => ?_, fun c2 => ?_⟩
                · have c2 : upS l = false := by simpa using c2
                  refine ⟨G, s.trans s2, ?_⟩
                  rw [no _ hm (by rw [pairOk_two, upT_map, c2]; simp)] at hQ
                  exact hQ
                · have c2 : upS l = true := by simpa using c2
                  refine ⟨_, _, .keep _ (.drop _ (.drop _ .nil)), Sub.refl _, rfl, s.trans s2, ?_⟩
                  rw [take_one ht, List.all_append, hp, Bool.true_and]
                  show (pairOk _ && true) = true
                  rw [Bool.and_true]
                  rw [pairOk_two, upT_map, c2, c, c1, decide_eq_true (by omega)]; rfl
            | ref b =>
              obtain ⟨xs, hg⟩ := hb.any
              exact ⟨xs, hg, fun _ => bad rfl, fun c => (by cases c)⟩
            | ty _ => exact hb.any.elim
            | scr _ => exact hb.any.elim
            | _ => exact ⟨fun _ => bad rfl, fun c => (by cases c)⟩
          | ref b =>
            obtain ⟨xs, hg⟩ := (hdt.sub' s).any
            exact ⟨xs, hg, fun _ => ⟨fun _ => bad rfl, fun c => (by cases c)⟩, fun c => (by cases c)⟩
          | ty _ => exact (hdt.sub' s).any.elim
          | scr _ => exact (hdt.sub' s).any.elim
          | _ => exact ⟨fun _ => ⟨fun _ => bad rfl, fun c => (by cases c)⟩, fun c => (by cases c)⟩
        · rintro ρ G' ⟨rfl, s, hp⟩
          rw [List.take_length] at hp
          obtain ⟨l, rfl, hl⟩ := pairs_of_ok hp
          have hll : l.length ≤ 8 := by rw [List.length_map] at c; omega
          refine fun D hD => ⟨by rw [List.length_map]; omega, fun k acc G2 => acc = ((l.take k).map fun p => T.str p.1) ∧ Sub G' G2 ∧ G2 D = some (.lst acc) ∧ acc.length ≤ k, ⟨by simp, (Sub.refl _).new hD, gput_same, by simp⟩, ?_, ?_, ?_⟩
          · rintro k acc G2 hk ⟨rfl, s, e, z⟩
            exact ⟨trivial, e, z⟩
          · rintro k t acc G2 ht ⟨rfl, s2, e, z⟩
            obtain ⟨p, hpk, rfl⟩ := map_at ht
            refine ⟨fun _ => ?_, fun c => (by cases c)⟩
            refine ⟨e, _, Sub.refl _, ?_, s2.mut hD, gput_same, by rw [List.length_append]; exact Nat.succ_le_succ z⟩
            rw [take_one hpk, List.map_append]; rfl
          · rintro acc G2 ⟨rfl, s2, e, z⟩
            rw [List.length_map, List.take_length] at e
            refine ⟨_, l.map (·.1), rfl, .inr ⟨D, rfl, by rw [e, List.map_map]; rfl⟩, by rw [List.length_map]; omega, ?_⟩
            have : isFound (.tup (l.map fun p => T.tup [.str p.1, strsT p.2])) = upS (l.map (·.1)) := by
              show (decide ((l.map fun p => T.tup [.str p.1, strsT p.2]).length ≤ 8) && (l.map fun p => T.tup [.str p.1, strsT p.2]).all pairOk && upT ((l.map fun p => T.tup [.str p.1, strsT p.2]).map fstT)) = _
              rw [hp, List.map_map, decide_eq_true (by rw [List.length_map]; exact hll), Bool.true_and, Bool.true_and, ← upT_map, List.map_map]; rfl
            rw [← this]
            exact ⟨G, s.trans s2, hQ⟩
    | ref b =>
      obtain ⟨xs, hg⟩ := hd.any
      exact ⟨xs, hg, fun _ => ⟨fun _ => ⟨G, Sub.refl _, hQ⟩, fun c => (by cases c)⟩, fun c => (by cases c)⟩
    | ty _ => exact hd.any.elim
    | scr _ => exact hd.any.elim
    | _ => exact ⟨fun _ => ⟨fun _ => ⟨G, Sub.refl _, hQ⟩, fun c => (by cases c)⟩, fun c => (by cases c)⟩
abbrev s_having : Stmt := topS 8
abbrev N_having : List Str := ["found", "rows", "at", "name", "marks", "mark"]
theorem sc_having : FnScope N_having ["found"] (defScope s_having) := ⟨rfl, rfl, rfl, by decide +kernel, rfl, by decide +kernel, by decide +kernel⟩
set_option maxHeartbeats 4000000 in
theorem ok_having {P : Program} {w : World} {K : PySem.W.Frag} {mg : Str → Option Value} {base : Heap} (F : FunAt K mg "having" "having" s_having ["found"]) (TX : Txt K mg)  :
    DefOk P w K mg base 1 "having" ["found"] sp_having := by
  refine okd F sc_having (fun ts G Q E h => ?len) (fun f cdv A outer s H E hr => ss_cons (s_set (i := 1) sc_having.nd rfl (by first | exact Or.inl rfl | exact Or.inr rfl) (e_d0))
    (ss_cons (s_for (own := [2, 3, 4]) PassesOwn.never rfl (i_enum (by rfl) TX.n_enumerate (a_cons (e_var 0) a_nil)) (g_tup (n := 2) rfl (gs_cons (g_name (i := 2) sc_having.nd rfl (by first | exact Or.inl rfl | exact Or.inr rfl)) (gs_cons (g_tup (n := 2) rfl (gs_cons (g_name (i := 3) sc_having.nd rfl (by first | exact Or.inl rfl | exact Or.inr rfl)) (gs_cons (g_name (i := 4) sc_having.nd rfl (by first | exact Or.inl rfl | exact Or.inr rfl)) (gs_nil)))) (gs_nil)))) (ss_one (s_for (own := [5]) PassesOwn.never rfl (i_seq (e_var 4)) (g_name (i := 5) sc_having.nd rfl (by first | exact Or.inl rfl | exact Or.inr rfl)) (ss_one (s_dput (un1 hr) (e_var 1) (e_var 5) (e_op o_add (e_get2 (un1 hr) (e_var 1) (e_var 5) (e_tup (a_nil)) ⟨rfl, rfl, rfl, rfl⟩) (e_tup (a_cons (e_var 2) a_nil))))))))
    (ss_one (s_ret (e_var 1)))))
    (fun ts G Q E h => ?run)
  case len => obtain ⟨a, rfl, _⟩ := h; rfl
  case run =>
    obtain ⟨l, rfl, ho, hQ⟩ := h
    intro d hd
    refine ⟨fun i ρ G' => ∃ ks, ρ = [some (fndT l), some (.ref d), none, none, none, none] ∧ Mks (l.take i) ks ∧ ks.length ≤ 50 * i ∧ Sub (gput G d (.dK (hvK (l.take i) ks))) G', ⟨[], rfl, by rw [List.take_zero]; exact Mks.start, Nat.zero_le _, Sub.refl _⟩, fun _ _ _ _ _ => trivial, ?_, ?_⟩
    · rintro i t ρ G' ht ⟨ks, rfl, hk, hz, s⟩
      obtain ⟨u, hu, rfl⟩ := enumT_get ht
      obtain ⟨⟨nm, ms⟩, hp, rfl⟩ := map_at hu
      obtain ⟨n1, n2, n3⟩ := ho.nm _ (List.mem_of_getElem? hp)
      have n2 : ms.Nodup := n2
      have n3 : ms.length ≤ 50 := n3
      have hi := (List.getElem?_eq_some_iff.mp hp).1
      have hli := ho.len
      have tl : (l.take i).length = i := by rw [List.length_take]; omega
      refine ⟨fun j ρ G' => ∃ ks, ρ = [some (fndT l), some (.ref d), some (.int i), some (.str nm), some (strsT ms), none] ∧ Mks (l.take i ++ [(nm, ms.take j)]) ks ∧ ks.length ≤ 50 * i + j ∧ Sub (gput G d (.dK (hvK (l.take i ++ [(nm, ms.take j)]) ks))) G',
        ⟨ks, rfl, by rw [List.take_zero]; exact Mks.idle.mpr hk, hz, by rw [List.take_zero, hvK_idle]; exact s⟩, fun _ _ _ _ _ => trivial, ?_, ?_⟩
      · rintro j t ρ G' ht ⟨ks, rfl, hk, hz, s⟩
        obtain ⟨m, hm, rfl⟩ := map_at ht
        have hj := (List.getElem?_eq_some_iff.mp hm).1
        have hnm : m ∉ ms.take j := fun z => by
          obtain ⟨a, ha⟩ := List.mem_iff_getElem?.mp z
          rw [List.getElem?_take] at ha
          split at ha
          · rename_i lt
            obtain ⟨ha1, ha2⟩ := List.getElem?_eq_some_iff.mp ha
            obtain ⟨hb1, hb2⟩ := List.getElem?_eq_some_iff.mp hm
            have := (List.getElem_inj n2).mp (ha2.trans hb2.symm)
            omega
          · cases ha
        obtain ⟨ks', h1, h2, h3, h4⟩ := hv_step hk hnm
        rw [tl] at h4
        have hd' := s _ _ (gput_same (G := G) (a := d))
        refine ⟨⟨_, hd'⟩, _, _, rfl, hd', ?_⟩
        rw [h3]
        have hpl := posOf_len (l := l.take i) (m := m)
        refine ⟨by rw [List.length_map]; show (posOf _ m).length + 1 ≤ 100000; omega, _, _, rfl, hd', by rw [show (hvK (l.take i ++ [(nm, ms.take j)]) ks).length = ks.length by unfold hvK; simp]; omega, ?_⟩
        rw [h4]
        refine ⟨_, _, .keep _ (.keep _ (.keep _ (.keep _ (.keep _ (.drop _ .nil))))), Sub.refl _, ks', rfl, ?_, by omega, ?_⟩
        · rw [take_one hm]; exact h1
        · rw [take_one hm]
          have := s.put (p := d) (o := .dK (hvK (l.take i ++ [(nm, ms.take j ++ [m])]) ks'))
          rw [gput_put] at this
          exact this
      · rintro ρ G' ⟨ks, rfl, hk, hz, s⟩
        rw [List.length_map, List.take_length] at hk s
        rw [List.length_map] at hz
        refine ⟨_, _, .keep _ (.keep _ (.drop _ (.drop _ (.drop _ (.drop _ .nil))))), Sub.refl _, ks, rfl, ?_, by omega, ?_⟩
        · rw [take_one hp]; exact hk
        · rw [take_one hp]; exact s
    · rintro ρ G' ⟨ks, rfl, hk, hz, s⟩
      have en : (enumT (l.map fpT)).length = l.length := by rw [enumT_len, List.length_map]
      rw [en, List.take_length] at hk s
      rw [en] at hz
      have := ho.len
      exact ⟨_, s, hQ ks hk (by omega) d hd⟩
abbrev s_is_in : Stmt := topS 9
abbrev N_is_in : List Str := ["one", "other", "at"]
theorem sc_is_in : FnScope N_is_in ["one", "other"] (defScope s_is_in) := ⟨rfl, rfl, rfl, by decide +kernel, rfl, by decide +kernel, by decide +kernel⟩
set_option maxHeartbeats 4000000 in
theorem ok_is_in {P : Program} {w : World} {K : PySem.W.Frag} {mg : Str → Option Value} {base : Heap} (F : FunAt K mg "is_in" "is_in" s_is_in ["one", "other"]) (TX : Txt K mg)  :
    DefOk P w K mg base 1 "is_in" ["one", "other"] sp_is_in := by
  refine okd F sc_is_in (fun ts G Q E h => ?len) (fun f cdv A outer s H E hr => ss_one (s_ret (e_callB (b_all rfl) (by rfl) TX.n_all (by decide +kernel) (a_cons (e_lc (own := [("at", 2)]) rfl sc_is_in.nd (i_seq (e_var 0)) (blkOk_by (N := N_is_in) (sc := defScope s_is_in) (own := [("at", 2)]) (by decide +kernel)) (fun _ _ _ _ _ => g_name (i := 2) sc_is_in.nd rfl (by first | exact Or.inl rfl | exact Or.inr rfl)) (fun _ _ _ _ _ => ts_nil) (fun _ _ _ _ _ => e_cmp (o_in2 (un65 hr)) (e_var 2) (e_var 1) rfl)) a_nil))))
    (fun ts G Q E h => ?run)
  case len => obtain ⟨a, b, rfl, _⟩ := h; rfl
  case run =>
    obtain ⟨a, b, rfl, hz, hQ⟩ := h
    refine fun D hD => ⟨by rw [List.length_map]; omega, fun k acc G' => acc = ((a.take k).map fun i => T.bl (decide (i ∈ b))) ∧ Sub G G' ∧ G' D = some (.lst acc) ∧ acc.length ≤ k, ⟨by simp, (Sub.refl _).new hD, gput_same, by simp⟩, ?_, ?_, ?_⟩
    · rintro k acc G' hk ⟨rfl, s, e, z⟩
      exact ⟨trivial, e, z⟩
    · rintro k t acc G' ht ⟨rfl, s, e, z⟩
      obtain ⟨i, hi, rfl⟩ := map_at ht
      refine ⟨fun _ => ?_, fun c => (by cases c)⟩
      refine ⟨eqOks_nats _, rfl, ?_⟩
      rw [any_nats, Bool.false_bne]
      refine ⟨e, _, Sub.refl _, ?_, s.mut hD, gput_same, by rw [List.length_append]; exact Nat.succ_le_succ z⟩
      rw [take_one hi, List.map_append]; rfl
    · rintro acc G' ⟨rfl, s, e, z⟩
      rw [List.length_map, List.take_length] at e
      refine ⟨a.map fun i => decide (i ∈ b), by rw [e, List.map_map]; rfl, ?_⟩
      have : (a.map fun i => decide (i ∈ b)).all id = inB a b := by
        unfold inB
        rw [List.all_map]; rfl
      rw [this]
      exact ⟨G, s, hQ⟩
abbrev s_do_cross : Stmt := topS 10
abbrev N_do_cross : List Str := ["one", "other", "at"]
theorem sc_do_cross : FnScope N_do_cross ["one", "other"] (defScope s_do_cross) := ⟨rfl, rfl, rfl, by decide +kernel, rfl, by decide +kernel, by decide +kernel⟩
set_option maxHeartbeats 4000000 in
theorem ok_do_cross {P : Program} {w : World} {K : PySem.W.Frag} {mg : Str → Option Value} {base : Heap} (F : FunAt K mg "do_cross" "do_cross" s_do_cross ["one", "other"]) (TX : Txt K mg) (D_is_in : DefOk P w K mg base 1 "is_in" ["one", "other"] sp_is_in) :
    DefOk P w K mg base 2 "do_cross" ["one", "other"] sp_do_cross := by
  refine okd F sc_do_cross (fun ts G Q E h => ?len) (fun f cdv A outer s H E hr => ss_one (s_ret (e_and (e_callB (b_any rfl) (by rfl) TX.n_any (by decide +kernel) (a_cons (e_lc (own := [("at", 2)]) rfl sc_do_cross.nd (i_seq (e_var 0)) (blkOk_by (N := N_do_cross) (sc := defScope s_do_cross) (own := [("at", 2)]) (by decide +kernel)) (fun _ _ _ _ _ => g_name (i := 2) sc_do_cross.nd rfl (by first | exact Or.inl rfl | exact Or.inr rfl)) (fun _ _ _ _ _ => ts_nil) (fun _ _ _ _ _ => e_cmp (o_in2 (un65 hr)) (e_var 2) (e_var 1) rfl)) a_nil)) (e_and (e_not (e_callD D_is_in hr (by rfl) (a_cons (e_var 0) (a_cons (e_var 1) a_nil)))) (pe_one (e_not (e_callD D_is_in hr (by rfl) (a_cons (e_var 1) (a_cons (e_var 0) a_nil)))))))))
    (fun ts G Q E h => ?run)
  case len => obtain ⟨a, b, rfl, _⟩ := h; rfl
  case run =>
    obtain ⟨a, b, rfl, hz, hzb, hQ⟩ := h
    refine fun D hD => ⟨by rw [List.length_map]; omega, fun k acc G' => acc = ((a.take k).map fun i => T.bl (decide (i ∈ b))) ∧ Sub G G' ∧ G' D = some (.lst acc) ∧ acc.length ≤ k, ⟨by simp, (Sub.refl _).new hD, gput_same, by simp⟩, ?_, ?_, ?_⟩
    · rintro k acc G' hk ⟨rfl, s, e, z⟩
      exact ⟨trivial, e, z⟩
    · rintro k t acc G' ht ⟨rfl, s, e, z⟩
      obtain ⟨i, hi, rfl⟩ := map_at ht
      refine ⟨fun _ => ?_, fun c => (by cases c)⟩
      refine ⟨eqOks_nats _, rfl, ?_⟩
      rw [any_nats, Bool.false_bne]
      refine ⟨e, _, Sub.refl _, ?_, s.mut hD, gput_same, by rw [List.length_append]; exact Nat.succ_le_succ z⟩
      rw [take_one hi, List.map_append]; rfl
    · rintro acc G' ⟨rfl, s, e, z⟩
      rw [List.length_map, List.take_length] at e
      refine ⟨a.map fun i => decide (i ∈ b), by rw [e, List.map_map]; rfl, ?_⟩
      have e1 : (a.map fun i => decide (i ∈ b)).any id = a.any fun i => decide (i ∈ b) := by rw [List.any_map]; rfl
      rw [e1]
      unfold crossB at hQ
      refine ⟨fun c => ?_, fun c => ?_⟩
      · rw [c, Bool.true_and] at hQ
        refine ⟨a, b, rfl, hz, fun c2 => ?_, fun c2 => ?_⟩
        · rw [c2, Bool.true_and] at hQ
          refine ⟨b, a, rfl, hzb, ?_⟩
          exact ⟨G, s, hQ⟩
        · rw [c2, Bool.false_and] at hQ
          exact ⟨G, s, hQ⟩
      · rw [c, Bool.false_and, Bool.false_and] at hQ
        exact ⟨G, s, hQ⟩
abbrev s_crossing : Stmt := topS 11
abbrev N_crossing : List Str := ["found", "rows", "names", "at", "mark", "other"]
theorem sc_crossing : FnScope N_crossing ["found"] (defScope s_crossing) := ⟨rfl, rfl, rfl, by decide +kernel, rfl, by decide +kernel, by decide +kernel⟩
set_option maxHeartbeats 4000000 in
theorem ok_crossing {P : Program} {w : World} {K : PySem.W.Frag} {mg : Str → Option Value} {base : Heap} (F : FunAt K mg "crossing" "crossing" s_crossing ["found"]) (TX : Txt K mg) (D_having : DefOk P w K mg base 1 "having" ["found"] sp_having) (D_do_cross : DefOk P w K mg base 2 "do_cross" ["one", "other"] sp_do_cross) :
    DefOk P w K mg base 3 "crossing" ["found"] sp_crossing := by
  refine okd F sc_crossing (fun ts G Q E h => ?len) (fun f cdv A outer s H E hr => ss_cons (s_set (i := 1) sc_crossing.nd rfl (by first | exact Or.inl rfl | exact Or.inr rfl) (e_callD D_having (hr.mono (by decide)) (by rfl) (a_cons (e_var 0) a_nil)))
    (ss_cons (s_set (i := 2) sc_crossing.nd rfl (by first | exact Or.inl rfl | exact Or.inr rfl) (e_callB (b_sortedD rfl) (by rfl) TX.n_sorted (by decide +kernel) (a_cons (e_var 1) a_nil)))
    (ss_cons (s_for (own := [3, 4]) PassesOwn.never rfl (i_enum (by rfl) TX.n_enumerate (a_cons (e_var 2) a_nil)) (g_tup (n := 2) rfl (gs_cons (g_name (i := 3) sc_crossing.nd rfl (by first | exact Or.inl rfl | exact Or.inr rfl)) (gs_cons (g_name (i := 4) sc_crossing.nd rfl (by first | exact Or.inl rfl | exact Or.inr rfl)) (gs_nil)))) (ss_one (s_for (own := [5]) PassesOwn.never rfl (i_seq (e_slice sl_seq (e_var 2) (o_some (e_op o_add (e_var 3) (e_int))) (o_none))) (g_name (i := 5) sc_crossing.nd rfl (by first | exact Or.inl rfl | exact Or.inr rfl)) (ss_one (s_if (t_tr (e_callD D_do_cross hr (by rfl) (a_cons (e_aget (un1 hr) (e_var 1) (e_var 4) (fun _ _ => rfl)) (a_cons (e_aget (un1 hr) (e_var 1) (e_var 5) (fun _ _ => rfl)) a_nil)))) (ss_one (s_ret (e_tup (a_cons (e_var 4) (a_cons (e_var 5) a_nil))))) (ss_nil))))))
    (ss_one (s_ret (e_non))))))
    (fun ts G Q E h => ?run)
  case len => obtain ⟨a, rfl, _⟩ := h; rfl
  case run =>
    obtain ⟨l, rfl, ho, hfew, hQ⟩ := h
    refine ⟨l, rfl, ho, fun ks hk _ d hd => ?_⟩
    have hkl := hfew ks hk
    refine ⟨_, ks, gput_same, hvK_keys, hkl, fun ys py sy p hp => ?_⟩
    have my : Mks l ys := ⟨py.nodup_iff.mpr hk.nd, fun x => py.mem_iff.trans (hk.mem x)⟩
    have hyl := hfew ys my
    have s0 : Sub G (gput (gput G d (.dK (hvK l ks))) p (.lst (ys.map T.str))) := ((Sub.refl _).new hd).new hp
    have e1 : gput (gput G d (.dK (hvK l ks))) p (.lst (ys.map T.str)) d = some (.dK (hvK l ks)) := ((Sub.refl _).new hp) _ _ gput_same
    generalize hG1 : gput (gput G d (.dK (hvK l ks))) p (.lst (ys.map T.str)) = G1 at s0 e1 ⊢
    have e2 : G1 p = some (.lst (ys.map T.str)) := by rw [← hG1]; exact gput_same
    have hli := ho.len
    let f : Str × Str → Bool := fun p => crossB (posOf l p.1) (posOf l p.2)
    refine ⟨_, e2, fun i ρ G' => ρ = [some (fndT l), some (.ref d), some (.ref p), none, none, none] ∧ Sub G1 G' ∧ (prs ys).find? f = (prs (ys.drop i)).find? f, ⟨rfl, Sub.refl _, rfl⟩, fun _ _ _ _ hI => hI.2.1 _ _ e2, ?_, ?_⟩
    · rintro i t ρ G' ht ⟨rfl, s, hf⟩
      obtain ⟨u, hu, rfl⟩ := enumT_get ht
      obtain ⟨y, hy, rfl⟩ := map_at hu
      have hil := (List.getElem?_eq_some_iff.mp hy).1
      have ed : ys.drop i = y :: ys.drop (i + 1) := by
        obtain ⟨h1, h2⟩ := List.getElem?_eq_some_iff.mp hy
        rw [← h2]
        exact List.drop_eq_getElem_cons h1
      rw [ed] at hf
      refine ⟨_, s _ _ e2, fun q hq => ?_⟩
      have ec : cutT (ys.map T.str) (some ((i : Int) + 1)) none = (ys.drop (i + 1)).map T.str := by
        rw [cut_drop (by omega), show ((i : Int) + 1).toNat = i + 1 by omega, List.map_drop]
      rw [ec] at *
      have s2 := s.new (o := .lst ((ys.drop (i + 1)).map T.str)) hq
      refine ⟨_, gput_same, fun j ρ G2 => ρ = [some (fndT l), some (.ref d), some (.ref p), some (.int i), some (.str y), none] ∧ Sub G1 G2 ∧ G2 q = some (.lst ((ys.drop (i + 1)).map T.str)) ∧ (prs ys).find? f = ((((ys.drop (i + 1)).drop j).map fun z => (y, z)) ++ prs (ys.drop (i + 1))).find? f,
        ⟨rfl, s2, gput_same, hf⟩, fun _ _ _ _ hI => hI.2.2.1, ?_, ?_⟩
      · rintro j t ρ G2 ht ⟨rfl, s3, hq3, hf3⟩
        obtain ⟨z, hz, rfl⟩ := map_at ht
        have ed2 : (ys.drop (i + 1)).drop j = z :: (ys.drop (i + 1)).drop (j + 1) := by
          obtain ⟨h1, h2⟩ := List.getElem?_eq_some_iff.mp hz
          rw [← h2]
          exact List.drop_eq_getElem_cons h1
        rw [ed2, List.map_cons, List.cons_append, List.find?_cons] at hf3
        have my1 : y ∈ ks := py.mem_iff.mp (List.mem_of_getElem? hy)
        have mz1 : z ∈ ks := py.mem_iff.mp (List.mem_of_mem_drop (List.mem_of_getElem? hz))
        refine ⟨_, _, _, rfl, .inl (s3 _ _ e1), hvK_at my1, _, _, _, rfl, .inl (s3 _ _ e1), hvK_at mz1, ?_⟩
        have p1 := posOf_len (l := l) (m := y)
        have p2 := posOf_len (l := l) (m := z)
        refine ⟨posOf l y, posOf l z, rfl, by omega, by omega, fun c => ?_, fun c => ?_⟩
        · have c' : f (y, z) = true := c
          rw [c'] at hf3
          have := hQ ys G2 my (sorted_srt sy) (s0.trans s3)
          unfold crossL at this
          rw [hf3] at this
          exact Ret.of this
        · have c' : f (y, z) = false := c
          rw [c'] at hf3
          exact ⟨_, _, .keep _ (.keep _ (.keep _ (.keep _ (.keep _ (.drop _ .nil))))), Sub.refl _, rfl, s3, hq3, hf3⟩
      · rintro ρ G2 ⟨rfl, s3, hq3, hf3⟩
        rw [List.length_map, List.drop_length, List.map_nil, List.nil_append] at hf3
        exact ⟨_, _, .keep _ (.keep _ (.keep _ (.drop _ (.drop _ (.drop _ .nil))))), Sub.refl _, rfl, s3, hf3⟩
    · rintro ρ G' ⟨rfl, s, hf⟩
      rw [enumT_len, List.length_map, List.drop_length] at hf
      have := hQ ys G' my (sorted_srt sy) (s0.trans s)
      unfold crossL at this
      rw [hf] at this
      exact Ret.of this
abbrev s_rank : Stmt := topS 12
abbrev N_rank : List Str := ["rows", "mark"]
theorem sc_rank : FnScope N_rank ["rows", "mark"] (defScope s_rank) := ⟨rfl, rfl, rfl, by decide +kernel, rfl, by decide +kernel, by decide +kernel⟩
set_option maxHeartbeats 4000000 in
theorem ok_rank {P : Program} {w : World} {K : PySem.W.Frag} {mg : Str → Option Value} {base : Heap} (F : FunAt K mg "rank" "rank" s_rank ["rows", "mark"]) (TX : Txt K mg)  :
    DefOk P w K mg base 1 "rank" ["rows", "mark"] sp_rank := by
  refine okd F sc_rank (fun ts G Q E h => ?len) (fun f cdv A outer s H E hr => ss_one (s_ret (e_tup (a_cons (e_op o_sub (e_int) (e_callB b_len (by rfl) TX.n_len (by decide +kernel) (a_cons (e_aget (un1 hr) (e_var 0) (e_var 1) (fun _ _ => rfl)) a_nil))) (a_cons (e_var 1) a_nil)))))
    (fun ts G Q E h => ?run)
  case len => obtain ⟨a, b, c, d, rfl, _⟩ := h; rfl
  case run =>
    obtain ⟨d, l, ks, m, rfl, hd, hm, hQ⟩ := h
    refine ⟨_, _, _, rfl, hd, hvK_at hm, ?_⟩
    have : ((((posOf l m).map fun i : Nat => T.int i).length : Nat) : Int) = ((posOf l m).length : Int) := by rw [List.length_map]
    unfold rankT at hQ
    rw [← this] at hQ
    exact ⟨G, Sub.refl _, hQ⟩
abbrev s_around : Stmt := topS 13
abbrev N_around : List Str := ["found", "rows", "told", "mark", "outer", "other", "one"]
theorem sc_around : FnScope N_around ["found"] (defScope s_around) := ⟨rfl, rfl, rfl, by decide +kernel, rfl, by decide +kernel, by decide +kernel⟩
set_option maxHeartbeats 4000000 in
theorem ok_around {P : Program} {w : World} {K : PySem.W.Frag} {mg : Str → Option Value} {base : Heap} (F : FunAt K mg "around" "around" s_around ["found"]) (TX : Txt K mg) (D_having : DefOk P w K mg base 1 "having" ["found"] sp_having) (D_is_in : DefOk P w K mg base 1 "is_in" ["one", "other"] sp_is_in) (D_rank : DefOk P w K mg base 1 "rank" ["rows", "mark"] sp_rank) :
    DefOk P w K mg base 2 "around" ["found"] sp_around := by
  refine okd F sc_around (fun ts G Q E h => ?len) (fun f cdv A outer s H E hr => ss_cons (s_set (i := 1) sc_around.nd rfl (by first | exact Or.inl rfl | exact Or.inr rfl) (e_callD D_having hr (by rfl) (a_cons (e_var 0) a_nil)))
    (ss_cons (s_set (i := 2) sc_around.nd rfl (by first | exact Or.inl rfl | exact Or.inr rfl) (e_lst (a_nil)))
    (ss_cons (s_for (own := [3]) PassesOwn.never rfl (i_seq (e_callB (b_sortedD rfl) (by rfl) TX.n_sorted (by decide +kernel) (a_cons (e_var 1) a_nil))) (g_name (i := 3) sc_around.nd rfl (by first | exact Or.inl rfl | exact Or.inr rfl)) (ss_cons (s_lock (s_setLc (i := 4) (own := [("other", 5)]) rfl sc_around.nd rfl rfl (sw_true rfl rfl rfl (by decide +kernel)) (i_keys (e_var 1)) (blkOk_by (N := N_around) (sc := defScope s_around) (own := [("other", 5)]) (by decide +kernel)) (fun _ _ _ _ _ => g_name (i := 5) sc_around.nd rfl (by first | exact Or.inl rfl | exact Or.inr rfl)) (fun _ _ _ _ _ => ts_one (t_tr (e_callD D_is_in hr (by rfl) (a_cons (e_aget (un1 hr) (e_var 1) (e_var 3) (fun _ _ => rfl)) (a_cons (e_aget (un1 hr) (e_var 1) (e_var 5) (fun _ _ => rfl)) a_nil))))) (fun _ _ _ _ _ => e_callD D_rank hr (by rfl) (a_cons (e_var 1) (a_cons (e_var 5) a_nil)))))
    (ss_cons (s_set (i := 4) sc_around.nd rfl (by first | exact Or.inl rfl | exact Or.inr rfl) (e_callB (b_sorted (un66 hr)) (by rfl) TX.n_sorted (by decide +kernel) (a_cons (e_lc (own := [("one", 6)]) rfl sc_around.nd (i_seq (e_var 4)) (blkOk_by (N := N_around) (sc := defScope s_around) (own := [("one", 6)]) (by decide +kernel)) (fun _ _ _ _ _ => g_name (i := 6) sc_around.nd rfl (by first | exact Or.inl rfl | exact Or.inr rfl)) (fun _ _ _ _ _ => ts_one (t_cmp (o_lt2 (un66 hr)) (e_var 6) (e_callD D_rank hr (by rfl) (a_cons (e_var 1) (a_cons (e_var 3) a_nil))) (nomark _))) (fun _ _ _ _ _ => e_var 6)) a_nil)))
    (ss_one (s_expr (e_bm PySem.F.plainAttrs_list PySem.F.slot_list_append PySem.F.type_list_append m_append (e_var 2) (a_cons (e_tup (a_cons (e_var 3) (a_cons (e_if (t_cmp (o_ne hr.units) (e_var 4) (e_lst (a_nil)) (nomark _)) (e_ix i_ixC (e_ix i_ix (e_var 4) (e_neg (e_int)) (fun _ _ => rfl)) (e_int) (fun _ _ => rfl)) (e_non)) a_nil))) a_nil)))))))
    (ss_one (s_ret (e_var 2))))))
    (fun ts G Q E h => ?run)
  case len => obtain ⟨a, rfl, _⟩ := h; rfl
  case run =>
    obtain ⟨l, rfl, ho, hfew, hQ⟩ := h
    refine ⟨l, rfl, ho, fun ks hk _ d hd => ?_⟩
    have hkl := hfew ks hk
    have hkn := hk.names ho
    have hli := ho.len
    intro p hp
    have hp0 := (gput_none hp).2
    have e0 : gput (gput G d (.dK (hvK l ks))) p (.lst []) d = some (.dK (hvK l ks)) := ((Sub.refl _).new hp) _ _ gput_same
    refine ⟨_, ks, e0, hvK_keys, hkl, fun ys py sy q hq => ?_⟩
    have my : Mks l ys := ⟨py.nodup_iff.mpr hk.nd, fun x => py.mem_iff.trans (hk.mem x)⟩
    have s0 : Sub G (gput (gput (gput G d (.dK (hvK l ks))) p (.lst [])) q (.lst (ys.map T.str))) := (((Sub.refl _).new hd).new hp).new hq
    have e1 : gput (gput (gput G d (.dK (hvK l ks))) p (.lst [])) q (.lst (ys.map T.str)) d = some (.dK (hvK l ks)) := ((Sub.refl _).new hq) _ _ e0
    have e2 : gput (gput (gput G d (.dK (hvK l ks))) p (.lst [])) q (.lst (ys.map T.str)) p = some (.lst []) := ((Sub.refl _).new hq) _ _ gput_same
    have pq : p ≠ q := gne gput_same hq
    have pd : p ≠ d := (gne (gput_same (G := G) (a := d)) hp).symm
    have qd : q ≠ d := (gne e0 hq).symm
    refine ⟨_, gput_same, fun i ρ G' => ∃ os, ρ = [some (fndT l), some (.ref d), some (.ref p), none, none, none, none] ∧ Sub G G' ∧ G' d = some (.dK (hvK l ks)) ∧ G' q = some (.lst (ys.map T.str)) ∧ G' p = some (.lst (aroundT (ys.take i) os)) ∧ os.length = i ∧ ∀ (j : Nat) (m : Str) (o : Option Str), j < i → ys[j]? = some m → os[j]? = some o → IsOut l ys m o,
      ⟨[], rfl, s0, e1, gput_same, e2, rfl, fun j m o h => absurd h (Nat.not_lt_zero _)⟩, fun _ _ _ _ ⟨os, hI⟩ => hI.2.2.2.1, ?_, ?_⟩
    · rintro i t ρ G' ht ⟨os, rfl, s, hd', hq', hp', hos, hout⟩
      obtain ⟨m, hm, rfl⟩ := map_at ht
      have hil := (List.getElem?_eq_some_iff.mp hm).1
      have hylen : ys.length < 64 := hfew ys my
      have mk : m ∈ ks := py.mem_iff.mp (List.mem_of_getElem? hm)
      refine ⟨d, hvK l ks, hd', fun od ws => ?_⟩
      have eF : gput G' d (.fz od ws (hvK l ks)) d = some (.fz od ws (hvK l ks)) := gput_same
      have nd : ∀ x o, x ≠ d → G' x = some o → gput G' d (.fz od ws (hvK l ks)) x = some o := fun x o n e => (gput_ne n).trans e
      refine ⟨od, ws, _, eF, fun D hD => ⟨by unfold hvK; simp; omega, fun k acc G3 => acc = ((ks.take k).filter fun o => inB (posOf l m) (posOf l o)).map (rankT l) ∧ Sub (gput G' d (.fz od ws (hvK l ks))) G3 ∧ G3 D = some (.lst acc) ∧ acc.length ≤ k, ⟨by simp, (Sub.refl _).new hD, gput_same, by simp⟩, ?_, ?_, ?_⟩⟩
      · rintro k acc G3 hkk ⟨rfl, s3, e, z⟩
        exact ⟨s3 _ _ eF, e, z⟩
      · rintro j t acc G3 ht ⟨rfl, s3, e, z⟩
        obtain ⟨kv, hkv, rfl⟩ := map_at ht
        unfold hvK at hkv
        rw [List.getElem?_map] at hkv
        obtain ⟨o, ho2, rfl⟩ := Option.map_eq_some_iff.mp hkv
        have ok : o ∈ ks := List.mem_of_getElem? ho2
        have dr : DRd G3 d (hvK l ks) := .inr ⟨od, ws, s3 _ _ eF⟩
        have p1 := posOf_len (l := l) (m := m)
        refine ⟨_, _, _, rfl, dr, hvK_at mk, _, _, _, rfl, dr, hvK_at ok, ?_⟩
        refine ⟨_, _, rfl, by omega, fun c => ?_, fun c => ?_⟩
        · refine ⟨d, l, ks, o, rfl, dr, ok, ?_⟩
          refine ⟨e, _, Sub.refl _, ?_, s3.mut hD, gput_same, by rw [List.length_append]; exact Nat.succ_le_succ z⟩
          rw [take_one ho2, List.filter_append, List.map_append, filt1 (p := fun o => inB (posOf l m) (posOf l o)) c]; rfl
        · refine ⟨_, Sub.refl _, ?_, s3, e, by omega⟩
          rw [take_one ho2, List.filter_append, filt0 (p := fun o => inB (posOf l m) (posOf l o)) c, List.append_nil]
      · rintro acc G3 ⟨rfl, s3, e, z⟩
        have lk : (hvK l ks).length = ks.length := by unfold hvK; rw [List.length_map]
        rw [List.length_map, lk, List.take_length] at e
        refine ⟨s3 _ _ eF, ?_⟩
        have nDd : D ≠ d := (gne eF hD).symm
        have kk : ∀ x o, x ≠ d → G' x = some o → gput G3 d (.dK (hvK l ks)) x = some o := fun x o n e => (gput_ne n).trans (s3 _ _ (nd x o n e))
        have sG : Sub G (gput G3 d (.dK (hvK l ks))) := fun x o ex => kk x o (gne ex hd) (s x o ex)
        have f1 : gput G3 d (.dK (hvK l ks)) d = some (.dK (hvK l ks)) := gput_same
        have f2 := kk _ _ pd hp'
        have f3 := kk _ _ qd hq'
        have f4 : gput G3 d (.dK (hvK l ks)) D = _ := (gput_ne nDd).trans e
        generalize gput G3 d (.dK (hvK l ks)) = G4 at sG f1 f2 f3 f4 ⊢
        clear kk e z s3 nd eF hD nDd hd' hq' hp' s lk
        generalize hA : (ks.filter fun o => inB (posOf l m) (posOf l o)) = A at f4
        have Am : ∀ x, x ∈ A ↔ x ∈ ks ∧ inB (posOf l m) (posOf l x) = true := fun x => by rw [← hA, List.mem_filter]
        have Al : A.length ≤ ks.length := by rw [← hA]; exact List.length_filter_le _ _
        refine ⟨_, f4, fun D2 hD2 => ⟨by rw [List.length_map]; omega, fun k acc G5 => acc = ((A.take k).filter fun o => tlt (rankT l o) (rankT l m)).map (rankT l) ∧ Sub G4 G5 ∧ G5 D2 = some (.lst acc) ∧ acc.length ≤ k, ⟨by simp, (Sub.refl _).new hD2, gput_same, by simp⟩, ?_, ?_, ?_⟩⟩
        · rintro k acc G5 hkk ⟨rfl, s5, e, z⟩
          exact ⟨s5 _ _ f4, e, z⟩
        · rintro j t acc G5 ht ⟨rfl, s5, e, z⟩
          obtain ⟨o, ho2, rfl⟩ := map_at ht
          have ok : o ∈ ks := ((Am o).mp (List.mem_of_getElem? ho2)).1
          refine ⟨d, l, ks, m, rfl, .inl (s5 _ _ f1), mk, ?_⟩
          refine ⟨rank_eqOk (hkn o ok), rank_eqOk (hkn m mk), rank_cmp, fun c => ?_, fun c => ?_⟩
          · refine ⟨e, _, Sub.refl _, ?_, s5.mut hD2, gput_same, by rw [List.length_append]; exact Nat.succ_le_succ z⟩
            rw [take_one ho2, List.filter_append, List.map_append, filt1 (p := fun o => tlt (rankT l o) (rankT l m)) c]; rfl
          · refine ⟨_, Sub.refl _, ?_, s5, e, by omega⟩
            rw [take_one ho2, List.filter_append, filt0 (p := fun o => tlt (rankT l o) (rankT l m)) c, List.append_nil]
        · rintro acc G5 ⟨rfl, s5, e, z⟩
          rw [List.length_map, List.take_length] at e
          generalize hB : (A.filter fun o => tlt (rankT l o) (rankT l m)) = B at e
          have Bm : ∀ x, x ∈ B ↔ x ∈ ks ∧ OutOf l m x := fun x => by rw [← hB, List.mem_filter, Am x, and_assoc]; rfl
          have Bl : B.length ≤ ks.length := by rw [← hB]; exact Nat.le_trans (List.length_filter_le _ _) Al
          have so : SrtOk (B.map (rankT l)) := by
            refine ⟨fun x hx => ?_, fun x hx y hy => ?_⟩
            · obtain ⟨o, ho, rfl⟩ := List.mem_map.mp hx
              exact rank_ok (hkn o ((Bm o).mp ho).1)
            · obtain ⟨o, ho, rfl⟩ := List.mem_map.mp hx
              obtain ⟨o2, ho2, rfl⟩ := List.mem_map.mp hy
              exact rank_cmp
          refine ⟨_, e, so, fun zs pz wz r hr => ?_⟩
          obtain ⟨B', rfl, pB⟩ := perm_map pz
          have s6 := s5.new (o := .lst (B'.map (rankT l))) hr
          refine ⟨⟨_, s6 _ _ f2⟩, ?_⟩
          intro r2 hr2
          have s7 := s6.new (o := .lst []) hr2
          have eB : eqOks (B'.map (rankT l)) = true := eqOks_of fun x hx => by
            obtain ⟨o, ho, rfl⟩ := List.mem_map.mp hx
            exact rank_ok (hkn o ((Bm o).mp (pB.mem_iff.mp ho)).1)
          have fin : ∀ o : Option Str, IsOut l ys m o → ∀ G8 : Gp, Sub G4 G8 → lenOk [T.str m, optS o] (∃ xs, G8 p = some (.lst xs) ∧ xs.length < 100000 ∧ Wk (fun ρ' G' => ∃ os, ρ' = [some (fndT l), some (.ref d), some (.ref p), none, none, none, none] ∧ Sub G G' ∧ G' d = some (.dK (hvK l ks)) ∧ G' q = some (.lst (ys.map T.str)) ∧ G' p = some (.lst (aroundT (ys.take (i + 1)) os)) ∧ os.length = i + 1 ∧ ∀ (j : Nat) (m : Str) (o : Option Str), j < i + 1 → ys[j]? = some m → os[j]? = some o → IsOut l ys m o)
              [some (fndT l), some (.ref d), some (.ref p), some (.str m), some (.ref r), none, none] (gput G8 p (.lst (xs ++ [T.tup [T.str m, optS o]])))) := fun o hIs G8 s8 => by
            have l1 : (aroundT (ys.take i) os).length = i := by unfold aroundT; rw [List.length_zipWith, List.length_take, hos]; omega
            refine ⟨_, s8 _ _ f2, by rw [l1]; omega, ?_⟩
            refine ⟨_, _, .keep _ (.keep _ (.keep _ (.drop _ (.drop _ (.drop _ (.drop _ .nil)))))), Sub.refl _, os ++ [o], rfl, (sG.trans s8).mut hp0, (gput_ne pd.symm).trans (s8 _ _ f1), (gput_ne pq.symm).trans (s8 _ _ f3), ?_, by simp [hos], fun j m' o' hj hm' ho' => ?_⟩
            · rw [gput_same, take_one hm]
              unfold aroundT
              rw [List.zipWith_append (by rw [List.length_take, hos]; omega)]; rfl
            · by_cases c : j < i
              · rw [List.getElem?_append_left (by omega)] at ho'
                exact hout j m' o' c hm' ho'
              · have : j = i := by omega
                subst this
                rw [hm] at hm'; cases hm'
                rw [← hos] at ho'
                simp at ho'
                subst ho'
                exact hIs
          refine ⟨_, [], (gput_ne (gne gput_same hr2)).trans gput_same, gput_same, eB, rfl, fun c => ?_, fun c => ?_⟩
          · have hne : B' ≠ [] := fun z => by subst z; cases c
            have hl : 0 < B'.length := List.length_pos_iff.mpr hne
            have hlast : B'[B'.length - 1]? = some (B'.getLast hne) := by rw [← List.getLast?_eq_getElem?, List.getLast?_eq_some_getLast hne]
            have e7 : gput (gput G5 r (.lst (B'.map (rankT l)))) r2 (.lst []) r = some (.lst (B'.map (rankT l))) := (gput_ne (gne gput_same hr2)).trans gput_same
            refine ⟨_, B'.length - 1, rankT l (B'.getLast hne), e7, ?_, ?_, ?_⟩
            · rw [List.length_map]
              unfold ixN
              rw [if_neg (by omega), if_pos (by omega)]
              congr 1
              omega
            · rw [List.getElem?_map, hlast]; rfl
            · refine fin (some (B'.getLast hne)) ⟨?_, ?_, fun x hx hxo => ?_⟩ _ s7
              · exact py.mem_iff.mpr ((Bm _).mp (pB.mem_iff.mp (List.getLast_mem hne))).1
              · exact ((Bm _).mp (pB.mem_iff.mp (List.getLast_mem hne))).2
              · have hx' : x ∈ B' := pB.mem_iff.mpr ((Bm x).mpr ⟨py.mem_iff.mp hx, hxo⟩)
                have sp := List.dropLast_concat_getLast hne
                have irr : ∀ y, tlt (rankT l y) (rankT l y) = false := fun y => tlt_irr _
                rw [← sp] at hx'
                rcases List.mem_append.mp hx' with z | z
                · have w2 := wz
                  rw [← sp, List.map_append, List.pairwise_append] at w2
                  exact w2.2.2 _ (List.mem_map.mpr ⟨x, z, rfl⟩) _ (by simp)
                · rw [List.mem_singleton.mp z]; exact irr _
          · have hB0 : B' = [] := by
              cases hb : B' with
              | nil => rfl
              | cons a r => rw [hb] at c; cases c
            refine fin none (fun x hx hxo => ?_) _ s7
            have hx' : x ∈ B' := pB.mem_iff.mpr ((Bm x).mpr ⟨py.mem_iff.mp hx, hxo⟩)
            rw [hB0] at hx'; cases hx'
    · rintro ρ G' ⟨os, rfl, s, hd', hq', hp', hos, hout⟩
      rw [List.length_map, List.take_length] at hp'
      rw [List.length_map] at hos
      refine Ret.of (hQ ys G' p os my (sorted_srt sy) hos (fun i m o h1 h2 => hout i m o ?_ h1 h2) s hp')
      rw [List.length_map]
      exact (List.getElem?_eq_some_iff.mp h1).1
abbrev s_law_bag : Stmt := topS 15
abbrev N_law_bag : List Str := ["script", "k", "cell"]
theorem sc_law_bag : FnScope N_law_bag ["script", "k"] (defScope s_law_bag) := ⟨rfl, rfl, rfl, by decide +kernel, rfl, by decide +kernel, by decide +kernel⟩
set_option maxHeartbeats 4000000 in
theorem ok_law_bag {P : Program} {w : World} {K : PySem.W.Frag} {mg : Str → Option Value} {base : Heap} (F : FunAt K mg "_law_bag" "_law_bag" s_law_bag ["script", "k"]) (TX : Txt K mg)  :
    DefOk P w K mg base 1 "_law_bag" ["script", "k"] sp_law_bag := by
  refine okd F sc_law_bag (fun ts G Q E h => ?len) (fun f cdv A outer s H E hr => ss_cons (s_set (i := 2) sc_law_bag.nd rfl (by first | exact Or.inl rfl | exact Or.inr rfl) (e_int))
    (ss_cons (s_if (t_cmp (o_lt2 (un66 hr)) (e_var 1) (e_callB b_len (by rfl) TX.n_len (by decide +kernel) (a_cons (e_var 0) a_nil)) (nomark _)) (ss_one (s_set (i := 2) sc_law_bag.nd rfl (by first | exact Or.inl rfl | exact Or.inr rfl) (e_callB b_abs (by rfl) TX.n_abs (by decide +kernel) (a_cons (e_ix i_ix (e_var 0) (e_var 1) (fun _ _ => rfl)) a_nil)))) (ss_nil))
    (ss_cons (s_if (t_cmp (o_lt2 (un66 hr)) (e_var 2) (e_op o_pow (e_int) (e_int)) (nomark _)) (ss_one (s_ret (e_lst (a_cons (e_int) (a_cons (e_op o_add (e_int) (e_op o_mod (e_op o_add (e_op o_mul (e_var 2) (e_int)) (e_op o_mul (e_int) (e_var 1))) (e_int))) a_nil))))) (ss_nil))
    (ss_one (s_ret (e_lst (a_cons (e_var 2) (a_cons (e_op o_add (e_int) (e_op o_mod (e_op o_add (e_var 2) (e_var 1)) (e_int))) a_nil))))))))
    (fun ts G Q E h => ?run)
  case len => unfold sp_law_bag at h; split at h <;> first | rfl | exact h.elim
  case run =>
    unfold sp_law_bag at h
    split at h
    · rename_i ns k
      obtain ⟨⟨h0, h1, hn⟩, hQ⟩ := h
      -- behind the choice of the cell
      have go : ∀ c : Int, 0 ≤ c → ∀ ρ : REnv, ρ = [some (.scr ns), some (.int k), some (.int c)] → (qIfS (qTB (qOp fLt (qVar 2) (qOp fPow (qC (.int 10)) (qC (.int 18)))))
          (qRet (qLst (qCons (qC (.int 0)) (qCons (qOp fAdd (qC (.int 1)) (qOp fMod (qOp fAdd (qOp fMulT (qVar 2) (qC (.int 7919))) (qOp fMulT (qC (.int 104729)) (qVar 1))) (qC (.int 2147483646)))) qNil)))) qNext)
          { endOf Q with nx := qRet (qLst (qCons (qVar 2) (qCons (qOp fAdd (qC (.int 1)) (qOp fMod (qOp fAdd (qVar 2) (qVar 1)) (qC (.int 2147483646)))) qNil))) (endOf Q) } ρ G := by
        rintro c hc ρ rfl
        refine ⟨⟨by decide, by decide, by decide⟩, fun b => ?_, fun b => ?_⟩
        · have hb : c < 1000000000000000000 := of_decide_eq_true b
          refine ⟨mulOk 64 64 (by omega) (by decide) (by decide), mulOk 64 64 (by decide) (by omega) (by decide), by decide, fun p hp => ?_⟩
          have m0 := Int.emod_nonneg (c * 7919 + 104729 * k) (show (2147483646 : Int) ≠ 0 by decide)
          have m1 := Int.emod_lt_of_pos (c * 7919 + 104729 * k) (show (0 : Int) < 2147483646 by decide)
          exact Ret.of (hQ p 0 _ hp ⟨by omega, by omega, by omega⟩)
        · refine ⟨by decide, fun p hp => ?_⟩
          have m0 := Int.emod_nonneg (c + k) (show (2147483646 : Int) ≠ 0 by decide)
          have m1 := Int.emod_lt_of_pos (c + k) (show (0 : Int) < 2147483646 by decide)
          exact Ret.of (hQ p c _ hp ⟨hc, by omega, by omega⟩)
      refine ⟨fun c => ?_, fun c => ?_⟩
      · have hk : k < ns.length := of_decide_eq_true c
        refine ⟨k.toNat, ns[k.toNat]'(by omega), ?_, List.getElem?_eq_getElem (by omega), ?_⟩
        · have := ixN_nat (n := k.toNat) (len := ns.length) (by omega)
          rw [show Int.ofNat k.toNat = k by show ((k.toNat : Nat) : Int) = k; omega] at this
          exact this
        · refine go _ ?_ _ rfl
          split <;> omega
      · exact go 0 (Int.le_refl 0) _ rfl
    · exact h.elim
abbrev s_law_take : Stmt := topS 16
abbrev N_law_take : List Str := ["bag", "many", "found"]
theorem sc_law_take : FnScope N_law_take ["bag", "many"] (defScope s_law_take) := ⟨rfl, rfl, rfl, by decide +kernel, rfl, by decide +kernel, by decide +kernel⟩
set_option maxHeartbeats 4000000 in
theorem ok_law_take {P : Program} {w : World} {K : PySem.W.Frag} {mg : Str → Option Value} {base : Heap} (F : FunAt K mg "_law_take" "_law_take" s_law_take ["bag", "many"]) (TX : Txt K mg)  :
    DefOk P w K mg base 1 "_law_take" ["bag", "many"] sp_law_take := by
  refine okd F sc_law_take (fun ts G Q E h => ?len) (fun f cdv A outer s H E hr => ss_cons (s_if (t_cmp o_gt (e_ix i_ixC (e_var 0) (e_int) (fun _ _ => rfl)) (e_int) (nomark _)) (ss_cons (s_set (i := 2) sc_law_take.nd rfl (by first | exact Or.inl rfl | exact Or.inr rfl) (e_op o_mod (e_ix i_ixC (e_var 0) (e_int) (fun _ _ => rfl)) (e_var 1)))
    (ss_cons (s_asg (own := []) (e_op o_div (e_ix i_ixC (e_var 0) (e_int) (fun _ _ => rfl)) (e_var 1)) (g_sub (e_var 0) (e_int) set_lst))
    (ss_one (s_ret (e_var 2))))) (ss_nil))
    (ss_cons (s_asg (own := []) (e_op o_mod (e_op o_mul (e_ix i_ixC (e_var 0) (e_int) (fun _ _ => rfl)) (e_int)) (e_int)) (g_sub (e_var 0) (e_int) set_lst))
    (ss_one (s_ret (e_op o_mod (e_op o_div (e_op o_mod (e_op o_mul (e_ix i_ixC (e_var 0) (e_int) (fun _ _ => rfl)) (e_ix i_ixC (e_var 0) (e_int) (fun _ _ => rfl))) (e_int)) (e_int)) (e_var 1))))))
    (fun ts G Q E h => ?run)
  case len => unfold sp_law_take at h; split at h <;> first | rfl | exact h.elim
  case run =>
    unfold sp_law_take at h
    split at h
    · rename_i b m
      obtain ⟨⟨⟨c1, c2, hb, ok⟩, m0, m1⟩, hQ⟩ := h
      have hd : DivOk m := divOk 64 m0 (by omega) (by decide)
      refine ⟨_, hb, fun c => ?_, fun c => ?_⟩
      · have hc : 0 < c1 := of_decide_eq_true c
        refine ⟨_, hb, m0, _, hb, hd, _, 0, hb, rfl, ?_⟩
        exact Ret.of (hQ _ _ (Int.emod_nonneg _ (by omega)) (Int.emod_lt_of_pos _ m0) ⟨c1 / m, c2, ⟨Int.ediv_nonneg ok.h1 (by omega), ok.h2, ok.h3⟩, rfl⟩)
      · have a0 := Int.emod_nonneg (c2 * 48271) (show (2147483647 : Int) ≠ 0 by decide)
        have a1 := Int.emod_lt_of_pos (c2 * 48271) (show (0 : Int) < 2147483647 by decide)
        have n2 : c2.natAbs < 2 ^ 64 := by have := ok.h2; have := ok.h3; omega
        refine ⟨_, hb, mulOk 64 64 n2 (by decide) (by decide), by decide, _, 1, hb, rfl, ?_⟩
        have n3 : (c2 * 48271 % 2147483647).natAbs < 2 ^ 64 := by omega
        refine ⟨_, gput_same, _, gput_same, mulOk 64 64 n3 n3 (by decide), by decide, divOk 7 (by decide) (by decide) (by decide), m0, ?_⟩
        exact Ret.of (hQ _ _ (Int.emod_nonneg _ (by omega)) (Int.emod_lt_of_pos _ m0) ⟨c1, _, ⟨ok.h1, a0, a1⟩, rfl⟩)
    · exact h.elim
abbrev s_law_is_name : Stmt := topS 17
abbrev N_law_is_name : List Str := ["thing", "sign"]
theorem sc_law_is_name : FnScope N_law_is_name ["thing"] (defScope s_law_is_name) := ⟨rfl, rfl, rfl, by decide +kernel, rfl, by decide +kernel, by decide +kernel⟩
set_option maxHeartbeats 4000000 in
theorem ok_law_is_name {P : Program} {w : World} {K : PySem.W.Frag} {mg : Str → Option Value} {base : Heap} (F : FunAt K mg "_law_is_name" "_law_is_name" s_law_is_name ["thing"]) (TX : Txt K mg)  :
    DefOk P w K mg base 1 "_law_is_name" ["thing"] sp_law_is_name := by
  refine okd F sc_law_is_name (fun ts G Q E h => ?len) (fun f cdv A outer s H E hr => ss_cons (s_if (PW.pt (w_or (t_not (t_tr (e_callB b_isi (by rfl) TX.n_isinstance (by decide +kernel) (a_cons (e_var 0) (a_cons (e_ty .str (by rfl) TX.n_str (by decide +kernel)) a_nil))))) (pw_or1 (t_not (t_chain o_le o_le (e_int) (e_callB b_len (by rfl) TX.n_len (by decide +kernel) (a_cons (e_var 0) a_nil)) (e_int)))))) (ss_one (s_ret (e_bl))) (ss_nil))
    (ss_one (s_ret (e_cmp (o_eqL hr.units) (e_lc (own := [("sign", 1)]) rfl sc_law_is_name.nd (i_str (e_var 0)) (blkOk_by (N := N_law_is_name) (sc := defScope s_law_is_name) (own := [("sign", 1)]) (by decide +kernel)) (fun _ _ _ _ _ => g_name (i := 1) sc_law_is_name.nd rfl (by first | exact Or.inl rfl | exact Or.inr rfl)) (fun _ _ _ _ _ => ts_one (t_cmp o_notinS (e_var 1) (e_str) rfl)) (fun _ _ _ _ _ => e_var 1)) (e_lst (a_nil)) (nomark _)))))
    (fun ts G Q E h => ?run)
  case len => obtain ⟨x, rfl, _⟩ := h; rfl
  case run =>
    obtain ⟨t, rfl, hx, hl, hQ⟩ := h
    cases t with
    | str x =>
      have hl := hl x rfl
      have no : ¬ (1 ≤ x.length ∧ x.length ≤ 8) → isNm (.str x) = false := fun z => by
        show nameOk x = false
        unfold nameOk
        by_cases h1 : 1 ≤ x.length
        · rw [decide_eq_false fun q => z ⟨h1, q⟩]; simp
        · rw [decide_eq_false h1]; simp
      refine ⟨fun c => (by cases c), fun _ => ?_⟩
      refine ⟨hl, fun c1 => ⟨fun c2 => ?_, fun c2 => ?_⟩, fun c1 => ?_⟩
      · have c2 : ¬ (x.length : Int) ≤ 8 := of_decide_eq_false (show decide ((x.length : Int) ≤ 8) = false by simpa using c2)
        rw [no (by omega)] at hQ
        exact ⟨G, Sub.refl _, hQ⟩
      · have c1 := of_decide_eq_true c1
        have c2 : (x.length : Int) ≤ 8 := of_decide_eq_true (show decide ((x.length : Int) ≤ 8) = true by simpa using c2)
        have hz : (signsT x).length = x.length := by unfold signsT Str.length; simp
        refine fun D hD => ⟨by omega, fun k acc G' => acc = (((x.cps.toList.take k).filter fun c => !decide (c ∈ ("abcdefghijklmnopqrstuvwxyz" : Str).cps.toList)).map fun c => T.str ⟨#[c]⟩) ∧ Sub G G' ∧ G' D = some (.lst acc) ∧ acc.length ≤ k, ⟨by simp, (Sub.refl _).new hD, gput_same, by simp⟩, ?_, ?_, ?_⟩
        · rintro k acc G' hk ⟨rfl, s, e, z⟩
          exact ⟨trivial, e, z⟩
        · rintro k t acc G' ht ⟨rfl, s, e, z⟩
          obtain ⟨c, hc, rfl⟩ := map_at ht
          refine ⟨c, rfl, fun q => ?_, fun q => ?_⟩
          · rw [Bool.true_bne] at q
            refine ⟨e, _, Sub.refl _, ?_, s.mut hD, gput_same, by rw [List.length_append]; exact Nat.succ_le_succ z⟩
            rw [take_one hc, List.filter_append, List.map_append, filt1 (p := fun c => !decide (c ∈ ("abcdefghijklmnopqrstuvwxyz" : Str).cps.toList)) q]; rfl
          · rw [Bool.true_bne] at q
            refine ⟨_, Sub.refl _, ?_, s, e, by omega⟩
            rw [take_one hc, List.filter_append, filt0 (p := fun c => !decide (c ∈ ("abcdefghijklmnopqrstuvwxyz" : Str).cps.toList)) q, List.append_nil]
        · rintro acc G' ⟨rfl, s, e, z⟩
          intro p hp
          rw [show (signsT x).length = x.cps.toList.length by unfold signsT; simp, List.take_length] at e
          refine ⟨_, [], (Sub.refl _).new hp _ _ e, gput_same, fun q => ?_, ?_⟩
          · have q0 : (List.map (fun c => T.str ⟨#[c]⟩) (x.cps.toList.filter fun c => !decide (c ∈ ("abcdefghijklmnopqrstuvwxyz" : Str).cps.toList))) = [] := List.eq_nil_of_length_eq_zero q
            rw [q0]
            exact ⟨rfl, rfl⟩
          refine ⟨G, s.new hp, ?_⟩
          have : isNm (.str x) = (false != teqs (List.map (fun c => T.str ⟨#[c]⟩) (x.cps.toList.filter fun c => !decide (c ∈ ("abcdefghijklmnopqrstuvwxyz" : Str).cps.toList))) []) := by
            show nameOk x = _
            unfold nameOk
            rw [decide_eq_true (by omega : 1 ≤ x.length), decide_eq_true (by omega : x.length ≤ 8), Bool.true_and, Bool.true_and, Bool.false_bne]
            rw [show (fun c => decide (97 ≤ c) && decide (c ≤ 122)) = fun c => decide (c ∈ ("abcdefghijklmnopqrstuvwxyz" : Str).cps.toList) from funext letter_dec]
            generalize x.cps.toList = l
            induction l with
            | nil => rfl
            | cons c l ih =>
              by_cases h : c ∈ ("abcdefghijklmnopqrstuvwxyz" : Str).cps.toList
              · rw [List.all_cons, decide_eq_true h, Bool.true_and, ih, List.filter_cons, decide_eq_true h]; rfl
              · rw [List.all_cons, decide_eq_false h, Bool.false_and, List.filter_cons, decide_eq_false h]; rfl
          rw [← this]
          exact hQ
      · have c1 := of_decide_eq_false c1
        rw [no (by omega)] at hQ
        exact ⟨fun _ => ⟨G, Sub.refl _, hQ⟩, fun c => (by cases c)⟩
    | ref a =>
      obtain ⟨xs, hg⟩ := hx
      exact ⟨xs, hg, fun _ => ⟨fun _ => ⟨G, Sub.refl _, hQ⟩, fun c => (by cases c)⟩, fun c => (by cases c)⟩
    | ty _ => exact hx.elim
    | scr _ => exact hx.elim
    | _ => exact ⟨fun _ => ⟨fun _ => ⟨G, Sub.refl _, hQ⟩, fun c => (by cases c)⟩, fun c => (by cases c)⟩
abbrev s_law_odd : Stmt := topS 19
abbrev N_law_odd : List Str := ["bag", "some"]
theorem sc_law_odd : FnScope N_law_odd ["bag"] (defScope s_law_odd) := ⟨rfl, rfl, rfl, by decide +kernel, rfl, by decide +kernel, by decide +kernel⟩
set_option maxHeartbeats 4000000 in
theorem ok_law_odd {P : Program} {w : World} {K : PySem.W.Frag} {mg : Str → Option Value} {base : Heap} (F : FunAt K mg "_law_odd" "_law_odd" s_law_odd ["bag"]) (TX : Txt K mg) (D_law_take : DefOk P w K mg base 1 "_law_take" ["bag", "many"] sp_law_take) :
    DefOk P w K mg base 2 "_law_odd" ["bag"] sp_law_odd := by
  refine okd F sc_law_odd (fun ts G Q E h => ?len) (fun f cdv A outer s H E hr => ss_cons (s_set (i := 1) sc_law_odd.nd rfl (by first | exact Or.inl rfl | exact Or.inr rfl) (e_lst (a_cons (e_non) (a_cons (e_bl) (a_cons (e_bl) (a_cons (e_int) (a_cons (e_int) (a_cons (e_neg (e_int)) (a_cons (e_int) (a_cons (e_op o_pow (e_int) (e_int)) (a_cons (e_str) (a_cons (e_str) (a_cons (e_str) (a_cons (e_tup (a_nil)) (a_cons (e_lst (a_nil)) (a_cons (e_tup (a_cons (e_int) (a_cons (e_int) a_nil))) (a_cons (e_tup (a_cons (e_int) (a_cons (e_int) a_nil))) (a_cons (e_tup (a_cons (e_non) a_nil)) (a_cons (e_tup (a_cons (e_int) (a_cons (e_int) a_nil))) a_nil)))))))))))))))))))
    (ss_cons (s_set (i := 1) sc_law_odd.nd rfl (by first | exact Or.inl rfl | exact Or.inr rfl) (e_op o_add (e_var 1) (e_lst (a_cons (e_tup (a_cons (e_tup (a_cons (e_str) (a_cons (e_tup (a_cons (e_str) a_nil)) a_nil))) a_nil)) (a_cons (e_tup (a_cons (e_str) (a_cons (e_tup (a_cons (e_str) a_nil)) a_nil))) (a_cons (e_lst (a_cons (e_tup (a_cons (e_str) (a_cons (e_int) a_nil))) a_nil)) (a_cons (e_lst (a_cons (e_tup (a_cons (e_str) (a_cons (e_int) a_nil))) a_nil)) (a_cons (e_tup (a_cons (e_tup (a_cons (e_int) (a_cons (e_int) a_nil))) (a_cons (e_tup (a_cons (e_int) (a_cons (e_int) a_nil))) (a_cons (e_int) a_nil)))) a_nil))))))))
    (ss_one (s_ret (e_ix i_ix (e_var 1) (e_callD D_law_take hr (by rfl) (a_cons (e_var 0) (a_cons (e_callB b_len (by rfl) TX.n_len (by decide +kernel) (a_cons (e_var 1) a_nil)) a_nil))) (fun _ _ => rfl))))))
    (fun ts G Q E h => ?run)
  case len => obtain ⟨b, av, rfl, _⟩ := h; rfl
  case run =>
    obtain ⟨b, av, rfl, hm, hkn, hb, hQ⟩ := h
    have t0 := BT.start hb
    refine ⟨⟨by decide, by decide, by decide⟩, ?_⟩
    intro p1 hp1
    have t1 := t0.new (o := .lst []) hp1
    refine ⟨(show 17 ≤ 100000 by decide), fun p2 hp2 => ?_⟩
    generalize hA : ([T.non, .bl true, .bl false, .int 0, .int 1, .int (-1), .int 5, .int (10 ^ Int.toNat 30), .str "", .str "a", .str "mould", .tup [], .ref p1, .tup [.int 1, .int 2], .tup [.int 2, .int 4], .tup [.non], .tup [.int 0, .int 1]] : List T) = A at *
    have t2 := t1.new (o := .lst A) hp2
    intro p3 hp3
    have t3 := t2.new (o := .lst [.tup [.str "mould", .int 0]]) hp3
    intro p4 hp4
    have t4 := t3.new (o := .lst [.tup [.str "cast", .int 0]]) hp4
    intro p5 hp5
    generalize hB : ([T.tup [.tup [.str "a", .tup [.str "ink"]]], .tup [.str "a", .tup [.str "ink"]], .ref p3, .ref p4, .tup [.tup [.int 1, .int 2], .tup [.int 0, .int 1], .int 3]] : List T) = B at *
    have t5 := t4.new (o := .lst B) hp5
    have lA : A.length = 17 := by rw [← hA]; rfl
    have lB : B.length = 5 := by rw [← hB]; rfl
    have e2 : gput (gput (gput (gput (gput G p1 (.lst [])) p2 (.lst A)) p3 (.lst [.tup [.str "mould", .int 0]])) p4 (.lst [.tup [.str "cast", .int 0]])) p5 (.lst B) p2 = some (.lst A) := ((((Sub.refl _).new hp3).new hp4).new hp5) _ _ gput_same
    refine ⟨A, B, e2, gput_same, by omega, fun p6 hp6 => ?_⟩
    have t6 := t5.new (o := .lst (A ++ B)) hp6
    refine ⟨_, gput_same, ⟨t6.bag, by rw [List.length_append]; omega, by rw [List.length_append]; omega⟩, fun x G7 l7 u7 g7 => ?_⟩
    have t7 := t6.to g7
    have hx : x.toNat < (A ++ B).length := by rw [List.length_append] at u7 ⊢; omega
    have hi := ixN_nat (n := x.toNat) (len := (A ++ B).length) hx
    rw [show Int.ofNat x.toNat = x by show ((x.toNat : Nat) : Int) = x; omega] at hi
    refine ⟨_, x.toNat, (A ++ B)[x.toNat], ((g7.ne (bag_new t5.bag hp6).symm).trans gput_same), hi, List.getElem?_eq_getElem hx, ?_⟩
    refine Ret.of (hQ _ _ t7 ?_)
    have n1 : p1 ∉ av := hkn.new hp1
    have s4 : Sub G (gput (gput (gput (gput G p1 (.lst [])) p2 (.lst A)) p3 (.lst [.tup [.str "mould", .int 0]])) p4 (.lst [.tup [.str "cast", .int 0]])) := ((((Sub.refl _).new hp1).new hp2).new hp3).new hp4
    have n3 : p3 ∉ av := hkn.new ((((Sub.refl _).new hp1).new hp2).free hp3)
    have n4 : p4 ∉ av := hkn.new (((((Sub.refl _).new hp1).new hp2).new hp3).free hp4)
    have up : ∀ a o, a ≠ b → gput (gput (gput (gput (gput (gput G p1 (.lst [])) p2 (.lst A)) p3 (.lst [.tup [.str "mould", .int 0]])) p4 (.lst [.tup [.str "cast", .int 0]])) p5 (.lst B)) p6 (.lst (A ++ B)) a = some o → G7 a = some o := fun a o n e => (g7.ne n).trans e
    have q1 : G7 p1 = some (.lst []) := up _ _ (fun z => n1 (by rw [z]; exact hm)) (((((((Sub.refl _).new hp2).new hp3).new hp4).new hp5).new hp6) _ _ gput_same)
    have q3 : G7 p3 = some (.lst [.tup [.str "mould", .int 0]]) := up _ _ (fun z => n3 (by rw [z]; exact hm)) (((((Sub.refl _).new hp4).new hp5).new hp6) _ _ gput_same)
    have q4 : G7 p4 = some (.lst [.tup [.str "cast", .int 0]]) := up _ _ (fun z => n4 (by rw [z]; exact hm)) ((((Sub.refl _).new hp5).new hp6) _ _ gput_same)
    have S : ∀ {x : Str} {n : Nat}, x.length ≤ 350 → Dat av G7 1 n (.str x) := fun h => Dat.str.mpr (by show _ + 100 ≤ 150 * 3; omega)
    have I : ∀ {i : Int} {n : Nat}, i.natAbs < 2 ^ 121 → Dat av G7 1 n (.int i) := fun h => Dat.int.mpr h
    have z1 : (("" : Str)).length ≤ 350 := by decide
    have z2 : (("a" : Str)).length ≤ 350 := by decide
    have z3 : (("mould" : Str)).length ≤ 350 := by decide
    have z4 : (("ink" : Str)).length ≤ 350 := by decide
    have z5 : (("cast" : Str)).length ≤ 350 := by decide
    have N : ∀ n, Dat av G7 1 (n + 1) (.tup []) := fun n => ⟨by decide, fun t h => by cases h⟩
    have C : ∀ {n : Nat} {t : T} {ts : List T}, ts.length < 100 → Dat av G7 1 n t → Dat av G7 1 (n + 1) (.tup ts) → Dat av G7 1 (n + 1) (.tup (t :: ts)) := fun h1 h2 h3 => ⟨by rw [List.length_cons]; omega, fun u hu => by
      rcases List.mem_cons.mp hu with e | e
      · rw [e]; exact h2
      · exact h3.2 u e⟩
    have all : ∀ t ∈ A ++ B, Dat av G7 1 3 t := by
      intro t ht
      rw [← hA, ← hB] at ht
      simp only [List.cons_append, List.nil_append, List.mem_cons, List.not_mem_nil, or_false] at ht
      have k1 : (0 : Int).natAbs < 2 ^ 121 := by decide
      have k2 : (1 : Int).natAbs < 2 ^ 121 := by decide
      have k3 : (2 : Int).natAbs < 2 ^ 121 := by decide
      have k4 : (3 : Int).natAbs < 2 ^ 121 := by decide
      have k5 : (4 : Int).natAbs < 2 ^ 121 := by decide
      have d12 : ∀ n, Dat av G7 1 (n + 1) (.tup [.int 1, .int 2]) := fun n => C (by decide) (I k2) (C (by decide) (I k3) (N _))
      have d01 : ∀ n, Dat av G7 1 (n + 1) (.tup [.int 0, .int 1]) := fun n => C (by decide) (I k1) (C (by decide) (I k2) (N _))
      have da : ∀ n, Dat av G7 1 (n + 2) (.tup [.str "a", .tup [.str "ink"]]) := fun n => C (by decide) (S z2) (C (by decide) (C (by decide) (S z4) (N _)) (N _))
      rcases ht with rfl | rfl | rfl | rfl | rfl | rfl | rfl | rfl | rfl | rfl | rfl | rfl | rfl | rfl | rfl | rfl | rfl | rfl | rfl | rfl | rfl | rfl
      · exact Dat.non
      · exact Dat.bl
      · exact Dat.bl
      · exact I k1
      · exact I k2
      · exact I (by decide)
      · exact I (by decide)
      · exact I (by decide +kernel)
      · exact S z1
      · exact S z2
      · exact S z3
      · exact N _
      · exact ⟨n1, _, q1, by decide, fun t h => by cases h⟩
      · exact d12 _
      · exact C (by decide) (I k3) (C (by decide) (I k5) (N _))
      · exact C (by decide) Dat.non (N _)
      · exact d01 _
      · exact C (by decide) (da _) (N _)
      · exact da _
      · exact ⟨n3, _, q3, by decide, fun t h => by
          rw [List.mem_singleton.mp h]
          exact C (by decide) (S z3) (C (by decide) (I k1) (N _))⟩
      · exact ⟨n4, _, q4, by decide, fun t h => by
          rw [List.mem_singleton.mp h]
          exact C (by decide) (S z5) (C (by decide) (I k1) (N _))⟩
      · exact C (by decide) (d12 _) (C (by decide) (d01 _) (C (by decide) (I k4) (N _)))
    exact all _ (List.getElem_mem hx)
abbrev s_law_spoilt : Stmt := topS 18
abbrev N_law_spoilt : List Str := ["bag", "thing", "kind_so", "rows", "at", "other"]
theorem sc_law_spoilt : FnScope N_law_spoilt ["bag", "thing"] (defScope s_law_spoilt) := ⟨rfl, rfl, rfl, by decide +kernel, rfl, by decide +kernel, by decide +kernel⟩
theorem okr_law_spoilt {P : Program} {w : World} {K : PySem.W.Frag} {mg : Str → Option Value} {base : Heap} (F : FunAt K mg "_law_spoilt" "_law_spoilt" s_law_spoilt ["bag", "thing"]) (TX : Txt K mg) (D_law_take : DefOk P w K mg base 1 "_law_take" ["bag", "many"] sp_law_take) (D_law_odd : DefOk P w K mg base 2 "_law_odd" ["bag"] sp_law_odd) : ∀ n : Nat, DefOk P w K mg base (3 + n) "_law_spoilt" ["bag", "thing"] (sp_law_spoilt n) := by
  intro n
  induction n with
  | zero => exact okd (k := 2) F sc_law_spoilt (fun ts G Q E h => (sp_law_spoilt_none h).elim) (fun f cdv A outer s H E hr => ss_never) (fun ts G Q E h => (sp_law_spoilt_none h).elim)
  | succ n D_law_spoilt =>
    refine okd (k := 3 + n) F sc_law_spoilt (fun ts G Q E h => ?len) (fun f cdv A outer s H E hr => ss_cons (s_set (i := 2) sc_law_spoilt.nd rfl (by first | exact Or.inl rfl | exact Or.inr rfl) (e_callD D_law_take (hr.mono (by omega)) (by rfl) (a_cons (e_var 0) (a_cons (e_int) a_nil))))
    (ss_cons (s_if (PW.pt (w_and (t_tr (e_callB b_isi (by rfl) TX.n_isinstance (by decide +kernel) (a_cons (e_var 1) (a_cons (e_tup (a_cons (e_ty .tuple (by rfl) TX.n_tuple (by decide +kernel)) (a_cons (e_ty .list (by rfl) TX.n_list (by decide +kernel)) a_nil))) a_nil)))) (w_and (t_cmp o_gt (e_callB b_len (by rfl) TX.n_len (by decide +kernel) (a_cons (e_var 1) a_nil)) (e_int) (nomark _)) (pw_and1 (t_cmp o_gt (e_var 2) (e_int) (nomark _)))))) (ss_cut (s_set (i := 3) sc_law_spoilt.nd rfl (by first | exact Or.inl rfl | exact Or.inr rfl) (e_callTy b_list (by rfl) TX.n_list (by decide +kernel) (a_cons (e_var 1) a_nil)))
    (ss_cons (s_set (i := 4) sc_law_spoilt.nd rfl (by first | exact Or.inl rfl | exact Or.inr rfl) (e_callD D_law_take (hr.mono (by omega)) (by rfl) (a_cons (e_var 0) (a_cons (e_callB b_len (by rfl) TX.n_len (by decide +kernel) (a_cons (e_var 3) a_nil)) a_nil))))
    (ss_cut (s_if (t_cmp (o_eq hr.units) (e_var 2) (e_int) (nomark _)) (ss_one (s_set (i := 3) sc_law_spoilt.nd rfl (by first | exact Or.inl rfl | exact Or.inr rfl) (e_op o_add (e_slice sl_seq (e_var 3) (o_none) (o_some (e_var 4))) (e_slice sl_seq (e_var 3) (o_some (e_op o_add (e_var 4) (e_int))) (o_none))))) (ss_one (s_if (t_cmp (o_eq hr.units) (e_var 2) (e_int) (nomark _)) (ss_one (s_set (i := 3) sc_law_spoilt.nd rfl (by first | exact Or.inl rfl | exact Or.inr rfl) (e_op o_add (e_slice sl_seq (e_var 3) (o_none) (o_some (e_op o_add (e_var 4) (e_int)))) (e_slice sl_seq (e_var 3) (o_some (e_var 4)) (o_none))))) (ss_one (s_if (t_cmp (o_eq hr.units) (e_var 2) (e_int) (nomark _)) (ss_cons (s_set (i := 5) sc_law_spoilt.nd rfl (by first | exact Or.inl rfl | exact Or.inr rfl) (e_callD D_law_take (hr.mono (by omega)) (by rfl) (a_cons (e_var 0) (a_cons (e_callB b_len (by rfl) TX.n_len (by decide +kernel) (a_cons (e_var 3) a_nil)) a_nil))))
    (ss_one (s_asg (own := []) (e_tup (a_cons (e_ix i_ix (e_var 3) (e_var 5) (fun _ _ => rfl)) (a_cons (e_ix i_ix (e_var 3) (e_var 4) (fun _ _ => rfl)) a_nil))) (g_tup (n := 2) rfl (gs_cons (g_sub (e_var 3) (e_var 4) set_lst) (gs_cons (g_sub (e_var 3) (e_var 5) set_lst) (gs_nil))))))) (ss_one (s_if (t_cmp (o_eq hr.units) (e_var 2) (e_int) (nomark _)) (ss_one (s_ret (e_if (t_tr (e_callB b_isi (by rfl) TX.n_isinstance (by decide +kernel) (a_cons (e_var 1) (a_cons (e_ty .tuple (by rfl) TX.n_tuple (by decide +kernel)) a_nil)))) (e_var 3) (e_callTy b_tuple (by rfl) TX.n_tuple (by decide +kernel) (a_cons (e_var 3) a_nil))))) (ss_one (s_asg (own := []) (e_callD D_law_spoilt hr (by rfl) (a_cons (e_var 0) (a_cons (e_ix i_ix (e_var 3) (e_var 4) (fun _ _ => rfl)) a_nil))) (g_sub (e_var 3) (e_var 4) set_lst))))))))))
    (ss_one (s_ret (e_if (t_tr (e_callB b_isi (by rfl) TX.n_isinstance (by decide +kernel) (a_cons (e_var 1) (a_cons (e_ty .tuple (by rfl) TX.n_tuple (by decide +kernel)) a_nil)))) (e_callTy b_tuple (by rfl) TX.n_tuple (by decide +kernel) (a_cons (e_var 3) a_nil)) (e_var 3))))))) (ss_nil))
    (ss_cons (s_if (PW.pt (w_and (t_tr (e_callB b_isi (by rfl) TX.n_isinstance (by decide +kernel) (a_cons (e_var 1) (a_cons (e_ty .str (by rfl) TX.n_str (by decide +kernel)) a_nil)))) (pw_and1 (t_cmp o_gt (e_var 2) (e_int) (nomark _))))) (ss_one (s_ret (e_ix i_ix (e_lst (a_cons (e_op o_add (e_var 1) (e_str)) (a_cons (e_slice sl_seq (e_var 1) (o_none) (o_some (e_neg (e_int)))) (a_cons (e_op o_add (e_var 1) (e_str)) (a_cons (e_upper (e_var 1)) (a_cons (e_op o_add (e_var 1) (e_var 1)) (a_cons (e_op o_add (e_str) (e_var 1)) (a_cons (e_str) a_nil)))))))) (e_op o_sub (e_var 2) (e_int)) (fun _ _ => rfl)))) (ss_nil))
    (ss_cons (s_if (PW.pt (w_and (t_tr (e_callB b_isi (by rfl) TX.n_isinstance (by decide +kernel) (a_cons (e_var 1) (a_cons (e_ty .int (by rfl) TX.n_int (by decide +kernel)) a_nil)))) (pw_and1 (t_cmp o_gt (e_var 2) (e_int) (nomark _))))) (ss_one (s_ret (e_ix i_ix (e_lst (a_cons (e_op o_addN (e_var 1) (e_int)) (a_cons (e_op o_subN (e_var 1) (e_int)) (a_cons (e_negN (e_var 1)) (a_cons (e_op o_addN (e_var 1) (e_int)) (a_cons (e_callTy b_str (by rfl) TX.n_str (by decide +kernel) (a_cons (e_var 1) a_nil)) (a_cons (e_op o_addN (e_var 1) (e_int)) (a_cons (e_tup (a_cons (e_var 1) a_nil)) a_nil)))))))) (e_op o_sub (e_var 2) (e_int)) (fun _ _ => rfl)))) (ss_nil))
    (ss_one (s_ret (e_callD D_law_odd (hr.mono (by omega)) (by rfl) (a_cons (e_var 0) a_nil))))))))
      (fun ts G Q E h => ?run)
    case len => obtain ⟨b, av, x, m, k, rfl, _⟩ := h; rfl
    case run =>
      obtain ⟨b, av, x, m, k, rfl, hm, hk, hav, hkn, hb, hx, hQ⟩ := h
      refine ⟨⟨hb, by decide, by decide⟩, fun kd G1 lk uk g1 => ?_⟩
      have t1 := (BT.start hb).to g1
      have hx1 : Dat av G1 k m x := hx.off (Off.bt hav t1)
      have hk1 : Known av G1 := hkn.bt t1
      have odd : ∀ y G', BT b G1 G' → Dat av G' 1 3 y → Ret Q y G' := fun y G' t d => Ret.of (hQ y G' (t1.trans t) (d.mono (by omega) (fun _ z => z) (Off.refl _ _) (by omega)))
      cases x with
      | non =>
        refine ⟨fun c => (by cases c), fun _ => ?_⟩
        refine ⟨fun c => (by cases c), fun _ => ?_⟩
        refine ⟨fun c => (by cases c), fun _ => ?_⟩
        refine ⟨fun c => (by cases c), fun _ => ?_⟩
        refine ⟨fun c => (by cases c), fun _ => ?_⟩
        refine ⟨fun c => (by cases c), fun _ => ?_⟩
        exact ⟨b, av, rfl, hav, hk1, t1.bag, odd⟩
      | bl c =>
        refine ⟨fun c => (by cases c), fun _ => ?_⟩
        refine ⟨fun c => (by cases c), fun _ => ?_⟩
        refine ⟨fun c => (by cases c), fun _ => ?_⟩
        refine ⟨fun c => (by cases c), fun _ => ?_⟩
        refine ⟨fun _ => ?_, fun c => (by cases c)⟩
        refine ⟨fun c2 => ?_, fun _ => ⟨b, av, rfl, hav, hk1, t1.bag, odd⟩⟩
        have c2 : 1 < kd := of_decide_eq_true c2
        intro p hp
        generalize hA : ([T.int (b2i c + 1), .int (b2i c - 1), .int (-b2i c), .int (b2i c + 1000), .str (if c = true then "True" else "False"), .int (b2i c + 50), .tup [.bl c]] : List T) = A at *
        have lA : A.length = 7 := by rw [← hA]; rfl
        obtain ⟨j, t, h1, h2, h3, _⟩ := pick_at (ts := A) (i := kd - 2) (by omega) (by omega)
        refine ⟨A, j, t, gput_same, h1, h2, ?_⟩
        have bc : (b2i c).natAbs ≤ 1 := by cases c <;> decide
        have pw : 1 ≤ 2 ^ (120 + k) := Nat.one_le_two_pow
        refine Ret.of (hQ _ _ (t1.new hp) ?_)
        rw [← hA] at h3
        simp only [List.mem_cons, List.not_mem_nil, or_false] at h3
        rcases h3 with rfl | rfl | rfl | rfl | rfl | rfl | rfl
        · exact dat_num (by omega)
        · exact dat_num (by omega)
        · exact dat_num (by omega)
        · exact dat_num (by omega)
        · exact dat_str (l := 0) (by cases c <;> decide) (by have := Nat.pow_le_pow_right (show 0 < 3 by decide) (Nat.zero_le k); omega)
        · exact dat_num (by omega)
        · exact ⟨by show 1 ≤ 400 + (k + 1); omega, fun t ht => by rw [List.mem_singleton.mp ht]; exact Dat.bl⟩
      | int i =>
        have hi := Dat.int.mp hx
        refine ⟨fun c => (by cases c), fun _ => ?_⟩
        refine ⟨fun c => (by cases c), fun _ => ?_⟩
        refine ⟨fun c => (by cases c), fun _ => ?_⟩
        refine ⟨fun c => (by cases c), fun _ => ?_⟩
        refine ⟨fun _ => ?_, fun c => (by cases c)⟩
        refine ⟨fun c2 => ?_, fun _ => ⟨b, av, rfl, hav, hk1, t1.bag, odd⟩⟩
        have c2 : 1 < kd := of_decide_eq_true c2
        obtain ⟨s1, s2⟩ := str_int_len hi hk
        refine ⟨s1, ?_⟩
        intro p hp
        generalize hA : ([T.int (i + 1), .int (i - 1), .int (-i), .int (i + 1000), .str (toString i), .int (i + 50), .tup [.int i]] : List T) = A at *
        have lA : A.length = 7 := by rw [← hA]; rfl
        obtain ⟨j, t, h1, h2, h3, _⟩ := pick_at (ts := A) (i := kd - 2) (by omega) (by omega)
        refine ⟨A, j, t, gput_same, h1, h2, ?_⟩
        refine Ret.of (hQ _ _ (t1.new hp) ?_)
        rw [← hA] at h3
        simp only [List.mem_cons, List.not_mem_nil, or_false] at h3
        rcases h3 with rfl | rfl | rfl | rfl | rfl | rfl | rfl
        · exact dat_num (by omega)
        · exact dat_num (by omega)
        · exact dat_num (by omega)
        · exact dat_num (by omega)
        · exact dat_str (l := 0) (by show (Str.ofString (toString i)).length ≤ _; omega) (by have := Nat.pow_le_pow_right (show 0 < 3 by decide) (Nat.zero_le k); omega)
        · exact dat_num (by omega)
        · exact ⟨by show 1 ≤ 400 + (k + 1); omega, fun t ht => by rw [List.mem_singleton.mp ht]; exact dat_num (by omega)⟩
      | str z =>
        have hz := Dat.str.mp hx
        have h3k : 150 * 3 ^ k ≤ 150 * 3 ^ 5 := pow3_up hk
        have h3e : 150 * 3 ^ 5 = 36450 := by decide
        have la : (("a" : Str)).length = 1 := by decide
        have lb : ((" " : Str)).length = 1 := by decide
        have lz : (("z" : Str)).length = 1 := by decide
        refine ⟨fun c => (by cases c), fun _ => ?_⟩
        refine ⟨fun c => (by cases c), fun _ => ?_⟩
        refine ⟨fun _ => ?_, fun c => (by cases c)⟩
        refine ⟨fun c2 => ?_, fun _ => ?_⟩
        · have c2 : 1 < kd := of_decide_eq_true c2
          refine ⟨by omega, by omega, by omega, by omega, by omega, by omega, ?_⟩
          intro p hp
          generalize hA : ([T.str (z ++ "a"), .str ⟨(cutT z.cps.toList none (some (-1))).toArray⟩, .str (z ++ " "), .str (Txt.upper z), .str (z ++ z), .str ("z" ++ z), .str ""] : List T) = A at *
          have lA : A.length = 7 := by rw [← hA]; rfl
          obtain ⟨j, t, h1, h2, h3, _⟩ := pick_at (ts := A) (i := kd - 2) (by omega) (by omega)
          refine ⟨A, j, t, gput_same, h1, h2, ?_⟩
          refine Ret.of (hQ _ _ (t1.new hp) ?_)
          rw [← hA] at h3
          simp only [List.mem_cons, List.not_mem_nil, or_false] at h3
          have lu := PyProof.Rows.len_upper z
          rcases h3 with rfl | rfl | rfl | rfl | rfl | rfl | rfl
          · exact dat_str (l := z.length) (by rw [Str.length_append]; omega) hz
          · refine dat_str (l := z.length) ?_ hz
            have := cut_len (ts := z.cps.toList) (lo := none) (hi := some (-1))
            have e : (Str.mk (cutT z.cps.toList none (some (-1))).toArray).length = (cutT z.cps.toList none (some (-1))).length := by show Array.size _ = _; simp
            have e2 : z.cps.toList.length = z.length := by simp [Str.length]
            omega
          · exact dat_str (l := z.length) (by rw [Str.length_append]; omega) hz
          · exact dat_str (l := z.length) (by omega) hz
          · exact dat_str (l := z.length) (by rw [Str.length_append]; omega) hz
          · exact dat_str (l := z.length) (by rw [Str.length_append]; omega) hz
          · exact dat_str (l := z.length) (by show 0 ≤ _; omega) hz
        · refine ⟨fun c => (by cases c), fun _ => ?_⟩
          refine ⟨fun c => (by cases c), fun _ => ?_⟩
          exact ⟨b, av, rfl, hav, hk1, t1.bag, odd⟩
      | tup us =>
        obtain ⟨m', rfl⟩ : ∃ m', m = m' + 1 := by
          cases m with
          | zero => exact hx1.elim
          | succ m' => exact ⟨m', rfl⟩
        obtain ⟨hul, hus⟩ := hx1
        refine ⟨fun _ => ?_, fun c => (by cases c)⟩
        refine ⟨fun c1 => ⟨fun c2 => ?_, fun _ => ?_⟩, fun _ => ?_⟩
        · have c1 : 0 < (us.length : Int) := of_decide_eq_true c1
          have c2 : 0 < kd := of_decide_eq_true c2
          refine ⟨fun ρ G' => ∃ p, ρ = [some (.ref b), some (.tup us), some (.int kd), some (.ref p), none, none] ∧ G1 p = none ∧ G' = gput G1 p (.lst us), ?_, ?_⟩
          · intro p hp
            exact ⟨_, _, ELe.refl _, Sub.refl _, p, rfl, hp, rfl⟩
          rintro ρ G2 ⟨p, rfl, hp, rfl⟩
          have t2 := t1.new (o := .lst us) hp
          have t2' : BT b G1 (gput G1 p (.lst us)) := (BT.start t1.bag).new hp
          have hpb : p ≠ b := (bag_new t1.bag hp).symm
          have hpav : p ∉ av := hk1.new hp
          refine ⟨_, gput_same, ⟨t2.bag, by omega, by omega⟩, fun at_ G3 la ua g3 => ?_⟩
          have t3 := t2'.to g3
          have e3 : G3 p = some (.lst us) := (g3.ne hpb).trans gput_same
          obtain ⟨j, t, j1, j2, j3, j4⟩ := pick_at (ts := us) la ua
          have hj : j < us.length := (List.getElem?_eq_some_iff.mp j2).1
          have up : ∀ G' : Gp, BT b G1 G' → ∀ t ∈ us, Dat av G' (k + 1) (m' + 3) t := fun G' tt t ht => (hus t ht).mono (by omega) (fun _ z => z) (Off.bt hav tt) (by omega)
          refine ⟨fun ρ G' => ∃ p' rows, ρ = [some (.ref b), some (.tup us), some (.int kd), some (.ref p'), some (.int at_), none] ∧ G' p' = some (.lst rows) ∧ rows.length ≤ 401 + k ∧ (∀ t ∈ rows, Dat av G' (k + 1) (m' + 3) t) ∧ p' ∉ av ∧ BT b G1 G', ?_, ?_⟩
          · refine ⟨fun c => ?_, fun c => ?_⟩
            · -- gone
              refine ⟨us, e3, fun p4 hp4 => ?_⟩
              have t4 := t3.new (o := .lst (cutT us none (some at_))) hp4
              refine ⟨us, (Sub.refl _).new hp4 _ _ e3, fun p5 hp5 => ?_⟩
              have t5 := t4.new (o := .lst (cutT us (some (at_ + 1)) none)) hp5
              have lz : (cutT us none (some at_)).length + (cutT us (some (at_ + 1)) none).length ≤ 401 + k := by
                rw [cut_take la, cut_drop (by omega), List.length_take, List.length_drop]; omega
              refine ⟨_, _, (Sub.refl _).new hp5 _ _ gput_same, gput_same, by omega, fun p6 hp6 => ?_⟩
              have t6 := t5.new (o := .lst (cutT us none (some at_) ++ cutT us (some (at_ + 1)) none)) hp6
              refine ⟨_, _, ELe.refl _, Sub.refl _, p6, _, rfl, gput_same, by rw [List.length_append]; omega, fun u hu => ?_, (hk1.bt t5).new hp6, t6⟩
              rcases List.mem_append.mp hu with z | z
              · exact up _ t6 _ (cut_mem z)
              · exact up _ t6 _ (cut_mem z)
            refine ⟨fun c => ?_, fun c => ?_⟩
            · -- twice
              refine ⟨us, e3, fun p4 hp4 => ?_⟩
              have t4 := t3.new (o := .lst (cutT us none (some (at_ + 1)))) hp4
              refine ⟨us, (Sub.refl _).new hp4 _ _ e3, fun p5 hp5 => ?_⟩
              have t5 := t4.new (o := .lst (cutT us (some at_) none)) hp5
              have lz : (cutT us none (some (at_ + 1))).length + (cutT us (some at_) none).length ≤ 401 + k := by
                rw [cut_take (by omega), cut_drop la, List.length_take, List.length_drop]; omega
              refine ⟨_, _, (Sub.refl _).new hp5 _ _ gput_same, gput_same, by omega, fun p6 hp6 => ?_⟩
              have t6 := t5.new (o := .lst (cutT us none (some (at_ + 1)) ++ cutT us (some at_) none)) hp6
              refine ⟨_, _, ELe.refl _, Sub.refl _, p6, _, rfl, gput_same, by rw [List.length_append]; omega, fun u hu => ?_, (hk1.bt t5).new hp6, t6⟩
              rcases List.mem_append.mp hu with z | z
              · exact up _ t6 _ (cut_mem z)
              · exact up _ t6 _ (cut_mem z)
            refine ⟨fun c => ?_, fun c => ?_⟩
            · -- exchanged
              refine ⟨us, e3, ⟨t3.bag, by omega, by omega⟩, fun ot G4 lo uo g4 => ?_⟩
              have t4 := t3.to g4
              have e4 : G4 p = some (.lst us) := (g4.ne hpb).trans e3
              obtain ⟨j', t', o1, o2, o3, o4⟩ := pick_at (ts := us) lo uo
              refine ⟨us, j', t', e4, o1, o2, us, j, t, e4, j1, j2, ?_⟩
              refine ⟨us, j, e4, j1, ?_⟩
              refine ⟨_, j', gput_same, by rw [List.length_set]; exact o1, ?_⟩
              rw [gput_put]
              have t5 : BT b G1 (gput G4 p (.lst ((us.set j t').set j' t))) := by
                obtain ⟨c1, c2, ok, s⟩ := t4
                refine ⟨c1, c2, ok, s.mut ?_⟩
                rw [gput_ne hpb]; exact hp
              refine ⟨_, _, .keep _ (.keep _ (.keep _ (.keep _ (.keep _ (.drop _ .nil))))), Sub.refl _, p, _, rfl, gput_same, by rw [List.length_set, List.length_set]; omega, fun u hu => ?_, hpav, t5⟩
              rcases List.mem_or_eq_of_mem_set hu with z | z
              · rcases List.mem_or_eq_of_mem_set z with z | z
                · exact up _ t5 _ z
                · rw [z]; exact up _ t5 _ o3
              · rw [z]; exact up _ t5 _ j3
            refine ⟨fun c => ?_, fun c => ?_⟩
            · -- of another kind
              refine ⟨fun _ => ?_, fun c => (by cases c)⟩
              refine Ret.of (hQ _ _ (t1.trans t3) ⟨hpav, us, e3, by omega, up _ t3⟩)
            · -- a part spoilt
              refine ⟨us, j, t, e3, j1, j2, ?_⟩
              have d3 : Dat (p :: av) G3 k m' t := ((hus t j3).fresh hp).off (Off.bt (List.mem_cons_of_mem _ hav) ((BT.start ((BT.start t1.bag).new hp).bag).to g3))
              refine ⟨b, p :: av, t, m', k, rfl, by omega, hk, List.mem_cons_of_mem _ hav, (hk1.bt t3).cons e3, t3.bag, d3, fun y G4 t4 d4 => ?_⟩
              have e4 : G4 p = some (.lst us) := t4.get hpb e3
              refine ⟨us, j, e4, j1, ?_⟩
              have t5 : BT b G1 (gput G4 p (.lst (us.set j y))) := by
                obtain ⟨c1, c2, ok, s⟩ := t3.trans t4
                refine ⟨c1, c2, ok, s.mut ?_⟩
                rw [gput_ne hpb]; exact hp
              refine ⟨_, _, ELe.refl _, Sub.refl _, p, _, rfl, gput_same, by rw [List.length_set]; omega, fun u hu => ?_, hpav, t5⟩
              rcases List.mem_or_eq_of_mem_set hu with z | z
              · exact up _ t5 _ z
              · rw [z]; exact d4.less
          · rintro ρ G4 ⟨p', rows, rfl, e4, z4, d4, n4, t4⟩
            refine ⟨fun _ => ?_, fun c => (by cases c)⟩
            exact ⟨rows, e4, Ret.of (hQ _ _ (t1.trans t4) ⟨by omega, d4⟩)⟩
        · refine ⟨fun c => (by cases c), fun _ => ?_⟩
          refine ⟨fun c => (by cases c), fun _ => ?_⟩
          refine ⟨fun c => (by cases c), fun _ => ?_⟩
          refine ⟨fun c => (by cases c), fun _ => ?_⟩
          exact ⟨b, av, rfl, hav, hk1, t1.bag, odd⟩
        · refine ⟨fun c => (by cases c), fun _ => ?_⟩
          refine ⟨fun c => (by cases c), fun _ => ?_⟩
          refine ⟨fun c => (by cases c), fun _ => ?_⟩
          refine ⟨fun c => (by cases c), fun _ => ?_⟩
          refine ⟨fun c => (by cases c), fun _ => ?_⟩
          exact ⟨b, av, rfl, hav, hk1, t1.bag, odd⟩
      | ref a =>
        obtain ⟨m', rfl⟩ : ∃ m', m = m' + 1 := by
          cases m with
          | zero => exact hx1.elim
          | succ m' => exact ⟨m', rfl⟩
        obtain ⟨haav, us, ea, hul, hus⟩ := hx1
        have hab : a ≠ b := fun z => haav (by rw [z]; exact hav)
        refine ⟨us, ea, fun _ => ?_, fun c => (by cases c)⟩
        refine ⟨us, ea, fun c1 => ⟨fun c2 => ?_, fun _ => ?_⟩, fun _ => ?_⟩
        · have c1 : 0 < (us.length : Int) := of_decide_eq_true c1
          have c2 : 0 < kd := of_decide_eq_true c2
          refine ⟨fun ρ G' => ∃ p, ρ = [some (.ref b), some (.ref a), some (.int kd), some (.ref p), none, none] ∧ G1 p = none ∧ G' = gput G1 p (.lst us), ?_, ?_⟩
          · refine ⟨us, ea, fun p hp => ?_⟩
            exact ⟨_, _, ELe.refl _, Sub.refl _, p, rfl, hp, rfl⟩
          rintro ρ G2 ⟨p, rfl, hp, rfl⟩
          have t2 := t1.new (o := .lst us) hp
          have t2' : BT b G1 (gput G1 p (.lst us)) := (BT.start t1.bag).new hp
          have hpb : p ≠ b := (bag_new t1.bag hp).symm
          have hpav : p ∉ av := hk1.new hp
          refine ⟨_, gput_same, ⟨t2.bag, by omega, by omega⟩, fun at_ G3 la ua g3 => ?_⟩
          have t3 := t2'.to g3
          have e3 : G3 p = some (.lst us) := (g3.ne hpb).trans gput_same
          obtain ⟨j, t, j1, j2, j3, j4⟩ := pick_at (ts := us) la ua
          have hj : j < us.length := (List.getElem?_eq_some_iff.mp j2).1
          have up : ∀ G' : Gp, BT b G1 G' → ∀ t ∈ us, Dat av G' (k + 1) (m' + 3) t := fun G' tt t ht => (hus t ht).mono (by omega) (fun _ z => z) (Off.bt hav tt) (by omega)
          refine ⟨fun ρ G' => ∃ p' rows, ρ = [some (.ref b), some (.ref a), some (.int kd), some (.ref p'), some (.int at_), none] ∧ G' p' = some (.lst rows) ∧ rows.length ≤ 401 + k ∧ (∀ t ∈ rows, Dat av G' (k + 1) (m' + 3) t) ∧ p' ∉ av ∧ BT b G1 G', ?_, ?_⟩
          · refine ⟨fun c => ?_, fun c => ?_⟩
            · -- gone
              refine ⟨us, e3, fun p4 hp4 => ?_⟩
              have t4 := t3.new (o := .lst (cutT us none (some at_))) hp4
              refine ⟨us, (Sub.refl _).new hp4 _ _ e3, fun p5 hp5 => ?_⟩
              have t5 := t4.new (o := .lst (cutT us (some (at_ + 1)) none)) hp5
              have lz : (cutT us none (some at_)).length + (cutT us (some (at_ + 1)) none).length ≤ 401 + k := by
                rw [cut_take la, cut_drop (by omega), List.length_take, List.length_drop]; omega
              refine ⟨_, _, (Sub.refl _).new hp5 _ _ gput_same, gput_same, by omega, fun p6 hp6 => ?_⟩
              have t6 := t5.new (o := .lst (cutT us none (some at_) ++ cutT us (some (at_ + 1)) none)) hp6
              refine ⟨_, _, ELe.refl _, Sub.refl _, p6, _, rfl, gput_same, by rw [List.length_append]; omega, fun u hu => ?_, (hk1.bt t5).new hp6, t6⟩
              rcases List.mem_append.mp hu with z | z
              · exact up _ t6 _ (cut_mem z)
              · exact up _ t6 _ (cut_mem z)
            refine ⟨fun c => ?_, fun c => ?_⟩
            · -- twice
              refine ⟨us, e3, fun p4 hp4 => ?_⟩
              have t4 := t3.new (o := .lst (cutT us none (some (at_ + 1)))) hp4
              refine ⟨us, (Sub.refl _).new hp4 _ _ e3, fun p5 hp5 => ?_⟩
              have t5 := t4.new (o := .lst (cutT us (some at_) none)) hp5
              have lz : (cutT us none (some (at_ + 1))).length + (cutT us (some at_) none).length ≤ 401 + k := by
                rw [cut_take (by omega), cut_drop la, List.length_take, List.length_drop]; omega
              refine ⟨_, _, (Sub.refl _).new hp5 _ _ gput_same, gput_same, by omega, fun p6 hp6 => ?_⟩
              have t6 := t5.new (o := .lst (cutT us none (some (at_ + 1)) ++ cutT us (some at_) none)) hp6
              refine ⟨_, _, ELe.refl _, Sub.refl _, p6, _, rfl, gput_same, by rw [List.length_append]; omega, fun u hu => ?_, (hk1.bt t5).new hp6, t6⟩
              rcases List.mem_append.mp hu with z | z
              · exact up _ t6 _ (cut_mem z)
              · exact up _ t6 _ (cut_mem z)
            refine ⟨fun c => ?_, fun c => ?_⟩
            · -- exchanged
              refine ⟨us, e3, ⟨t3.bag, by omega, by omega⟩, fun ot G4 lo uo g4 => ?_⟩
              have t4 := t3.to g4
              have e4 : G4 p = some (.lst us) := (g4.ne hpb).trans e3
              obtain ⟨j', t', o1, o2, o3, o4⟩ := pick_at (ts := us) lo uo
              refine ⟨us, j', t', e4, o1, o2, us, j, t, e4, j1, j2, ?_⟩
              refine ⟨us, j, e4, j1, ?_⟩
              refine ⟨_, j', gput_same, by rw [List.length_set]; exact o1, ?_⟩
              rw [gput_put]
              have t5 : BT b G1 (gput G4 p (.lst ((us.set j t').set j' t))) := by
                obtain ⟨c1, c2, ok, s⟩ := t4
                refine ⟨c1, c2, ok, s.mut ?_⟩
                rw [gput_ne hpb]; exact hp
              refine ⟨_, _, .keep _ (.keep _ (.keep _ (.keep _ (.keep _ (.drop _ .nil))))), Sub.refl _, p, _, rfl, gput_same, by rw [List.length_set, List.length_set]; omega, fun u hu => ?_, hpav, t5⟩
              rcases List.mem_or_eq_of_mem_set hu with z | z
              · rcases List.mem_or_eq_of_mem_set z with z | z
                · exact up _ t5 _ z
                · rw [z]; exact up _ t5 _ o3
              · rw [z]; exact up _ t5 _ j3
            refine ⟨fun c => ?_, fun c => ?_⟩
            · -- of another kind
              refine ⟨us, t3.get hab ea, fun c => (by cases c), fun _ => ?_⟩
              refine ⟨us, e3, ?_⟩
              refine Ret.of (hQ _ _ (t1.trans t3) ⟨by omega, up _ t3⟩)
            · -- a part spoilt
              refine ⟨us, j, t, e3, j1, j2, ?_⟩
              have d3 : Dat (p :: av) G3 k m' t := ((hus t j3).fresh hp).off (Off.bt (List.mem_cons_of_mem _ hav) ((BT.start ((BT.start t1.bag).new hp).bag).to g3))
              refine ⟨b, p :: av, t, m', k, rfl, by omega, hk, List.mem_cons_of_mem _ hav, (hk1.bt t3).cons e3, t3.bag, d3, fun y G4 t4 d4 => ?_⟩
              have e4 : G4 p = some (.lst us) := t4.get hpb e3
              refine ⟨us, j, e4, j1, ?_⟩
              have t5 : BT b G1 (gput G4 p (.lst (us.set j y))) := by
                obtain ⟨c1, c2, ok, s⟩ := t3.trans t4
                refine ⟨c1, c2, ok, s.mut ?_⟩
                rw [gput_ne hpb]; exact hp
              refine ⟨_, _, ELe.refl _, Sub.refl _, p, _, rfl, gput_same, by rw [List.length_set]; omega, fun u hu => ?_, hpav, t5⟩
              rcases List.mem_or_eq_of_mem_set hu with z | z
              · exact up _ t5 _ z
              · rw [z]; exact d4.less
          · rintro ρ G4 ⟨p', rows, rfl, e4, z4, d4, n4, t4⟩
            refine ⟨us, t4.get hab ea, fun c => (by cases c), fun _ => ?_⟩
            exact Ret.of (hQ _ _ (t1.trans t4) ⟨n4, rows, e4, by omega, d4⟩)
        · refine ⟨us, ea, fun c => (by cases c), fun _ => ?_⟩
          refine ⟨fun c => (by cases c), fun _ => ?_⟩
          refine ⟨us, ea, fun c => (by cases c), fun _ => ?_⟩
          refine ⟨fun c => (by cases c), fun _ => ?_⟩
          exact ⟨b, av, rfl, hav, hk1, t1.bag, odd⟩
        · refine ⟨fun c => (by cases c), fun _ => ?_⟩
          refine ⟨us, ea, fun c => (by cases c), fun _ => ?_⟩
          refine ⟨fun c => (by cases c), fun _ => ?_⟩
          refine ⟨us, ea, fun c => (by cases c), fun _ => ?_⟩
          refine ⟨fun c => (by cases c), fun _ => ?_⟩
          exact ⟨b, av, rfl, hav, hk1, t1.bag, odd⟩
      | ty n => cases m <;> exact hx.elim
      | scr n => cases m <;> exact hx.elim
theorem ok_law_spoilt {P : Program} {w : World} {K : PySem.W.Frag} {mg : Str → Option Value} {base : Heap} (F : FunAt K mg "_law_spoilt" "_law_spoilt" s_law_spoilt ["bag", "thing"]) (TX : Txt K mg) (D_law_take : DefOk P w K mg base 1 "_law_take" ["bag", "many"] sp_law_take) (D_law_odd : DefOk P w K mg base 2 "_law_odd" ["bag"] sp_law_odd) : DefOk P w K mg base 27 "_law_spoilt" ["bag", "thing"] (sp_law_spoilt 24) := okr_law_spoilt F TX D_law_take D_law_odd 24
abbrev s_law_found : Stmt := topS 20
abbrev N_law_found : List Str := ["bag", "nested", "names", "name", "rows", "groups", "mark", "some", "group", "other"]
theorem sc_law_found : FnScope N_law_found ["bag", "nested"] (defScope s_law_found) := ⟨rfl, rfl, rfl, by decide +kernel, rfl, by decide +kernel, by decide +kernel⟩
set_option maxHeartbeats 4000000 in
theorem ok_law_found {P : Program} {w : World} {K : PySem.W.Frag} {mg : Str → Option Value} {base : Heap} (F : FunAt K mg "_law_found" "_law_found" s_law_found ["bag", "nested"]) (TX : Txt K mg) (D_law_take : DefOk P w K mg base 1 "_law_take" ["bag", "many"] sp_law_take) :
    DefOk P w K mg base 2 "_law_found" ["bag", "nested"] sp_law_found := by
  refine okd F sc_law_found (fun ts G Q E h => ?len) (fun f cdv A outer s H E hr => ss_cons (s_set (i := 2) sc_law_found.nd rfl (by first | exact Or.inl rfl | exact Or.inr rfl) (e_slice sl_seq (e_lst (a_cons (e_str) (a_cons (e_str) (a_cons (e_str) (a_cons (e_str) (a_cons (e_str) (a_cons (e_str) (a_cons (e_str) (a_cons (e_str) a_nil))))))))) (o_none) (o_some (e_callD D_law_take hr (by rfl) (a_cons (e_var 0) (a_cons (e_int) a_nil))))))
    (ss_cons (s_set (i := 4) sc_law_found.nd rfl (by first | exact Or.inl rfl | exact Or.inr rfl) (e_callTy (b_dictP rfl) (by rfl) TX.n_dict (by decide +kernel) (a_cons (e_lc (own := [("name", 3)]) rfl sc_law_found.nd (i_seq (e_var 2)) (blkOk_by (N := N_law_found) (sc := defScope s_law_found) (own := [("name", 3)]) (by decide +kernel)) (fun _ _ _ _ _ => g_name (i := 3) sc_law_found.nd rfl (by first | exact Or.inl rfl | exact Or.inr rfl)) (fun _ _ _ _ _ => ts_nil) (fun _ _ _ _ _ => e_tup (a_cons (e_var 3) (a_cons (e_lst (a_nil)) a_nil)))) a_nil)))
    (ss_cons (s_set (i := 5) sc_law_found.nd rfl (by first | exact Or.inl rfl | exact Or.inr rfl) (e_lst (a_cons (e_var 2) a_nil)))
    (ss_cons (s_for (own := [6]) PassesOwn.never rfl (i_seq (e_slice sl_seq (e_lst (a_cons (e_str) (a_cons (e_str) (a_cons (e_str) (a_cons (e_str) (a_cons (e_str) (a_cons (e_str) a_nil))))))) (o_none) (o_some (e_callD D_law_take hr (by rfl) (a_cons (e_var 0) (a_cons (e_int) a_nil)))))) (g_name (i := 6) sc_law_found.nd rfl (by first | exact Or.inl rfl | exact Or.inr rfl)) (ss_cons (s_set (i := 7) sc_law_found.nd rfl (by first | exact Or.inl rfl | exact Or.inr rfl) (e_lc (own := [("name", 3)]) rfl sc_law_found.nd (i_seq (e_var 2)) (blkOk_by (N := N_law_found) (sc := defScope s_law_found) (own := [("name", 3)]) (by decide +kernel)) (fun _ _ _ _ _ => g_name (i := 3) sc_law_found.nd rfl (by first | exact Or.inl rfl | exact Or.inr rfl)) (fun _ _ _ _ _ => ts_one (t_cmp (o_eq hr.units) (e_callD D_law_take hr (by rfl) (a_cons (e_var 0) (a_cons (e_int) a_nil))) (e_int) (nomark _))) (fun _ _ _ _ _ => e_var 3)))
    (ss_cut (s_if (PW.pt (w_and (t_tr (e_var 1)) (pw_and1 (t_cmp (o_neL hr.units) (e_var 5) (e_lst (a_nil)) (nomark _))))) (ss_cons (s_set (i := 8) sc_law_found.nd rfl (by first | exact Or.inl rfl | exact Or.inr rfl) (e_ix i_ix (e_var 5) (e_callD D_law_take hr (by rfl) (a_cons (e_var 0) (a_cons (e_callB b_len (by rfl) TX.n_len (by decide +kernel) (a_cons (e_var 5) a_nil)) a_nil))) (fun _ _ => rfl)))
    (ss_cons (s_set (i := 7) sc_law_found.nd rfl (by first | exact Or.inl rfl | exact Or.inr rfl) (e_lc (own := [("name", 3)]) rfl sc_law_found.nd (i_seq (e_var 8)) (blkOk_by (N := N_law_found) (sc := defScope s_law_found) (own := [("name", 3)]) (by decide +kernel)) (fun _ _ _ _ _ => g_name (i := 3) sc_law_found.nd rfl (by first | exact Or.inl rfl | exact Or.inr rfl)) (fun _ _ _ _ _ => ts_one (t_cmp o_gt (e_callD D_law_take hr (by rfl) (a_cons (e_var 0) (a_cons (e_int) a_nil))) (e_int) (nomark _))) (fun _ _ _ _ _ => e_var 3)))
    (ss_cons (s_set (i := 5) sc_law_found.nd rfl (by first | exact Or.inl rfl | exact Or.inr rfl) (e_op o_add (e_lc (own := [("other", 9)]) rfl sc_law_found.nd (i_seq (e_var 5)) (blkOk_by (N := N_law_found) (sc := defScope s_law_found) (own := [("other", 9)]) (by decide +kernel)) (fun _ _ _ _ _ => g_name (i := 9) sc_law_found.nd rfl (by first | exact Or.inl rfl | exact Or.inr rfl)) (fun _ _ _ _ _ => ts_one (t_cmp (o_neL hr.units) (e_var 9) (e_var 8) (nomark _))) (fun _ _ _ _ _ => e_var 9)) (e_lst (a_cons (e_var 7) a_nil))))
    (ss_one (s_expr (e_bm PySem.F.plainAttrs_list PySem.F.slot_list_append PySem.F.type_list_append m_append (e_var 5) (a_cons (e_lc (own := [("name", 3)]) rfl sc_law_found.nd (i_seq (e_var 8)) (blkOk_by (N := N_law_found) (sc := defScope s_law_found) (own := [("name", 3)]) (by decide +kernel)) (fun _ _ _ _ _ => g_name (i := 3) sc_law_found.nd rfl (by first | exact Or.inl rfl | exact Or.inr rfl)) (fun _ _ _ _ _ => ts_one (t_cmp (o_notin2 (un65 hr)) (e_var 3) (e_var 7) rfl)) (fun _ _ _ _ _ => e_var 3)) a_nil))))))) (ss_nil))
    (ss_one (s_for (own := [3]) PassesOwn.never rfl (i_seq (e_var 7)) (g_name (i := 3) sc_law_found.nd rfl (by first | exact Or.inl rfl | exact Or.inr rfl)) (ss_one (s_expr (e_bm PySem.F.plainAttrs_list PySem.F.slot_list_append PySem.F.type_list_append m_append (e_aget (un1 hr) (e_var 4) (e_var 3) (fun _ _ => rfl)) (a_cons (e_var 6) a_nil)))))))))
    (ss_one (s_ret (e_callTy b_tuple (by rfl) TX.n_tuple (by decide +kernel) (a_cons (e_lc (own := [("name", 3)]) rfl sc_law_found.nd (i_seq (e_var 2)) (blkOk_by (N := N_law_found) (sc := defScope s_law_found) (own := [("name", 3)]) (by decide +kernel)) (fun _ _ _ _ _ => g_name (i := 3) sc_law_found.nd rfl (by first | exact Or.inl rfl | exact Or.inr rfl)) (fun _ _ _ _ _ => ts_nil) (fun _ _ _ _ _ => e_tup (a_cons (e_var 3) (a_cons (e_callTy b_tuple (by rfl) TX.n_tuple (by decide +kernel) (a_cons (e_callB (b_sorted (un66 hr)) (by rfl) TX.n_sorted (by decide +kernel) (a_cons (e_aget (un1 hr) (e_var 4) (e_var 3) (fun _ _ => rfl)) a_nil)) a_nil)) a_nil)))) a_nil))))))))
    (fun ts G Q E h => ?run)
  case len => obtain ⟨a, b, rfl, _⟩ := h; rfl
  case run =>
    obtain ⟨b, x, rfl, hx, hb, hQ⟩ := h
    intro p0 hp0
    have t0 := (BT.start hb).new (o := .lst (NM8.map T.str)) hp0
    have b0 := (bag_new hb hp0).symm
    refine ⟨⟨t0.bag, by omega, by omega⟩, fun r G1 lr ur g1 => ?_⟩
    have t1 := t0.to g1
    have e1 : G1 p0 = some (.lst (NM8.map T.str)) := (g1.ne b0).trans gput_same
    refine ⟨_, e1, fun q hq => ?_⟩
    have ec : cutT (NM8.map T.str) none (some r) = (NM8.take r.toNat).map T.str := by rw [cut_take (by omega), List.map_take]
    rw [ec]
    have t2 := t1.new (o := .lst ((NM8.take r.toNat).map T.str)) hq
    have qb := (bag_new t1.bag hq).symm
    have Nd : (NM8.take r.toNat).Nodup := sub_nd (List.take_sublist _ _) NM8_nd
    have Nok : ∀ y ∈ NM8.take r.toNat, nameOk y = true := fun y hy => NM8_ok y (List.mem_of_mem_take hy)
    have Nl : (NM8.take r.toNat).length ≤ 8 := by rw [List.length_take]; exact Nat.min_le_right _ _
    generalize NM8.take r.toNat = N at *
    have e2 : gput G1 q (.lst (N.map T.str)) q = some (.lst (N.map T.str)) := gput_same
    generalize gput G1 q (.lst (N.map T.str)) = G2 at t2 e2 ⊢
    clear ec e1 t1 g1 hq t0 b0 hp0
    refine ⟨_, e2, fun D hD => ⟨by rw [List.length_map]; omega, fun k acc G' => ∃ A : Str → Addr, acc = (N.take k).map (fun n => T.tup [.str n, .ref (A n)]) ∧ BT b G G' ∧ Sub G2 G' ∧ G' D = some (.lst acc) ∧ (∀ n ∈ N.take k, G2 (A n) = none ∧ A n ≠ D ∧ A n ≠ q ∧ A n ≠ b ∧ G' (A n) = some (.lst [])) ∧ (∀ n ∈ N.take k, ∀ m ∈ N.take k, A n = A m → n = m) ∧ acc.length ≤ k, ⟨fun _ => 0, by simp, t2.new hD, (Sub.refl _).new hD, gput_same, fun n hn => (by rw [List.take_zero] at hn; cases hn), fun n hn => (by rw [List.take_zero] at hn; cases hn), by simp⟩, ?_, ?_, ?_⟩⟩
    · rintro k acc G' hk ⟨A, rfl, t, s, e, hA, inj, z⟩
      exact ⟨s _ _ e2, e, z⟩
    · rintro k t acc G' ht ⟨A, rfl, t3, s, e, hA, inj, z⟩
      obtain ⟨n, hn, rfl⟩ := map_at ht
      refine ⟨fun _ => ?_, fun c => (by cases c)⟩
      intro p1 hp1
      have nk := take_nd Nd hn
      have s' := (Sub.refl G').new (o := .lst []) hp1
      refine ⟨s' _ _ e, _, Sub.refl _, fun y => if y = n then p1 else A y, ?_, (t3.new hp1).mutN t2 hD, (s.trans s').mut hD, gput_same, fun y hy => ?_, fun y hy m hm => ?_, by rw [List.length_append]; exact Nat.succ_le_succ z⟩
      · rw [take_one hn, List.map_append]
        congr 1
        · refine List.map_congr_left fun y hy => ?_
          show _ = T.tup [.str y, .ref (if y = n then p1 else A y)]
          have yn : y ≠ n := fun z => nk (z ▸ hy)
          rw [if_neg yn]
        · show _ = [T.tup [.str n, .ref (if n = n then p1 else A n)]]
          rw [if_pos rfl]
      · show G2 (if y = n then p1 else A y) = none ∧ (if y = n then p1 else A y) ≠ D ∧ (if y = n then p1 else A y) ≠ q ∧ (if y = n then p1 else A y) ≠ b ∧ gput _ D _ (if y = n then p1 else A y) = _
        have nD : p1 ≠ D := (gne e hp1).symm
        by_cases c : y = n
        · rw [if_pos c]
          refine ⟨?_, nD, (gne (s _ _ e2) hp1).symm, (bag_new t3.bag hp1).symm, ?_⟩
          · cases h : G2 p1 with
            | none => rfl
            | some o => rw [s _ _ h] at hp1; cases hp1
          · rw [gput_ne nD, gput_same]
        · rw [take_one hn] at hy
          have hy' : y ∈ N.take k := (List.mem_append.mp hy).elim id fun z => absurd (List.mem_singleton.mp z) c
          obtain ⟨h1, h2, h3, h4, h5⟩ := hA y hy'
          rw [if_neg c]
          refine ⟨h1, h2, h3, h4, ?_⟩
          rw [gput_ne h2]
          exact s' _ _ h5
      · show (if y = n then p1 else A y) = (if m = n then p1 else A m) → _
        rw [take_one hn] at hy hm
        have no : ∀ y ∈ N.take k, A y ≠ p1 := fun y hy => gne (hA y hy).2.2.2.2 hp1
        by_cases c : y = n
        · by_cases c2 : m = n
          · intro _; rw [c, c2]
          · have hm' : m ∈ N.take k := (List.mem_append.mp hm).elim id fun z => absurd (List.mem_singleton.mp z) c2
            rw [if_pos c, if_neg c2]
            exact fun z => absurd z.symm (no m hm')
        · have hy' : y ∈ N.take k := (List.mem_append.mp hy).elim id fun z => absurd (List.mem_singleton.mp z) c
          by_cases c2 : m = n
          · rw [if_neg c, if_pos c2]
            exact fun z => absurd z (no y hy')
          · have hm' : m ∈ N.take k := (List.mem_append.mp hm).elim id fun z => absurd (List.mem_singleton.mp z) c2
            rw [if_neg c, if_neg c2]
            exact inj y hy' m hm'
    · rintro acc G' ⟨A, rfl, t3, s, e, hA, inj, z⟩
      rw [List.length_map, List.take_length] at e hA inj
      refine ⟨kvOf N fun n => .ref (A n), ?_, ?_, fun d hd => ?_⟩
      · rw [e]
        unfold kvOf
        rw [List.map_map]; rfl
      · rw [kv_keys]
        exact List.Pairwise.map _ (fun a b h z => h (Sum.inr.inj z)) Nd
      have t4 := t3.new (o := .dK (kvOf N fun n => .ref (A n))) hd
      have s4 := s.new (o := .dK (kvOf N fun n => .ref (A n))) hd
      have S0 : FS b (gput G' d (.dK (kvOf N fun n => .ref (A n)))) q d N A (fun _ => []) := ⟨s4 _ _ e2, qb, gput_same, (bag_new t3.bag hd).symm, fun n hn => ((Sub.refl G').new hd) _ _ (hA n hn).2.2.2.2, fun n hn => (hA n hn).2.2.2.1, fun n hn => (hA n hn).2.2.1, inj⟩
      have An0 : ∀ n ∈ N, G2 (A n) = none := fun n hn => (hA n hn).1
      generalize gput G' d (.dK (kvOf N fun n => .ref (A n))) = G3 at *
      clear e hd s hA inj z t3 hD s4
      intro g hg
      have t5 := t4.new (o := .lst [.ref q]) hg
      have S1 := S0.new (o := .lst [.ref q]) hg
      have gb := (bag_new t4.bag hg).symm
      have Ag := S0.fresh hg
      have Z1 : GS b (gput G3 g (.lst [.ref q])) N A [q] := ⟨fun a ha => by rw [List.mem_singleton.mp ha]; exact ⟨N, S1.hq, .refl _⟩, fun a ha => by rw [List.mem_singleton.mp ha]; exact ⟨qb, S1.Aq⟩⟩
      have eg : gput G3 g (.lst [.ref q]) g = some (.lst ([q].map T.ref)) := gput_same
      generalize gput G3 g (.lst [.ref q]) = G4 at *
      clear t4 S0 hg
      intro p2 hp2
      have t6 := t5.new (o := .lst (MK6.map T.str)) hp2
      have e6 : gput G4 p2 (.lst (MK6.map T.str)) p2 = some (.lst (MK6.map T.str)) := gput_same
      have b6 := (bag_new t5.bag hp2).symm
      have S6 := S1.new (o := .lst (MK6.map T.str)) hp2
      have Z6 := Z1.new (o := .lst (MK6.map T.str)) hp2
      have eg6 := (Sub.refl G4).new (o := .lst (MK6.map T.str)) hp2 _ _ eg
      refine ⟨⟨t6.bag, by omega, by omega⟩, fun r2 G7 lr2 ur2 g7 => ?_⟩
      have bt7 := (BT.start t6.bag).to g7
      have t7 := t6.to g7
      have e7 : G7 p2 = some (.lst (MK6.map T.str)) := bt7.get b6 e6
      have S7 := S6.bt bt7
      have Z7 := Z6.bt bt7
      have eg7 := bt7.get gb eg6
      refine ⟨_, e7, fun qm hqm => ?_⟩
      have ec : cutT (MK6.map T.str) none (some r2) = (MK6.take r2.toNat).map T.str := by rw [cut_take (by omega), List.map_take]
      rw [ec]
      have t8 := t7.new (o := .lst ((MK6.take r2.toNat).map T.str)) hqm
      have qmb := (bag_new t7.bag hqm).symm
      have Ms : (MK6.take r2.toNat).Sublist MK6 := List.take_sublist _ _
      generalize MK6.take r2.toNat = M at *
      have S8 := S7.new (o := .lst (M.map T.str)) hqm
      have Z8 := Z7.new (o := .lst (M.map T.str)) hqm
      have eg8 := (Sub.refl G7).new (o := .lst (M.map T.str)) hqm _ _ eg7
      have Aqm := S7.fresh hqm
      have em8 : gput G7 qm (.lst (M.map T.str)) qm = some (.lst (M.map T.str)) := gput_same
      generalize gput G7 qm (.lst (M.map T.str)) = G8 at *
      clear S7 Z7 eg7 S6 Z6 eg6 S1 Z1 eg e6 e7 ec t7 t6 t5 bt7 g7 hqm hp2 b6
      have L8 : LS b G8 N A qm (M.map T.str) := ⟨em8, qmb, Aqm⟩
      have K8 : LS b G8 N A g ([q].map T.ref) := ⟨eg8, gb, Ag⟩
      clear em8 qmb Aqm eg8 gb Ag
      refine ⟨_, L8.at_, fun i ρ G' => ∃ f g gs, ρ = [some (.ref b), some x, some (.ref q), none, some (.ref d), some (.ref g), none, none, none, none] ∧ BT b G G' ∧ FS b G' q d N A f ∧ GS b G' N A gs ∧ LS b G' N A g (gs.map T.ref) ∧ LS b G' N A qm (M.map T.str) ∧ gs.length ≤ 2 * i + 1 ∧ ∀ n ∈ N, (f n).Sublist (M.take i), ⟨_, g, [q], rfl, t8, S8, Z8, K8, L8, by simp, fun n hn => by simp⟩, ?_, ?_, ?_⟩
      · rintro i ρ G' hi ⟨f, g, gs, rfl, t, S, Z, K, L, hz, hf⟩
        exact L.at_
      · rintro i t ρ G' ht ⟨f, g, gs, rfl, t, S, Z, K, L, hz, hf⟩
        obtain ⟨m, hm, rfl⟩ := map_at ht
        have hi := (List.getElem?_eq_some_iff.mp hm).1
        have hMl : M.length ≤ 6 := Ms.length_le
        have hNl : (N.map T.str).length ≤ 8 := by rw [List.length_map]; exact Nl
        refine ⟨_, S.hq, fun D hD => ⟨by omega, fun k acc G2 => ∃ ns : List Str, acc = ns.map T.str ∧ ns.Sublist (N.take k) ∧ BT b G' G2 ∧ G2 D = some (.lst acc) ∧ acc.length ≤ k, ⟨[], rfl, .refl _, (BT.start t.bag).new hD, gput_same, by simp⟩, ?_, ?_, ?_⟩⟩
        · rintro k acc G2 hk ⟨ns, rfl, hn, tt, e, z⟩
          exact ⟨tt.get S.qb S.hq, e, z⟩
        · rintro k t acc G2 ht ⟨ns, rfl, hn, tt, e, z⟩
          obtain ⟨n, hnk, rfl⟩ := map_at ht
          have Db := (bag_new t.bag hD).symm
          refine ⟨⟨tt.bag, by omega, by omega⟩, fun v G3 lv uv g3 => ?_⟩
          have t3 := tt.to g3
          have e3 : G3 D = _ := (g3.ne Db).trans e
          refine ⟨fun c => ?_, fun c => ?_⟩
          · refine ⟨e3, _, Sub.refl _, ns ++ [n], by simp, ?_, t3.mutN (BT.start t.bag) hD, gput_same, by rw [List.length_append]; exact Nat.succ_le_succ z⟩
            rw [take_one hnk]; exact hn.append (.refl _)
          · refine ⟨_, Sub.refl _, ns, rfl, ?_, t3, e3, by omega⟩
            rw [take_one hnk]; exact hn.trans (List.sublist_append_left _ _)
        · rintro acc G2 ⟨ns, rfl, hn, tt, e, z⟩
          rw [List.length_map, List.take_length] at hn
          have AD := S.fresh hD
          have Db := (bag_new t.bag hD).symm
          replace t := t.trans tt
          replace S := S.bt tt
          replace Z := Z.bt tt
          replace K := K.bt tt
          replace L := L.bt tt
          have E1 : LS b G2 N A D (ns.map T.str) := ⟨e, Db, AD⟩
          clear e Db AD z tt hD
          refine ⟨fun ρ G3 => ∃ (g : Addr) (gs : List Addr) (p : Addr) (ns : List Str), ρ = [some (.ref b), some x, some (.ref q), none, some (.ref d), some (.ref g), some (.str m), some (.ref p), none, none] ∧ BT b G G3 ∧ FS b G3 q d N A f ∧ GS b G3 N A gs ∧ LS b G3 N A g (gs.map T.ref) ∧ LS b G3 N A qm (M.map T.str) ∧ gs.length ≤ 2 * (i + 1) + 1 ∧ LS b G3 N A p (ns.map T.str) ∧ ns.Sublist N, ?_, ?_⟩
          · have out : ∀ G3 ρ, ELe [some (.ref b), some x, some (.ref q), none, some (.ref d), some (.ref g), some (.str m), some (.ref D), none, none] ρ → BT b G G3 → FS b G3 q d N A f → GS b G3 N A gs → LS b G3 N A g (gs.map T.ref) → LS b G3 N A qm (M.map T.str) → LS b G3 N A D (ns.map T.str) → Wk (fun ρ G3 => ∃ (g : Addr) (gs : List Addr) (p : Addr) (ns : List Str), ρ = [some (.ref b), some x, some (.ref q), none, some (.ref d), some (.ref g), some (.str m), some (.ref p), none, none] ∧ BT b G G3 ∧ FS b G3 q d N A f ∧ GS b G3 N A gs ∧ LS b G3 N A g (gs.map T.ref) ∧ LS b G3 N A qm (M.map T.str) ∧ gs.length ≤ 2 * (i + 1) + 1 ∧ LS b G3 N A p (ns.map T.str) ∧ ns.Sublist N) ρ G3 := fun G3 ρ le a1 a2 a3 a4 a5 a6 => ⟨_, _, le, Sub.refl _, g, gs, D, ns, rfl, a1, a2, a3, a4, a5, by omega, a6, hn⟩
            rcases hx with rfl | rfl
            · refine ⟨fun _ => ?_, fun c => (by cases c)⟩
              intro p3 hp3
              have t3 := t.new (o := .lst []) hp3
              have S3 := S.new (o := .lst []) hp3
              have Z3 := Z.new (o := .lst []) hp3
              have K3 := K.new (o := .lst []) hp3
              have L3 := L.new (o := .lst []) hp3
              have E3 := E1.new (o := .lst []) hp3
              have e3 : gput G2 p3 (.lst []) p3 = some (.lst []) := gput_same
              generalize gput G2 p3 (.lst []) = G3 at *
              have ne : (true != teqs (gs.map T.ref) []) = !gs.isEmpty := by cases gs <;> rfl
              refine ⟨_, _, K3.at_, e3, fun z => ?_, ?_⟩
              · have z0 : gs = [] := by cases gs with
                  | nil => rfl
                  | cons a r => cases z
                subst z0
                exact ⟨rfl, rfl⟩
              rw [ne]
              refine ⟨fun c => ?_, fun c => out G3 _ (ELe.refl _) t3 S3 Z3 K3 L3 E3⟩
              have gl : 0 < gs.length := by
                cases gs with
                | nil => cases c
                | cons a r => exact Nat.succ_pos _
              have gl2 : (gs.map T.ref).length = gs.length := List.length_map ..
              refine ⟨_, K3.at_, ⟨t3.bag, by omega, by omega⟩, fun v G4 lv uv g4 => ?_⟩
              have bt4 := (BT.start t3.bag).to g4
              have t4 := t3.to g4
              have S4 := S3.bt bt4
              have Z4 := Z3.bt bt4
              have K4 := K3.bt bt4
              have L4 := L3.bt bt4
              obtain ⟨j, u, j1, j2, j3, j4⟩ := pick_at (ts := gs.map T.ref) lv uv
              obtain ⟨ga, hga, rfl⟩ := map_at j2
              have hgm := List.mem_of_getElem? hga
              refine ⟨_, _, _, K4.at_, j1, j2, ?_⟩
              clear t3 S3 Z3 K3 L3 E3 e3 t S Z K L E1 bt4 g4 hp3
              obtain ⟨na, ea, sa⟩ := Z4.ls ga hgm
              have ab := (Z4.ne ga hgm).1
              have nal : na.length ≤ 8 := Nat.le_trans sa.length_le Nl
              have L4' := L4
              clear L4
              refine ⟨_, ea, fun D2 hD2 => ⟨by rw [List.length_map]; omega, fun k acc G5 => ∃ ns2 : List Str, acc = ns2.map T.str ∧ ns2.Sublist (na.take k) ∧ BT b G4 G5 ∧ G5 D2 = some (.lst acc) ∧ acc.length ≤ k, ⟨[], rfl, .refl _, (BT.start t4.bag).new hD2, gput_same, by simp⟩, ?_, ?_, ?_⟩⟩
              · rintro k acc G5 hk ⟨ns2, rfl, hn2, tt, e, z⟩
                exact ⟨tt.get ab ea, e, z⟩
              · rintro k t acc G5 ht ⟨ns2, rfl, hn2, tt, e, z⟩
                obtain ⟨n, hnk, rfl⟩ := map_at ht
                have Db := (bag_new t4.bag hD2).symm
                refine ⟨⟨tt.bag, by omega, by omega⟩, fun v G6 lv uv g6 => ?_⟩
                have t6 := tt.to g6
                have e6 : G6 D2 = _ := (g6.ne Db).trans e
                refine ⟨fun c => ?_, fun c => ?_⟩
                · refine ⟨e6, _, Sub.refl _, ns2 ++ [n], by simp, ?_, t6.mutN (BT.start t4.bag) hD2, gput_same, by rw [List.length_append]; exact Nat.succ_le_succ z⟩
                  rw [take_one hnk]; exact hn2.append (.refl _)
                · refine ⟨_, Sub.refl _, ns2, rfl, ?_, t6, e6, by omega⟩
                  rw [take_one hnk]; exact hn2.trans (List.sublist_append_left _ _)
              · rintro acc G5 ⟨ns2, rfl, hn2, tt, e, z⟩
                rw [List.length_map, List.take_length] at hn2
                have t5 := t4.trans tt
                have S5 := S4.bt tt
                have Z5 := Z4.bt tt
                have K5 := K4.bt tt
                have L5 := L4'.bt tt
                have E5 : LS b G5 N A D2 (ns2.map T.str) := ⟨e, (bag_new t4.bag hD2).symm, S4.fresh hD2⟩
                have ea5 := tt.get ab ea
                have s2 := hn2.trans sa
                clear e z tt hD2 t4 S4 Z4 K4 L4' ea
                have nok : ∀ l : List Str, l.Sublist N → ∀ y ∈ l, nameOk y = true := fun l hl y hy => Nok y (hl.subset hy)
                refine ⟨_, K5.at_, fun D3 hD3 => ⟨by omega, fun k acc G6 => ∃ hs : List Addr, acc = hs.map T.ref ∧ (∀ a ∈ hs, a ∈ gs) ∧ BT b G5 G6 ∧ Sub G5 G6 ∧ G6 D3 = some (.lst acc) ∧ acc.length ≤ k, ⟨[], rfl, fun a ha => (by cases ha), (BT.start t5.bag).new hD3, (Sub.refl _).new hD3, gput_same, by simp⟩, ?_, ?_, ?_⟩⟩
                · rintro k acc G6 hk ⟨hs, rfl, hh, tt, s, e, z⟩
                  exact ⟨s _ _ K5.at_, e, z⟩
                · rintro k t acc G6 ht ⟨hs, rfl, hh, tt, s, e, z⟩
                  obtain ⟨oa, hok, rfl⟩ := map_at ht
                  have hog := List.mem_of_getElem? hok
                  obtain ⟨no, eo, so⟩ := Z5.ls oa hog
                  refine ⟨_, _, s _ _ eo, s _ _ ea5, fun _ => ⟨eqOks_names (nok no so), eqOks_names (nok na sa)⟩, ?_⟩
                  refine ⟨fun c => ?_, fun c => ?_⟩
                  · refine ⟨e, _, Sub.refl _, hs ++ [oa], by simp, fun a ha => ?_, tt.mutN (BT.start t5.bag) hD3, s.mut hD3, gput_same, by rw [List.length_append]; exact Nat.succ_le_succ z⟩
                    rcases List.mem_append.mp ha with w | w
                    · exact hh a w
                    · rw [List.mem_singleton.mp w]; exact hog
                  · exact ⟨_, Sub.refl _, hs, rfl, hh, tt, s, e, by omega⟩
                · rintro acc G6 ⟨hs, rfl, hh, tt, s, e, z⟩
                  rw [List.length_map, List.length_map] at z
                  have t6 := t5.trans tt
                  have S6 := S5.bt tt
                  have Z6 := (Z5.bt tt).sub hh
                  have L6 := L5.bt tt
                  have E6 := E5.bt tt
                  have ea6 := tt.get ab ea5
                  clear tt hD3 t5 S5 Z5 K5 L5 E5 ea5 s
                  intro p4 hp4
                  have t7 := t6.new (o := .lst [.ref D2]) hp4
                  have S7 := S6.new (o := .lst [.ref D2]) hp4
                  have Z7 := Z6.new (o := .lst [.ref D2]) hp4
                  have L7 := L6.new (o := .lst [.ref D2]) hp4
                  have E7 := E6.new (o := .lst [.ref D2]) hp4
                  have ea7 := (Sub.refl G6).new (o := .lst [.ref D2]) hp4 _ _ ea6
                  have e7 := (Sub.refl G6).new (o := .lst [.ref D2]) hp4 _ _ e
                  refine ⟨_, _, e7, gput_same, by rw [List.length_map]; show hs.length + 1 ≤ 100000; omega, fun g2 hg2 => ?_⟩
                  have t8 := t7.new (o := .lst (hs.map T.ref ++ [.ref D2])) hg2
                  have S8 := S7.new (o := .lst (hs.map T.ref ++ [.ref D2])) hg2
                  have Z8 := Z7.new (o := .lst (hs.map T.ref ++ [.ref D2])) hg2
                  have L8 := L7.new (o := .lst (hs.map T.ref ++ [.ref D2])) hg2
                  have E8 := E7.new (o := .lst (hs.map T.ref ++ [.ref D2])) hg2
                  have ea8 := (Sub.refl _).new (o := .lst (hs.map T.ref ++ [.ref D2])) hg2 _ _ ea7
                  have mutg : ∀ (G9 : Gp) (o : GO), BT b G G9 → BT b G (gput G9 g2 o) := fun G9 o t => t.mutN t7 hg2
                  have K8 : LS b (gput (gput G6 p4 (.lst [.ref D2])) g2 (.lst (hs.map T.ref ++ [.ref D2]))) N A g2 (hs.map T.ref ++ [.ref D2]) := ⟨gput_same, (bag_new t7.bag hg2).symm, S7.fresh hg2⟩
                  have gq : g2 ≠ q := (gne S7.hq hg2).symm
                  have gd : g2 ≠ d := (gne S7.hd hg2).symm
                  have gZ := Z7.fresh hg2
                  have gL : qm ≠ g2 := gne L7.at_ hg2
                  have gE : D2 ≠ g2 := gne E7.at_ hg2
                  generalize gput (gput G6 p4 (.lst [.ref D2])) g2 (.lst (hs.map T.ref ++ [.ref D2])) = G8 at *
                  clear t7 S7 Z7 L7 E7 ea7 e7 hg2 t6 S6 Z6 L6 E6 ea6 e hp4
                  refine ⟨⟨_, K8.at_⟩, _, ea8, fun D4 hD4 => ⟨by rw [List.length_map]; omega, fun k acc G9 => ∃ ns4 : List Str, acc = ns4.map T.str ∧ ns4.Sublist (na.take k) ∧ BT b G8 G9 ∧ Sub G8 G9 ∧ G9 D4 = some (.lst acc) ∧ acc.length ≤ k, ⟨[], rfl, .refl _, (BT.start t8.bag).new hD4, (Sub.refl _).new hD4, gput_same, by simp⟩, ?_, ?_, ?_⟩⟩
                  · rintro k acc G9 hk ⟨ns4, rfl, hn4, tt, s, e, z⟩
                    exact ⟨s _ _ ea8, e, z⟩
                  · rintro k t acc G9 ht ⟨ns4, rfl, hn4, tt, s, e, z⟩
                    obtain ⟨n, hnk, rfl⟩ := map_at ht
                    refine ⟨_, s _ _ E8.at_, eqOks_names (nok ns2 s2), eqOk_name (nok na sa n (List.mem_of_getElem? hnk)), ?_⟩
                    refine ⟨fun c => ?_, fun c => ?_⟩
                    · refine ⟨e, _, Sub.refl _, ns4 ++ [n], by simp, ?_, tt.mutN (BT.start t8.bag) hD4, s.mut hD4, gput_same, by rw [List.length_append]; exact Nat.succ_le_succ z⟩
                      rw [take_one hnk]; exact hn4.append (.refl _)
                    · refine ⟨_, Sub.refl _, ns4, rfl, ?_, tt, s, e, by omega⟩
                      rw [take_one hnk]; exact hn4.trans (List.sublist_append_left _ _)
                  · rintro acc G9 ⟨ns4, rfl, hn4, tt, s, e, z4⟩
                    rw [List.length_map, List.take_length] at hn4
                    have t9 := t8.trans tt
                    have S9 := S8.bt tt
                    have Z9 := Z8.bt tt
                    have L9 := L8.bt tt
                    have E9 := E8.bt tt
                    have K9 := K8.bt tt
                    have gD : D4 ≠ g2 := (gne K8.at_ hD4).symm
                    refine ⟨_, K9.at_, by rw [List.length_append, List.length_map]; show hs.length + 1 < 100000; omega, ?_⟩
                    have Z10 := ((Z9.add E9.at_ s2 E9.pb E9.Ap).add e (hn4.trans sa) (bag_new t8.bag hD4).symm (S8.fresh hD4)).off (p := g2) (o := .lst (hs.map T.ref ++ [.ref D2] ++ [.ref D4])) fun a ha => by
                      rcases List.mem_append.mp ha with w | w
                      · rcases List.mem_append.mp w with w | w
                        · exact gZ a w
                        · rw [List.mem_singleton.mp w]; exact gE
                      · rw [List.mem_singleton.mp w]; exact gD
                    have bt10 : BT b G (gput G9 g2 (.lst (hs.map T.ref ++ [.ref D2] ++ [.ref D4]))) := mutg _ _ t9
                    refine ⟨_, _, .keep _ (.keep _ (.keep _ (.keep _ (.keep _ (.keep _ (.keep _ (.keep _ (.drop _ (.keep _ .nil))))))))), Sub.refl _, g2, hs ++ [D2] ++ [D4], D2, ns2, rfl, bt10, S9.off gq gd K9.Ap, Z10, ⟨by rw [gput_same]; simp, K9.pb, K9.Ap⟩, L9.off gL, ?_, E9.off gE, s2⟩
                    rw [List.length_append, List.length_append]
                    show hs.length + 1 + 1 ≤ _
                    omega
            · refine ⟨fun c => (by cases c), fun _ => ?_⟩
              refine ⟨fun c => (by cases c), fun _ => ?_⟩
              exact out G2 _ (ELe.refl _) t S Z K L E1
          · rintro ρ G3 ⟨g, gs, p, ns, rfl, t, S, Z, K, L, hz, E1, hn⟩
            have Nn : ns.Nodup := sub_nd hn Nd
            refine ⟨_, E1.at_, fun j ρ G4 => ∃ f', ρ = [some (.ref b), some x, some (.ref q), none, some (.ref d), some (.ref g), some (.str m), some (.ref p), none, none] ∧ BT b G G4 ∧ FS b G4 q d N A f' ∧ GS b G4 N A gs ∧ LS b G4 N A g (gs.map T.ref) ∧ LS b G4 N A qm (M.map T.str) ∧ LS b G4 N A p (ns.map T.str) ∧ ∀ y, f' y = if y ∈ ns.take j then f y ++ [m] else f y, ⟨f, rfl, t, S, Z, K, L, E1, fun y => by simp⟩, ?_, ?_, ?_⟩
            · rintro j ρ G4 hj ⟨f', rfl, t, S, Z, K, L, E1, hf'⟩
              exact E1.at_
            · rintro j t ρ G4 ht ⟨f', rfl, t, S, Z, K, L, E1, hf'⟩
              obtain ⟨n, hnj, rfl⟩ := map_at ht
              have nN : n ∈ N := hn.subset (List.mem_of_getElem? hnj)
              have nk := take_nd Nn hnj
              have fl : (f' n).length ≤ 6 := by
                rw [hf' n, if_neg nk]
                exact Nat.le_trans (hf n nN).length_le (by rw [List.length_take]; omega)
              refine ⟨_, _, _, rfl, .inl S.hd, kv_at nN, ⟨_, S.hA n nN⟩, _, S.hA n nN, by rw [List.length_map]; omega, ?_⟩
              refine ⟨_, _, .keep _ (.keep _ (.keep _ (.drop _ (.keep _ (.keep _ (.keep _ (.keep _ (.keep _ (.keep _ .nil))))))))), Sub.refl _, _, rfl, t.mutN t2 (An0 n nN), S.put nN m, Z.put nN _, K.put nN _, L.put nN _, E1.put nN _, fun y => ?_⟩
              show (if y = n then f' y ++ [m] else f' y) = _
              rw [hf' y, take_one hnj]
              by_cases c : y = n
              · subst c
                rw [if_pos rfl, if_neg nk, if_pos (by simp)]
              · rw [if_neg c]
                by_cases c2 : y ∈ ns.take j
                · rw [if_pos c2, if_pos (List.mem_append_left _ c2)]
                · rw [if_neg c2, if_neg]
                  exact fun z => (List.mem_append.mp z).elim c2 fun z => c (List.mem_singleton.mp z)
            · rintro ρ G4 ⟨f', rfl, t, S, Z, K, L, E1, hf'⟩
              refine ⟨_, _, .keep _ (.keep _ (.keep _ (.drop _ (.keep _ (.keep _ (.drop _ (.drop _ (.drop _ (.drop _ .nil))))))))), Sub.refl _, f', g, gs, rfl, t, S, Z, K, L, hz, fun n hn => ?_⟩
              rw [hf' n, take_one hm]
              split
              · exact (hf n hn).append (.refl _)
              · exact (hf n hn).trans (List.sublist_append_left _ _)
      · rintro ρ G' ⟨f, g, gs, rfl, t, S, Z, K, L, hz, hf⟩
        rw [List.length_map, List.take_length] at hf
        have hNl : (N.map T.str).length ≤ 8 := by rw [List.length_map]; exact Nl
        refine ⟨_, S.hq, fun D hD => ⟨by omega, fun k acc G2 => ∃ L : Fnd, acc = L.map fpT ∧ L.map (·.1) = N.take k ∧ (∀ p ∈ L, p.2.Perm (f p.1)) ∧ BT b G G2 ∧ Sub G' G2 ∧ G2 D = some (.lst acc) ∧ acc.length ≤ k, ⟨[], rfl, by simp, fun p hp => (by cases hp), t.new hD, (Sub.refl _).new hD, gput_same, by simp⟩, ?_, ?_, ?_⟩⟩
        · rintro k acc G2 hk ⟨L, rfl, h1, h2, t, s, e, z⟩
          exact ⟨s _ _ S.hq, e, z⟩
        · rintro k u acc G2 ht ⟨L, rfl, h1, h2, t2, s, e, z⟩
          obtain ⟨n, hnk, rfl⟩ := map_at ht
          have nN : n ∈ N := List.mem_of_getElem? hnk
          refine ⟨fun _ => ?_, fun c => (by cases c)⟩
          have fok : ∀ y ∈ f n, nameOk y = true := fun y hy => MK6_ok y (Ms.subset ((hf n nN).subset hy))
          refine ⟨_, _, _, rfl, .inl (s _ _ S.hd), kv_at nN, _, s _ _ (S.hA n nN), srtOk_strs fun y hy => ?_, fun ys py wy r hr => ?_⟩
          · obtain ⟨s, hs, rfl⟩ := List.mem_map.mp hy
            exact ⟨s, rfl, fok s hs⟩
          obtain ⟨ms, rfl, pm⟩ := perm_map py
          have s2 := (Sub.refl G2).new (o := .lst (ms.map T.str)) hr
          refine ⟨_, gput_same, ?_⟩
          refine ⟨s2 _ _ e, _, Sub.refl _, L ++ [(n, ms)], by simp, by rw [take_one hnk, List.map_append, h1]; rfl, fun p hp => ?_, (t2.new hr).mutN t hD, (s.trans s2).mut hD, gput_same, by rw [List.length_append]; exact Nat.succ_le_succ z⟩
          rcases List.mem_append.mp hp with w | w
          · exact h2 p w
          · rw [List.mem_singleton.mp w]; exact pm
        · rintro acc G2 ⟨L, rfl, h1, h2, t2, s, e, z⟩
          rw [List.length_map, List.take_length] at h1
          refine ⟨_, e, ?_⟩
          have Ll : L.length ≤ 8 := by rw [← List.length_map (f := (·.1)), h1]; exact Nl
          have inN : ∀ p ∈ L, p.1 ∈ N := fun p hp => by rw [← h1]; exact List.mem_map.mpr ⟨p, hp, rfl⟩
          have inM : ∀ p ∈ L, ∀ y ∈ p.2, y ∈ MK6 := fun p hp y hy => Ms.subset ((hf p.1 (inN p hp)).subset ((h2 p hp).mem_iff.mp hy))
          refine Ret.of (hQ L G2 ⟨by omega, fun p hp => ⟨fun y hy => MK6_ok y (inM p hp y hy), (h2 p hp).nodup_iff.mpr (sub_nd ((hf p.1 (inN p hp)).trans Ms) MK6_nd), ?_⟩⟩ ⟨by rw [h1]; exact Nd, fun p hp => Nok _ (inN p hp)⟩ Ll inM t2)
          rw [(h2 p hp).length_eq]
          have := ((hf p.1 (inN p hp)).trans Ms).length_le
          have e : MK6.length = 6 := rfl
          omega
abbrev s_law_having : Stmt := topS 21
abbrev N_law_having : List Str := ["found", "rows", "name", "marks", "mark"]
theorem sc_law_having : FnScope N_law_having ["found"] (defScope s_law_having) := ⟨rfl, rfl, rfl, by decide +kernel, rfl, by decide +kernel, by decide +kernel⟩
set_option maxHeartbeats 4000000 in
theorem ok_law_having {P : Program} {w : World} {K : PySem.W.Frag} {mg : Str → Option Value} {base : Heap} (F : FunAt K mg "_law_having" "_law_having" s_law_having ["found"]) (TX : Txt K mg)  :
    DefOk P w K mg base 1 "_law_having" ["found"] sp_law_having := by
  refine okd F sc_law_having (fun ts G Q E h => ?len) (fun f cdv A outer s H E hr => ss_cons (s_set (i := 1) sc_law_having.nd rfl (by first | exact Or.inl rfl | exact Or.inr rfl) (e_d0))
    (ss_cons (s_for (own := [2, 3]) PassesOwn.never rfl (i_seq (e_var 0)) (g_tup (n := 2) rfl (gs_cons (g_name (i := 2) sc_law_having.nd rfl (by first | exact Or.inl rfl | exact Or.inr rfl)) (gs_cons (g_name (i := 3) sc_law_having.nd rfl (by first | exact Or.inl rfl | exact Or.inr rfl)) (gs_nil)))) (ss_one (s_for (own := [4]) PassesOwn.never rfl (i_seq (e_var 3)) (g_name (i := 4) sc_law_having.nd rfl (by first | exact Or.inl rfl | exact Or.inr rfl)) (ss_one (s_dput (un1 hr) (e_var 1) (e_var 4) (e_op o_add (e_get2 (un1 hr) (e_var 1) (e_var 4) (e_lst (a_nil)) ⟨rfl, rfl, rfl, rfl⟩) (e_lst (a_cons (e_var 2) a_nil))))))))
    (ss_one (s_ret (e_var 1)))))
    (fun ts G Q E h => ?run)
  case len => obtain ⟨a, rfl, _⟩ := h; rfl
  case run =>
    obtain ⟨l, rfl, ho, hQ⟩ := h
    intro d hd
    refine ⟨fun i ρ G' => ∃ ks A, ρ = [some (fndT l), some (.ref d), none, none, none] ∧ Mks (l.take i) ks ∧ ks.length ≤ 50 * i ∧ Sub G G' ∧ G' d = some (.dK (kvOf ks fun m => .ref (A m))) ∧ ∀ m ∈ ks, G' (A m) = some (.lst ((namesOf (l.take i) m).map T.str)), ⟨[], fun _ => 0, rfl, by rw [List.take_zero]; exact Mks.start, Nat.zero_le _, (Sub.refl _).new hd, gput_same, fun m hm => (by cases hm)⟩, fun _ _ _ _ _ => trivial, ?_, ?_⟩
    · rintro i t ρ G' ht ⟨ks, A, rfl, hk, hz, s, hd', hA⟩
      obtain ⟨⟨nm, ms⟩, hp, rfl⟩ := map_at ht
      obtain ⟨n1, n2, n3⟩ := ho.nm _ (List.mem_of_getElem? hp)
      have n2 : ms.Nodup := n2
      have n3 : ms.length ≤ 50 := n3
      have hi := (List.getElem?_eq_some_iff.mp hp).1
      have hli := ho.len
      have tl : (l.take i).length ≤ l.length := by rw [List.length_take]; omega
      refine ⟨fun j ρ G' => ∃ ks A, ρ = [some (fndT l), some (.ref d), some (.str nm), some (strsT ms), none] ∧ Mks (l.take i ++ [(nm, ms.take j)]) ks ∧ ks.length ≤ 50 * i + j ∧ Sub G G' ∧ G' d = some (.dK (kvOf ks fun m => .ref (A m))) ∧ ∀ m ∈ ks, G' (A m) = some (.lst ((namesOf (l.take i ++ [(nm, ms.take j)]) m).map T.str)),
        ⟨ks, A, rfl, by rw [List.take_zero]; exact Mks.idle.mpr hk, hz, s, hd', fun m hm => by rw [List.take_zero, names_idle]; exact hA m hm⟩, fun _ _ _ _ _ => trivial, ?_, ?_⟩
      · rintro j t ρ G' ht ⟨ks, A, rfl, hk, hz, s, hd', hA⟩
        obtain ⟨m, hm, rfl⟩ := map_at ht
        have hj := (List.getElem?_eq_some_iff.mp hm).1
        have hnm : m ∉ ms.take j := fun z => by
          obtain ⟨a, ha⟩ := List.mem_iff_getElem?.mp z
          rw [List.getElem?_take] at ha
          split at ha
          · rename_i lt
            obtain ⟨ha1, ha2⟩ := List.getElem?_eq_some_iff.mp ha
            obtain ⟨hb1, hb2⟩ := List.getElem?_eq_some_iff.mp hm
            have := (List.getElem_inj n2).mp (ha2.trans hb2.symm)
            omega
          · cases ha
        refine ⟨⟨_, hd'⟩, fun p1 hp1 => ?_⟩
        have s1 := (Sub.refl G').new (o := .lst []) hp1
        refine ⟨_, _, rfl, s1 _ _ hd', fun p2 hp2 => ?_⟩
        have s2 := s1.new (o := .lst [.str nm]) hp2
        have key : ∃ a, (valT (kvOf ks fun m => .ref (A m)) (.inr m)).getD (.ref p1) = .ref a ∧ gput (gput G' p1 (.lst [])) p2 (.lst [.str nm]) a = some (.lst ((namesOf (l.take i) m).map T.str)) := by
          by_cases c : m ∈ ks
          · refine ⟨A m, by rw [kv_at c]; rfl, ?_⟩
            have := s2 _ _ (hA m c)
            rw [names_old hnm] at this
            exact this
          · refine ⟨p1, by rw [kv_none c]; rfl, ?_⟩
            have : namesOf (l.take i) m = [] := names_none fun p hp z => c ((hk.mem m).mpr ⟨p, List.mem_append_left _ hp, z⟩)
            rw [this]
            exact (gput_ne (gne gput_same hp2)).trans gput_same
        obtain ⟨a, ea, ga⟩ := key
        rw [ea]
        have nl := names_len (l := l.take i) (m := m)
        refine ⟨_, _, ga, gput_same, by rw [List.length_map]; show (namesOf _ m).length + 1 ≤ 100000; omega, fun p3 hp3 => ?_⟩
        have s3 := s2.new (o := .lst ((namesOf (l.take i) m).map T.str ++ [.str nm])) hp3
        have hd0 : d ≠ p3 := gne (s2 _ _ hd') hp3
        have lk : (kvOf ks fun m => T.ref (A m)).length = ks.length := by unfold kvOf; rw [List.length_map]
        refine ⟨_, _, rfl, s3 _ _ hd', by rw [lk]; omega, ?_⟩
        rw [kv_put]
        have al := addS_len (ks := ks) (m := m)
        refine ⟨_, _, .keep _ (.keep _ (.keep _ (.keep _ (.drop _ .nil)))), Sub.refl _, addS ks m, fun x => if x = m then p3 else A x, rfl, ?_, by omega, ?_, ?_, ?_⟩
        · rw [take_one hm]; exact hk.add
        · exact (s.trans s3).mut hd
        · rw [gput_same]
          congr 3
          funext x
          show _ = T.ref (if x = m then p3 else A x)
          by_cases e : x = m
          · rw [if_pos e, if_pos e]
          · rw [if_neg e, if_neg e]
        · intro x hx
          rw [take_one hm]
          by_cases e : x = m
          · subst e
            rw [names_new (by simp), List.map_append]
            show gput _ d _ (if x = x then p3 else A x) = _
            rw [if_pos rfl, gput_ne hd0.symm, gput_same]; rfl
          · have hx' : x ∈ ks := (mem_addS.mp hx).elim id fun z => absurd z e
            have e2 : namesOf (l.take i ++ [(nm, ms.take j ++ [m])]) x = namesOf (l.take i ++ [(nm, ms.take j)]) x := by
              rw [namesOf_app, namesOf_app]; simp [e]
            rw [e2]
            show gput _ d _ (if x = m then p3 else A x) = _
            have nd : A x ≠ d := fun z => by
              have := hA x hx'
              rw [z, hd'] at this; cases this
            rw [if_neg e, gput_ne nd]
            exact s3 _ _ (hA x hx')
      · rintro ρ G' ⟨ks, A, rfl, hk, hz, s, hd', hA⟩
        rw [List.length_map, List.take_length] at hk hA
        rw [List.length_map] at hz
        refine ⟨_, _, .keep _ (.keep _ (.drop _ (.drop _ (.drop _ .nil)))), Sub.refl _, ks, A, rfl, ?_, by omega, s, hd', ?_⟩
        · rw [take_one hp]; exact hk
        · rw [take_one hp]; exact hA
    · rintro ρ G' ⟨ks, A, rfl, hk, hz, s, hd', hA⟩
      rw [List.length_map, List.take_length] at hk hA
      rw [List.length_map] at hz
      have := ho.len
      exact Ret.of (hQ ks A d G' hk (by omega) s hd' hA)
abbrev s_law_cross : Stmt := topS 22
abbrev N_law_cross : List Str := ["one", "other", "both", "name"]
theorem sc_law_cross : FnScope N_law_cross ["one", "other"] (defScope s_law_cross) := ⟨rfl, rfl, rfl, by decide +kernel, rfl, by decide +kernel, by decide +kernel⟩
set_option maxHeartbeats 4000000 in
theorem ok_law_cross {P : Program} {w : World} {K : PySem.W.Frag} {mg : Str → Option Value} {base : Heap} (F : FunAt K mg "_law_cross" "_law_cross" s_law_cross ["one", "other"]) (TX : Txt K mg)  :
    DefOk P w K mg base 1 "_law_cross" ["one", "other"] sp_law_cross := by
  refine okd F sc_law_cross (fun ts G Q E h => ?len) (fun f cdv A outer s H E hr => ss_cons (s_setLc (i := 2) (own := [("name", 3)]) rfl sc_law_cross.nd rfl rfl (sw_true rfl rfl rfl (by decide +kernel)) (i_seq (e_var 0)) (blkOk_by (N := N_law_cross) (sc := defScope s_law_cross) (own := [("name", 3)]) (by decide +kernel)) (fun _ _ _ _ _ => g_name (i := 3) sc_law_cross.nd rfl (by first | exact Or.inl rfl | exact Or.inr rfl)) (fun _ _ _ _ _ => ts_one (t_cmp (o_in2 (un65 hr)) (e_var 3) (e_var 1) rfl)) (fun _ _ _ _ _ => e_var 3))
    (ss_one (s_ret (e_and (e_cmp (o_neL hr.units) (e_var 2) (e_lst (a_nil)) (nomark _)) (e_and (e_cmp (o_lt2 (un66 hr)) (e_callB b_len (by rfl) TX.n_len (by decide +kernel) (a_cons (e_var 2) a_nil)) (e_callB b_len (by rfl) TX.n_len (by decide +kernel) (a_cons (e_var 0) a_nil)) (nomark _)) (pe_one (e_cmp (o_lt2 (un66 hr)) (e_callB b_len (by rfl) TX.n_len (by decide +kernel) (a_cons (e_var 2) a_nil)) (e_callB b_len (by rfl) TX.n_len (by decide +kernel) (a_cons (e_var 1) a_nil)) (nomark _))))))))
    (fun ts G Q E h => ?run)
  case len => obtain ⟨a, b, c, d, rfl, _⟩ := h; rfl
  case run =>
    obtain ⟨a, b, xs, ys, rfl, ha, hb, hz, hzb, hn, hnb, hQ⟩ := h
    refine ⟨_, ha, fun D hD => ⟨by rw [List.length_map]; omega, fun k acc G' => acc = ((xs.take k).filter fun x => decide (x ∈ ys)).map T.str ∧ Sub G G' ∧ G' D = some (.lst acc) ∧ acc.length ≤ k, ⟨by simp, (Sub.refl _).new hD, gput_same, by simp⟩, ?_, ?_, ?_⟩⟩
    · rintro k acc G' hk ⟨rfl, s, e, z⟩
      exact ⟨s _ _ ha, e, z⟩
    · rintro k t acc G' ht ⟨rfl, s, e, z⟩
      obtain ⟨x, hx, rfl⟩ := map_at ht
      refine ⟨_, s _ _ hb, eqOks_names hnb, eqOk_name (hn x (List.mem_of_getElem? hx)), ?_⟩
      rw [any_strs, Bool.false_bne]
      refine ⟨fun c => ?_, fun c => ?_⟩
      · refine ⟨e, _, Sub.refl _, ?_, s.mut hD, gput_same, by rw [List.length_append]; exact Nat.succ_le_succ z⟩
        rw [take_one hx, List.filter_append, List.map_append, filt1 (p := fun x => decide (x ∈ ys)) c]; rfl
      · refine ⟨_, Sub.refl _, ?_, s, e, by omega⟩
        rw [take_one hx, List.filter_append, filt0 (p := fun x => decide (x ∈ ys)) c, List.append_nil]
    · rintro acc G' ⟨rfl, s, e, z⟩
      rw [List.length_map, List.take_length] at e
      unfold crossN at hQ
      generalize hF : (xs.filter fun x => decide (x ∈ ys)) = F at e hQ
      have Fn : ∀ x ∈ F, nameOk x = true := fun x hx => hn x (by rw [← hF] at hx; exact (List.mem_filter.mp hx).1)
      intro p hp
      have s2 := s.new (o := .lst []) hp
      have e2 := ((Sub.refl G').new (o := .lst []) hp) _ _ e
      have ne : (true != teqs (F.map T.str) []) = !F.isEmpty := by cases F <;> rfl
      refine ⟨_, _, e2, gput_same, fun _ => ⟨eqOks_names Fn, rfl⟩, ?_⟩
      rw [ne]
      refine ⟨fun c => ?_, fun c => ?_⟩
      · rw [c, Bool.true_and] at hQ
        refine ⟨_, e2, _, s2 _ _ ha, ?_⟩
        have lt : ∀ m : List Str, decide ((((F.map T.str).length : Nat) : Int) < (((m.map T.str).length : Nat) : Int)) = decide (F.length < m.length) := fun m => by
          rw [List.length_map, List.length_map]
          exact decide_eq_decide.mpr (by omega)
        refine ⟨fun c2 => ?_, fun c2 => ?_⟩
        · have c2 := (lt xs).symm.trans c2
          rw [c2, Bool.true_and] at hQ
          refine ⟨_, e2, _, s2 _ _ hb, ?_⟩
          rw [← lt ys] at hQ
          exact ⟨_, s2, hQ _ (Sub.refl _)⟩
        · have c2 := (lt xs).symm.trans c2
          rw [c2, Bool.false_and] at hQ
          exact ⟨_, s2, hQ _ (Sub.refl _)⟩
      · rw [c] at hQ
        exact ⟨_, s2, hQ _ (Sub.refl _)⟩
abbrev s_law_crossing : Stmt := topS 23
abbrev N_law_crossing : List Str := ["found", "rows", "mark", "other"]
theorem sc_law_crossing : FnScope N_law_crossing ["found"] (defScope s_law_crossing) := ⟨rfl, rfl, rfl, by decide +kernel, rfl, by decide +kernel, by decide +kernel⟩
set_option maxHeartbeats 4000000 in
theorem ok_law_crossing {P : Program} {w : World} {K : PySem.W.Frag} {mg : Str → Option Value} {base : Heap} (F : FunAt K mg "_law_crossing" "_law_crossing" s_law_crossing ["found"]) (TX : Txt K mg) (D_law_having : DefOk P w K mg base 1 "_law_having" ["found"] sp_law_having) (D_law_cross : DefOk P w K mg base 1 "_law_cross" ["one", "other"] sp_law_cross) :
    DefOk P w K mg base 2 "_law_crossing" ["found"] sp_law_crossing := by
  refine okd F sc_law_crossing (fun ts G Q E h => ?len) (fun f cdv A outer s H E hr => ss_cons (s_set (i := 1) sc_law_crossing.nd rfl (by first | exact Or.inl rfl | exact Or.inr rfl) (e_callD D_law_having hr (by rfl) (a_cons (e_var 0) a_nil)))
    (ss_cons (s_for (own := [2]) PassesOwn.never rfl (i_seq (e_callB (b_sortedD rfl) (by rfl) TX.n_sorted (by decide +kernel) (a_cons (e_var 1) a_nil))) (g_name (i := 2) sc_law_crossing.nd rfl (by first | exact Or.inl rfl | exact Or.inr rfl)) (ss_one (s_for (own := [3]) PassesOwn.never rfl (i_seq (e_callB (b_sortedD rfl) (by rfl) TX.n_sorted (by decide +kernel) (a_cons (e_var 1) a_nil))) (g_name (i := 3) sc_law_crossing.nd rfl (by first | exact Or.inl rfl | exact Or.inr rfl)) (ss_one (s_if (PW.pt (w_and (t_cmp (o_lt2 (un66 hr)) (e_var 2) (e_var 3) (nomark _)) (pw_and1 (t_tr (e_callD D_law_cross hr (by rfl) (a_cons (e_aget (un1 hr) (e_var 1) (e_var 2) (fun _ _ => rfl)) (a_cons (e_aget (un1 hr) (e_var 1) (e_var 3) (fun _ _ => rfl)) a_nil))))))) (ss_one (s_ret (e_tup (a_cons (e_var 2) (a_cons (e_var 3) a_nil))))) (ss_nil))))))
    (ss_one (s_ret (e_non)))))
    (fun ts G Q E h => ?run)
  case len => obtain ⟨a, rfl, _⟩ := h; rfl
  case run =>
    obtain ⟨l, rfl, ho, hm, hfew, hQ⟩ := h
    refine ⟨l, rfl, ho, fun ks A d G0 hk _ s0 hd hA => ?_⟩
    have hkl := hfew ks hk
    have hkn := hk.names ho
    refine ⟨_, ks, hd, kv_keys, hkl, fun ys py sy p hp => ?_⟩
    have my : Mks l ys := ⟨py.nodup_iff.mpr hk.nd, fun x => py.mem_iff.trans (hk.mem x)⟩
    have hyl := hfew ys my
    have s1 : Sub G0 (gput G0 p (.lst (ys.map T.str))) := (Sub.refl _).new hp
    have e2 : gput G0 p (.lst (ys.map T.str)) p = some (.lst (ys.map T.str)) := gput_same
    generalize gput G0 p (.lst (ys.map T.str)) = G1 at s1 e2 ⊢
    have sG := s0.trans s1
    replace hd := s1 _ _ hd
    replace hA := fun m hm => s1 _ _ (hA m hm)
    have hli := ho.len
    have pw := srt_pw (fun x hx => hkn x (py.mem_iff.mp hx)) (sorted_srt sy) my.nd
    let f : Str × Str → Bool := fun p => crossB (posOf l p.1) (posOf l p.2)
    refine ⟨_, e2, fun i ρ G' => ρ = [some (fndT l), some (.ref d), none, none] ∧ Sub G1 G' ∧ (prs ys).find? f = (prs (ys.drop i)).find? f, ⟨rfl, Sub.refl _, rfl⟩, fun _ _ _ _ hI => hI.2.1 _ _ e2, ?_, ?_⟩
    · rintro i t ρ G' ht ⟨rfl, s, hf⟩
      obtain ⟨y, hy, rfl⟩ := map_at ht
      have hil := (List.getElem?_eq_some_iff.mp hy).1
      have ed : ys.drop i = y :: ys.drop (i + 1) := by
        obtain ⟨h1, h2⟩ := List.getElem?_eq_some_iff.mp hy
        rw [← h2]
        exact List.drop_eq_getElem_cons h1
      rw [ed] at hf
      refine ⟨_, ks, s _ _ hd, kv_keys, hkl, fun zs pz sz q hq => ?_⟩
      have ez : zs = ys := SrtS.uniq hkn pz py (sorted_srt sz) (sorted_srt sy)
      subst ez
      have s2 := s.new (o := .lst (zs.map T.str)) hq
      refine ⟨_, gput_same, fun j ρ G2 => ρ = [some (fndT l), some (.ref d), some (.str y), none] ∧ Sub G1 G2 ∧ G2 q = some (.lst (zs.map T.str)) ∧ (prs zs).find? f = (((zs.drop (max j (i + 1))).map fun z => (y, z)) ++ prs (zs.drop (i + 1))).find? f,
        ⟨rfl, s2, gput_same, by rw [show max 0 (i + 1) = i + 1 by omega]; exact hf⟩, fun _ _ _ _ hI => hI.2.2.1, ?_, ?_⟩
      · rintro j t ρ G2 ht ⟨rfl, s3, hq3, hf3⟩
        obtain ⟨z, hz, rfl⟩ := map_at ht
        have hjl := (List.getElem?_eq_some_iff.mp hz).1
        have my1 : y ∈ ks := py.mem_iff.mp (List.mem_of_getElem? hy)
        have mz1 : z ∈ ks := py.mem_iff.mp (List.mem_of_getElem? hz)
        have lt : decide (y.cps.toList < z.cps.toList) = decide (i < j) := by
          obtain ⟨h1, rfl⟩ := List.getElem?_eq_some_iff.mp hy
          obtain ⟨h2, rfl⟩ := List.getElem?_eq_some_iff.mp hz
          rw [List.pairwise_iff_getElem] at pw
          rcases Nat.lt_trichotomy i j with c | c | c
          · rw [decide_eq_true (pw i j h1 h2 c), decide_eq_true c]
          · subst c
            rw [decide_eq_false (List.lt_irrefl _), decide_eq_false (Nat.lt_irrefl _)]
          · rw [decide_eq_false (fun w => List.lt_irrefl _ (List.lt_trans w (pw j i h2 h1 c))), decide_eq_false (by omega)]
        have skip : (¬ (i < j ∧ f (y, z) = true)) → Wk (fun ρ G2 => ρ = [some (fndT l), some (.ref d), some (.str y), none] ∧ Sub G1 G2 ∧ G2 q = some (.lst (zs.map T.str)) ∧ (prs zs).find? f = (((zs.drop (max (j + 1) (i + 1))).map fun z => (y, z)) ++ prs (zs.drop (i + 1))).find? f) [some (fndT l), some (.ref d), some (.str y), some (.str z)] G2 := fun c => by
          refine ⟨_, _, .keep _ (.keep _ (.keep _ (.drop _ .nil))), Sub.refl _, rfl, s3, hq3, ?_⟩
          rw [hf3]
          by_cases hij : i < j
          · have ed2 : zs.drop j = z :: zs.drop (j + 1) := by
              obtain ⟨h1, h2⟩ := List.getElem?_eq_some_iff.mp hz
              rw [← h2]
              exact List.drop_eq_getElem_cons h1
            have fz : f (y, z) = false := by
              cases h : f (y, z) with
              | false => rfl
              | true => exact absurd ⟨hij, h⟩ c
            rw [show max j (i + 1) = j by omega, show max (j + 1) (i + 1) = j + 1 by omega, ed2, List.map_cons, List.cons_append, List.find?_cons, fz]
          · rw [show max j (i + 1) = i + 1 by omega, show max (j + 1) (i + 1) = i + 1 by omega]
        refine ⟨fun c => ?_, fun c => ?_⟩
        · have hij : i < j := of_decide_eq_true (lt.symm.trans c)
          refine ⟨_, _, _, rfl, .inl (s3 _ _ hd), kv_at my1, _, _, _, rfl, .inl (s3 _ _ hd), kv_at mz1, ?_⟩
          have n1 := names_len (l := l) (m := y)
          have n2 := names_len (l := l) (m := z)
          have nn : ∀ m, ∀ x ∈ namesOf l m, nameOk x = true := fun m x hx => by
            obtain ⟨p, hp, rfl, _⟩ := mem_namesOf.mp hx
            exact hm.nm p hp
          refine ⟨_, _, namesOf l y, namesOf l z, rfl, s3 _ _ (hA y my1), s3 _ _ (hA z mz1), by omega, by omega, nn y, nn z, fun G3 s4 => ?_⟩
          rw [crossN_eq hm]
          refine ⟨fun c2 => ?_, fun c2 => ?_⟩
          · have c' : f (y, z) = true := c2
            have ed2 : zs.drop j = z :: zs.drop (j + 1) := by
              obtain ⟨h1, h2⟩ := List.getElem?_eq_some_iff.mp hz
              rw [← h2]
              exact List.drop_eq_getElem_cons h1
            rw [show max j (i + 1) = j by omega, ed2, List.map_cons, List.cons_append, List.find?_cons, c'] at hf3
            have := hQ zs G3 my (sorted_srt sy) ((sG.trans s3).trans s4)
            unfold crossL at this
            rw [hf3] at this
            exact Ret.of this
          · have c' : f (y, z) = false := c2
            obtain ⟨ρ2, G4, e1, e2, e3, e4, e5, e6⟩ := skip fun z => by rw [c'] at z; cases z.2
            exact ⟨ρ2, G4, e1, e2.trans s4, e3, e4, e5, e6⟩
        · have hij : ¬ i < j := of_decide_eq_false (lt.symm.trans c)
          exact ⟨fun z => (by cases z), fun _ => skip fun z => hij z.1⟩
      · rintro ρ G2 ⟨rfl, s3, hq3, hf3⟩
        rw [List.length_map, show max zs.length (i + 1) = zs.length by omega, List.drop_length, List.map_nil, List.nil_append] at hf3
        exact ⟨_, _, .keep _ (.keep _ (.drop _ (.drop _ .nil))), Sub.refl _, rfl, s3, hf3⟩
    · rintro ρ G' ⟨rfl, s, hf⟩
      rw [List.length_map, List.drop_length] at hf
      have := hQ ys G' my (sorted_srt sy) (sG.trans s)
      unfold crossL at this
      rw [hf] at this
      exact Ret.of this
abbrev s_law_are_found : Stmt := topS 24
abbrev N_law_are_found : List Str := ["thing", "pair", "names", "mark"]
theorem sc_law_are_found : FnScope N_law_are_found ["thing"] (defScope s_law_are_found) := ⟨rfl, rfl, rfl, by decide +kernel, rfl, by decide +kernel, by decide +kernel⟩
set_option maxHeartbeats 4000000 in
theorem ok_law_are_found {P : Program} {w : World} {K : PySem.W.Frag} {mg : Str → Option Value} {base : Heap} (F : FunAt K mg "_law_are_found" "_law_are_found" s_law_are_found ["thing"]) (TX : Txt K mg) (D_law_is_name : DefOk P w K mg base 1 "_law_is_name" ["thing"] sp_law_is_name) :
    DefOk P w K mg base 2 "_law_are_found" ["thing"] sp_law_are_found := by
  refine okd F sc_law_are_found (fun ts G Q E h => ?len) (fun f cdv A outer s H E hr => ss_cons (s_if (PW.pt (w_or (t_not (t_tr (e_callB b_isi (by rfl) TX.n_isinstance (by decide +kernel) (a_cons (e_var 0) (a_cons (e_ty .tuple (by rfl) TX.n_tuple (by decide +kernel)) a_nil))))) (pw_or1 (t_cmp o_gt (e_callB b_len (by rfl) TX.n_len (by decide +kernel) (a_cons (e_var 0) a_nil)) (e_int) (nomark _))))) (ss_one (s_ret (e_bl))) (ss_nil))
    (ss_cons (s_for (own := [1]) PassesOwn.never rfl (i_seq (e_var 0)) (g_name (i := 1) sc_law_are_found.nd rfl (by first | exact Or.inl rfl | exact Or.inr rfl)) (ss_cons (s_if (PW.pt (w_or (t_not (t_tr (e_callB b_isi (by rfl) TX.n_isinstance (by decide +kernel) (a_cons (e_var 1) (a_cons (e_ty .tuple (by rfl) TX.n_tuple (by decide +kernel)) a_nil))))) (w_or (t_cmp (o_ne hr.units) (e_callB b_len (by rfl) TX.n_len (by decide +kernel) (a_cons (e_var 1) a_nil)) (e_int) (nomark _)) (pw_or1 (t_not (t_tr (e_callD D_law_is_name hr (by rfl) (a_cons (e_ix i_ixC (e_var 1) (e_int) (fun _ _ => rfl)) a_nil)))))))) (ss_one (s_ret (e_bl))) (ss_nil))
    (ss_cons (s_if (PW.pt (w_or (t_not (t_tr (e_callB b_isi (by rfl) TX.n_isinstance (by decide +kernel) (a_cons (e_ix i_ixC (e_var 1) (e_int) (fun _ _ => rfl)) (a_cons (e_ty .tuple (by rfl) TX.n_tuple (by decide +kernel)) a_nil))))) (pw_or1 (t_cmp o_gt (e_callB b_len (by rfl) TX.n_len (by decide +kernel) (a_cons (e_ix i_ixC (e_var 1) (e_int) (fun _ _ => rfl)) a_nil)) (e_int) (nomark _))))) (ss_one (s_ret (e_bl))) (ss_nil))
    (ss_one (s_if (PW.pt (w_or (t_cmp (o_neL hr.units) (e_lc (own := [("mark", 3)]) rfl sc_law_are_found.nd (i_seq (e_ix i_ixC (e_var 1) (e_int) (fun _ _ => rfl))) (blkOk_by (N := N_law_are_found) (sc := defScope s_law_are_found) (own := [("mark", 3)]) (by decide +kernel)) (fun _ _ _ _ _ => g_name (i := 3) sc_law_are_found.nd rfl (by first | exact Or.inl rfl | exact Or.inr rfl)) (fun _ _ _ _ _ => ts_one (t_not (t_tr (e_callD D_law_is_name hr (by rfl) (a_cons (e_var 3) a_nil))))) (fun _ _ _ _ _ => e_var 3)) (e_lst (a_nil)) (nomark _)) (pw_or1 (t_cmp (o_ne hr.units) (e_callTy b_list (by rfl) TX.n_list (by decide +kernel) (a_cons (e_ix i_ixC (e_var 1) (e_int) (fun _ _ => rfl)) a_nil)) (e_sortSet rfl (by rfl) TX.n_sorted (by rfl) TX.n_set (e_ix i_ixC (e_var 1) (e_int) (fun _ _ => rfl))) (nomark _))))) (ss_one (s_ret (e_bl))) (ss_nil))))))
    (ss_cons (s_setLc (i := 2) (own := [("pair", 1)]) rfl sc_law_are_found.nd rfl rfl (sw_true rfl rfl rfl (by decide +kernel)) (i_seq (e_var 0)) (blkOk_by (N := N_law_are_found) (sc := defScope s_law_are_found) (own := [("pair", 1)]) (by decide +kernel)) (fun _ _ _ _ _ => g_name (i := 1) sc_law_are_found.nd rfl (by first | exact Or.inl rfl | exact Or.inr rfl)) (fun _ _ _ _ _ => ts_nil) (fun _ _ _ _ _ => e_ix i_ixC (e_var 1) (e_int) (fun _ _ => rfl)))
    (ss_one (s_ret (e_cmp (o_eq hr.units) (e_var 2) (e_sortSet rfl (by rfl) TX.n_sorted (by rfl) TX.n_set (e_var 2)) (nomark _)))))))
    (fun ts G Q E h => ?run)
  case len => obtain ⟨t, av, k, n, rfl, _⟩ := h; rfl
  case run =>
    obtain ⟨t, av, k, n, rfl, hk, hd, hQ⟩ := h
    cases t with
    | tup us =>
      cases n with
      | zero => exact hd.elim
      | succ n =>
      obtain ⟨hl, hu⟩ := hd
      refine ⟨fun c => (by cases c), fun _ => ⟨fun c => ?_, fun c => ?_⟩⟩
      · have c : 8 < (us.length : Int) := of_decide_eq_true c
        have : isFound (.tup us) = false := by
          rw [isFound_tup, decide_eq_false (by omega : ¬ us.length ≤ 8)]; simp
        rw [this] at hQ
        exact ⟨G, Sub.refl _, hQ⟩
      · have c : ¬ 8 < (us.length : Int) := of_decide_eq_false c
        have no : ∀ t ∈ us, pairOk t = false → isFound (.tup us) = false := fun t ht h => by
          have : us.all pairOk = false := by rw [List.all_eq_false]; exact ⟨t, ht, by rw [h]; decide⟩
          rw [isFound_tup, this]; simp
        refine ⟨fun i ρ G' => ρ = [some (.tup us), none, none, none] ∧ Sub G G' ∧ (us.take i).all pairOk = true, ⟨rfl, Sub.refl _, rfl⟩, fun _ _ _ _ _ => trivial, ?_, ?_⟩
        · rintro i t ρ G' ht ⟨rfl, s, hp⟩
          have hm := List.mem_of_getElem? ht
          have hdt := hu t hm
          have bad : pairOk t = false → Ret Q (.bl false) G' := fun h => ⟨G, s, by rw [no t hm h] at hQ; exact hQ⟩
          cases t with
          | tup vs =>
            cases n with
            | zero => exact hdt.elim
            | succ n =>
            obtain ⟨hl2, hv⟩ := hdt
            refine ⟨fun c => (by cases c), fun _ => ?_⟩
            have two : vs.length ≠ 2 ∨ vs.length = 2 := by omega
            rcases two with two | two
            · refine ⟨fun _ => ⟨fun _ => bad (pairOk_len two), fun c => (by cases c)⟩, fun z => ?_⟩
              · have := of_decide_eq_true (show decide ((vs.length : Int) = 2) = true by simpa using z)
                omega
            obtain ⟨a, b, rfl⟩ : ∃ a b, vs = [a, b] := by
              match vs, two with
              | [a, b], _ => exact ⟨a, b, rfl⟩
            have ha := (hv a (by simp)).sub' s
            have hb := (hv b (by simp)).sub' s
            refine ⟨fun z => (by cases z), fun _ => ?_⟩
            refine ⟨a, rfl, ha.any, fun x e => by subst e; exact dat_len ha hk, fun c1 => ?_, fun c1 => ?_⟩
            · exact bad (by cases b <;> simp_all [pairOk])
            have c1 : isNm a = true := by simpa using c1
            cases b with
            | tup ms =>
              cases n with
              | zero => exact hb.elim
              | succ n =>
              obtain ⟨hl3, hms⟩ := hb
              refine ⟨fun c => (by cases c), fun _ => ?_⟩
              refine ⟨fun c => ?_, fun c => ?_⟩
              · have c : 6 < (ms.length : Int) := of_decide_eq_true c
                refine bad ?_
                rw [pairOk_two, decide_eq_false (by omega : ¬ ms.length ≤ 6)]; simp
              have c6 : ¬ 6 < (ms.length : Int) := of_decide_eq_false c
              refine fun D hD => ⟨by omega, fun k acc G2 => acc = ((ms.take k).filter fun t => !isNm t) ∧ Sub G' G2 ∧ G2 D = some (.lst acc) ∧ acc.length ≤ k, ⟨by simp, (Sub.refl _).new hD, gput_same, by simp⟩, ?_, ?_, ?_⟩
              · rintro k acc G2 hk ⟨rfl, s, e, z⟩
                exact ⟨trivial, e, z⟩
              · rintro k t acc G2 ht ⟨rfl, s2, e, z⟩
                have hdt := (hms t (List.mem_of_getElem? ht)).sub' s2
                refine ⟨t, rfl, hdt.any, fun x e => by subst e; exact dat_len hdt hk, fun c => ?_, fun c => ?_⟩
                · refine ⟨e, _, Sub.refl _, ?_, s2.mut hD, gput_same, by rw [List.length_append]; exact Nat.succ_le_succ z⟩
                  rw [take_one ht, List.filter_append, filt1 (p := fun t => !isNm t) c]
                · refine ⟨_, Sub.refl _, ?_, s2, e, by omega⟩
                  rw [take_one ht, List.filter_append, filt0 (p := fun t => !isNm t) c, List.append_nil]
              · rintro acc G2 ⟨rfl, s2, e, z⟩
                rw [List.take_length] at e
                intro p hp2
                have s3 := s2.new (o := .lst []) hp2
                refine ⟨_, [], (gput_ne (gne e hp2)).trans e, gput_same, fun q => ?_, fun c => ?_, fun c => ?_⟩
                · have q0 : (ms.filter fun t => !isNm t) = [] := List.eq_nil_of_length_eq_zero q
                  rw [q0]
                  exact ⟨rfl, rfl⟩
                · refine ⟨fun _ => ⟨G, s.trans s3, ?_⟩, fun c => (by cases c)⟩
                  have : ms.all isNm = false := by
                    rw [List.all_eq_false]
                    cases h : ms.filter fun t => !isNm t with
                    | nil => rw [h] at c; cases c
                    | cons t r =>
                      have ht : t ∈ ms.filter fun t => !isNm t := by rw [h]; exact List.mem_cons_self
                      obtain ⟨h1, h2⟩ := List.mem_filter.mp ht
                      exact ⟨t, h1, by simpa using h2⟩
                  rw [no _ hm (by rw [pairOk_two, this]; simp)] at hQ
                  exact hQ
                · have hall : ms.all isNm = true := by
                    rw [List.all_eq_true]
                    intro t ht
                    cases h : isNm t with
                    | true => rfl
                    | false =>
                      have ht : t ∈ ms.filter fun t => !isNm t := List.mem_filter.mpr ⟨ht, by rw [h]; rfl⟩
                      cases h2 : ms.filter fun t => !isNm t with
                      | nil => rw [h2] at ht; cases ht
                      | cons u r => rw [h2] at c; cases c
                  obtain ⟨l, rfl, hl⟩ := names_of hall
                  rw [List.length_map] at c6
                  intro p2 hp2'
                  have s4 := s3.new (o := .lst (l.map T.str)) hp2'
                  refine ⟨l, .inl rfl, by omega, fun ys nd hmem srt p3 hp3 => ?_⟩
                  have s5 := s4.new (o := .lst (ys.map T.str)) hp3
                  have hys : ∀ x ∈ ys, nameOk x = true := fun x hx => hl x ((hmem x).mp hx)
                  refine ⟨_, _, (gput_ne (gne gput_same hp3)).trans gput_same, gput_same, eqOks_names hl, eqOks_names hys, ?_⟩
                  rw [strs_teq, up_iff hl nd hmem srt]
                  refine ⟨fun c2 => ?_, fun c2 => ?_⟩
                  · have c2 : upS l = false := by simpa using c2
                    refine ⟨G, s.trans s5, ?_⟩
                    rw [no _ hm (by rw [pairOk_two, upT_map, c2]; simp)] at hQ
                    exact hQ
                  · have c2 : upS l = true := by simpa using c2
                    refine ⟨_, _, .keep _ (.drop _ (.drop _ (.drop _ .nil))), Sub.refl _, rfl, s.trans s5, ?_⟩
                    rw [take_one ht, List.all_append, hp, Bool.true_and]
                    show (pairOk _ && true) = true
                    rw [Bool.and_true, pairOk_two, upT_map, c2, hall, c1, decide_eq_true (by rw [List.length_map]; omega)]; rfl
            | ref b =>
              obtain ⟨xs, hg⟩ := hb.any
              exact ⟨xs, hg, fun _ => ⟨fun _ => bad rfl, fun c => (by cases c)⟩, fun c => (by cases c)⟩
            | ty _ => exact hb.any.elim
            | scr _ => exact hb.any.elim
            | _ => exact ⟨fun _ => ⟨fun _ => bad rfl, fun c => (by cases c)⟩, fun c => (by cases c)⟩
          | ref b =>
            obtain ⟨xs, hg⟩ := (hdt.sub' s).any
            exact ⟨xs, hg, fun _ => ⟨fun _ => bad rfl, fun c => (by cases c)⟩, fun c => (by cases c)⟩
          | ty _ => exact (hdt.sub' s).any.elim
          | scr _ => exact (hdt.sub' s).any.elim
          | _ => exact ⟨fun _ => ⟨fun _ => bad rfl, fun c => (by cases c)⟩, fun c => (by cases c)⟩
        · rintro ρ G' ⟨rfl, s, hp⟩
          rw [List.take_length] at hp
          obtain ⟨l, rfl, hlp⟩ := pairs_of_ok hp
          have hll : l.length ≤ 8 := by rw [List.length_map] at c; omega
          refine fun D hD => ⟨by rw [List.length_map]; omega, fun k acc G2 => acc = ((l.take k).map fun p => T.str p.1) ∧ Sub G' G2 ∧ G2 D = some (.lst acc) ∧ acc.length ≤ k, ⟨by simp, (Sub.refl _).new hD, gput_same, by simp⟩, ?_, ?_, ?_⟩
          · rintro k acc G2 hk ⟨rfl, s, e, z⟩
            exact ⟨trivial, e, z⟩
          · rintro k t acc G2 ht ⟨rfl, s2, e, z⟩
            obtain ⟨p, hpk, rfl⟩ := map_at ht
            refine ⟨fun _ => ?_, fun c => (by cases c)⟩
            refine ⟨e, _, Sub.refl _, ?_, s2.mut hD, gput_same, by rw [List.length_append]; exact Nat.succ_le_succ z⟩
            rw [take_one hpk, List.map_append]; rfl
          · rintro acc G2 ⟨rfl, s2, e, z⟩
            rw [List.length_map, List.take_length] at e
            have e : G2 D = some (.lst ((l.map (·.1)).map T.str)) := by rw [e, List.map_map]; rfl
            have hn : ∀ x ∈ l.map (·.1), nameOk x = true := fun x hx => by
              obtain ⟨p, hp, rfl⟩ := List.mem_map.mp hx
              exact (hlp p hp).1
            refine ⟨l.map (·.1), .inr ⟨D, rfl, e⟩, by rw [List.length_map]; omega, fun ys nd hmem srt p3 hp3 => ?_⟩
            have hys : ∀ x ∈ ys, nameOk x = true := fun x hx => hn x ((hmem x).mp hx)
            refine ⟨_, _, (gput_ne (gne e hp3)).trans e, gput_same, eqOks_names hn, eqOks_names hys, ?_⟩
            rw [strs_teq, up_iff hn nd hmem srt, Bool.false_bne]
            have : isFound (.tup (l.map fun p => T.tup [.str p.1, strsT p.2])) = upS (l.map (·.1)) := by
              rw [isFound_tup, hp, List.map_map, decide_eq_true (by rw [List.length_map]; exact hll), Bool.true_and, Bool.true_and, ← upT_map, List.map_map]; rfl
            rw [← this]
            exact ⟨G, (s.trans s2).new hp3, hQ⟩
    | ref b =>
      obtain ⟨xs, hg⟩ := hd.any
      exact ⟨xs, hg, fun _ => ⟨fun _ => ⟨G, Sub.refl _, hQ⟩, fun c => (by cases c)⟩, fun c => (by cases c)⟩
    | ty _ => exact hd.any.elim
    | scr _ => exact hd.any.elim
    | _ => exact ⟨fun _ => ⟨fun _ => ⟨G, Sub.refl _, hQ⟩, fun c => (by cases c)⟩, fun c => (by cases c)⟩
abbrev s_law_around : Stmt := topS 25
abbrev N_law_around : List Str := ["found", "rows", "told", "mark", "best", "other", "holds", "more", "name"]
theorem sc_law_around : FnScope N_law_around ["found"] (defScope s_law_around) := ⟨rfl, rfl, rfl, by decide +kernel, rfl, by decide +kernel, by decide +kernel⟩
set_option maxHeartbeats 4000000 in
theorem ok_law_around {P : Program} {w : World} {K : PySem.W.Frag} {mg : Str → Option Value} {base : Heap} (F : FunAt K mg "_law_around" "_law_around" s_law_around ["found"]) (TX : Txt K mg) (D_law_having : DefOk P w K mg base 1 "_law_having" ["found"] sp_law_having) :
    DefOk P w K mg base 2 "_law_around" ["found"] sp_law_around := by
  refine okd F sc_law_around (fun ts G Q E h => ?len) (fun f cdv A outer s H E hr => ss_cons (s_set (i := 1) sc_law_around.nd rfl (by first | exact Or.inl rfl | exact Or.inr rfl) (e_callD D_law_having hr (by rfl) (a_cons (e_var 0) a_nil)))
    (ss_cons (s_set (i := 2) sc_law_around.nd rfl (by first | exact Or.inl rfl | exact Or.inr rfl) (e_lst (a_nil)))
    (ss_cons (s_for (own := [3]) PassesOwn.never rfl (i_seq (e_callB (b_sortedD rfl) (by rfl) TX.n_sorted (by decide +kernel) (a_cons (e_var 1) a_nil))) (g_name (i := 3) sc_law_around.nd rfl (by first | exact Or.inl rfl | exact Or.inr rfl)) (ss_cons (s_set (i := 4) sc_law_around.nd rfl (by first | exact Or.inl rfl | exact Or.inr rfl) (e_non))
    (ss_cons (s_for (own := [5]) PassesOwn.never rfl (i_seq (e_callB (b_sortedD rfl) (by rfl) TX.n_sorted (by decide +kernel) (a_cons (e_var 1) a_nil))) (g_name (i := 5) sc_law_around.nd rfl (by first | exact Or.inl rfl | exact Or.inr rfl)) (ss_cons (s_set (i := 6) sc_law_around.nd rfl (by first | exact Or.inl rfl | exact Or.inr rfl) (e_cmp (o_eqL hr.units) (e_lc (own := [("name", 8)]) rfl sc_law_around.nd (i_seq (e_aget (un1 hr) (e_var 1) (e_var 3) (fun _ _ => rfl))) (blkOk_by (N := N_law_around) (sc := defScope s_law_around) (own := [("name", 8)]) (by decide +kernel)) (fun _ _ _ _ _ => g_name (i := 8) sc_law_around.nd rfl (by first | exact Or.inl rfl | exact Or.inr rfl)) (fun _ _ _ _ _ => ts_one (t_cmp (o_notin2 (un65 hr)) (e_var 8) (e_aget (un1 hr) (e_var 1) (e_var 5) (fun _ _ => rfl)) rfl)) (fun _ _ _ _ _ => e_var 8)) (e_lst (a_nil)) (nomark _)))
    (ss_cons (s_set (i := 7) sc_law_around.nd rfl (by first | exact Or.inl rfl | exact Or.inr rfl) (e_op o_sub (e_callB b_len (by rfl) TX.n_len (by decide +kernel) (a_cons (e_aget (un1 hr) (e_var 1) (e_var 5) (fun _ _ => rfl)) a_nil)) (e_callB b_len (by rfl) TX.n_len (by decide +kernel) (a_cons (e_aget (un1 hr) (e_var 1) (e_var 3) (fun _ _ => rfl)) a_nil))))
    (ss_one (s_if (PW.pt (w_and (t_tr (e_var 6)) (pw_and1 (PW.pt (w_or (t_cmp o_gt (e_var 7) (e_int) (nomark _)) (pw_or1 (PW.pt (w_and (t_cmp (o_eq hr.units) (e_var 7) (e_int) (nomark _)) (pw_and1 (t_cmp (o_lt2 (un66 hr)) (e_var 5) (e_var 3) (nomark _))))))))))) (ss_one (s_if (PW.pt (w_or (t_cmp o_is (e_var 4) (e_non) (nomark _)) (pw_or1 (t_cmp o_le (e_callB b_len (by rfl) TX.n_len (by decide +kernel) (a_cons (e_aget (un1 hr) (e_var 1) (e_var 5) (fun _ _ => rfl)) a_nil)) (e_callB b_len (by rfl) TX.n_len (by decide +kernel) (a_cons (e_aget (un1 hr) (e_var 1) (e_var 4) (fun _ _ => rfl)) a_nil)) (nomark _))))) (ss_one (s_set (i := 4) sc_law_around.nd rfl (by first | exact Or.inl rfl | exact Or.inr rfl) (e_var 5))) (ss_nil))) (ss_nil))))))
    (ss_one (s_expr (e_bm PySem.F.plainAttrs_list PySem.F.slot_list_append PySem.F.type_list_append m_append (e_var 2) (a_cons (e_tup (a_cons (e_var 3) (a_cons (e_var 4) a_nil))) a_nil)))))))
    (ss_one (s_ret (e_var 2))))))
    (fun ts G Q E h => ?run)
  case len => obtain ⟨a, rfl, _⟩ := h; rfl
  case run =>
    obtain ⟨l, rfl, ho, hm, hfew, hQ⟩ := h
    refine ⟨l, rfl, ho, fun ks A d G0 hk _ s0 hd hA => ?_⟩
    have hkl := hfew ks hk
    have hkn := hk.names ho
    intro p hp
    have sp := (Sub.refl G0).new (o := .lst []) hp
    refine ⟨_, ks, sp _ _ hd, kv_keys, hkl, fun ys py sy q hq => ?_⟩
    have my : Mks l ys := ⟨py.nodup_iff.mpr hk.nd, fun x => py.mem_iff.trans (hk.mem x)⟩
    have hyl := hfew ys my
    have s1 := sp.new (o := .lst (ys.map T.str)) hq
    have e1 : gput (gput G0 p (.lst [])) q (.lst (ys.map T.str)) p = some (.lst []) := (Sub.refl _).new hq _ _ gput_same
    have e2 : gput (gput G0 p (.lst [])) q (.lst (ys.map T.str)) q = some (.lst (ys.map T.str)) := gput_same
    have pq : p ≠ q := gne gput_same hq
    have pd : p ≠ d := (gne hd hp).symm
    have pA : ∀ m ∈ ks, A m ≠ p := fun m hm => gne (hA m hm) hp
    have hpG : G p = none := by
      cases h : G p with
      | none => rfl
      | some o => rw [s0 _ _ h] at hp; cases hp
    replace hd := s1 _ _ hd
    replace hA := fun m hm => s1 _ _ (hA m hm)
    generalize gput (gput G0 p (.lst [])) q (.lst (ys.map T.str)) = G1 at s1 e1 e2 hd hA ⊢
    have sG := s0.trans s1
    have hli := ho.len
    have pw := srt_pw (fun x hx => hkn x (py.mem_iff.mp hx)) (sorted_srt sy) my.nd
    have nn : ∀ m, ∀ x ∈ namesOf l m, nameOk x = true := fun m x hx => by
      obtain ⟨p, hp, rfl, _⟩ := mem_namesOf.mp hx
      exact hm.nm p hp
    have ln : ∀ m : Str, ((((namesOf l m).map T.str).length : Nat) : Int) = ((namesOf l m).length : Int) := fun m => by rw [List.length_map]
    refine ⟨_, e2, fun i ρ G' => ∃ os, ρ = [some (fndT l), some (.ref d), some (.ref p), none, none, none, none, none, none] ∧ Sub G G' ∧ G' d = some (.dK (kvOf ks fun m => .ref (A m))) ∧ (∀ m ∈ ks, G' (A m) = some (.lst ((namesOf l m).map T.str))) ∧ G' q = some (.lst (ys.map T.str)) ∧ G' p = some (.lst (aroundT (ys.take i) os)) ∧ os.length = i ∧ ∀ (j : Nat) (m : Str) (o : Option Str), j < i → ys[j]? = some m → os[j]? = some o → IsOut l ys m o,
      ⟨[], rfl, sG, hd, hA, e2, e1, rfl, fun j m o h => absurd h (Nat.not_lt_zero _)⟩, fun _ _ _ _ ⟨os, hI⟩ => hI.2.2.2.2.1, ?_, ?_⟩
    · rintro i t ρ G' ht ⟨os, rfl, s, hd', hA', hq', hp', hos, hout⟩
      obtain ⟨m, hmi, rfl⟩ := map_at ht
      have hil := (List.getElem?_eq_some_iff.mp hmi).1
      have mk : m ∈ ks := py.mem_iff.mp (List.mem_of_getElem? hmi)
      refine ⟨_, ks, hd', kv_keys, hkl, fun zs pz sz r hr => ?_⟩
      have ez : zs = ys := SrtS.uniq hkn pz py (sorted_srt sz) (sorted_srt sy)
      subst ez
      have sr := (Sub.refl G').new (o := .lst (zs.map T.str)) hr
      refine ⟨_, gput_same, fun j ρ G2 => ∃ best, ρ = [some (fndT l), some (.ref d), some (.ref p), some (.str m), some (optS best), none, none, none, none] ∧ Sub G' G2 ∧ G2 r = some (.lst (zs.map T.str)) ∧ IsOut l (zs.take j) m best,
        ⟨none, rfl, sr, gput_same, fun x hx => (by rw [List.take_zero] at hx; cases hx)⟩, fun _ _ _ _ ⟨_, hI⟩ => hI.2.2.1, ?_, ?_⟩
      · rintro j t ρ G2 ht ⟨best, rfl, s2, hr2, hbest⟩
        obtain ⟨o, hoj, rfl⟩ := map_at ht
        have hjl := (List.getElem?_eq_some_iff.mp hoj).1
        have ok : o ∈ ks := py.mem_iff.mp (List.mem_of_getElem? hoj)
        have l1 := names_len (l := l) (m := m)
        have l2 := names_len (l := l) (m := o)
        have hs : ∀ x ∈ zs.take j, x.cps.toList < o.cps.toList := fun x hx => by
          obtain ⟨a, ha⟩ := List.mem_iff_getElem?.mp hx
          rw [List.getElem?_take] at ha
          split at ha
          · rename_i lt
            obtain ⟨ha1, rfl⟩ := List.getElem?_eq_some_iff.mp ha
            obtain ⟨hb1, rfl⟩ := List.getElem?_eq_some_iff.mp hoj
            exact (List.pairwise_iff_getElem.mp pw) a j ha1 hb1 lt
          · cases ha
        have bk : ∀ b, best = some b → b ∈ ks := fun b e => by
          subst e
          exact py.mem_iff.mp (List.mem_of_mem_take hbest.1)
        have hd2 := s2 _ _ hd'
        have hA2 := fun m hm => s2 _ _ (hA' m hm)
        refine ⟨_, _, _, rfl, .inl hd2, kv_at mk, _, hA2 m mk, fun D hD => ⟨by rw [List.length_map]; omega, fun k acc G3 => acc = ((namesOf l m).take k |>.filter fun x => !decide (x ∈ namesOf l o)).map T.str ∧ Sub G2 G3 ∧ G3 D = some (.lst acc) ∧ acc.length ≤ k, ⟨by simp, (Sub.refl _).new hD, gput_same, by simp⟩, ?_, ?_, ?_⟩⟩
        · rintro k acc G3 hkk ⟨rfl, s3, e, z⟩
          exact ⟨s3 _ _ (hA2 m mk), e, z⟩
        · rintro k t acc G3 ht ⟨rfl, s3, e, z⟩
          obtain ⟨x, hx, rfl⟩ := map_at ht
          refine ⟨_, _, _, rfl, .inl (s3 _ _ hd2), kv_at ok, ?_⟩
          refine ⟨_, s3 _ _ (hA2 o ok), eqOks_names (nn o), eqOk_name (nn m x (List.mem_of_getElem? hx)), ?_⟩
          rw [any_strs, Bool.true_bne]
          refine ⟨fun c => ?_, fun c => ?_⟩
          · refine ⟨e, _, Sub.refl _, ?_, s3.mut hD, gput_same, by rw [List.length_append]; exact Nat.succ_le_succ z⟩
            rw [take_one hx, List.filter_append, List.map_append, filt1 (p := fun x => !decide (x ∈ namesOf l o)) c]; rfl
          · refine ⟨_, Sub.refl _, ?_, s3, e, by omega⟩
            rw [take_one hx, List.filter_append, filt0 (p := fun x => !decide (x ∈ namesOf l o)) c, List.append_nil]
        · rintro acc G3 ⟨rfl, s3, e, z⟩
          rw [List.length_map, List.take_length] at e
          have hin := holds_in hm m o
          generalize hF : ((namesOf l m).filter fun x => !decide (x ∈ namesOf l o)) = F at e hin
          have Fn : ∀ x ∈ F, nameOk x = true := fun x hx => nn m x (by rw [← hF] at hx; exact (List.mem_filter.mp hx).1)
          intro p4 hp4
          have s4 := s3.new (o := .lst []) hp4
          have e4 := ((Sub.refl G3).new (o := .lst []) hp4) _ _ e
          have ne : (false != teqs (F.map T.str) []) = inB (posOf l m) (posOf l o) := by rw [← hin]; cases F <;> rfl
          refine ⟨_, _, e4, gput_same, fun _ => ⟨eqOks_names Fn, rfl⟩, ?_⟩
          rw [ne]
          clear e e4 z hF Fn ne hin
          have hd4 := s4 _ _ hd2
          have hA4 := fun m hm => s4 _ _ (hA2 m hm)
          have s24 := s2.trans s4
          have hr4 := s4 _ _ hr2
          generalize gput G3 p4 (.lst []) = G4 at s4 hd4 hA4 s24 hr4 ⊢
          refine ⟨_, _, _, rfl, .inl hd4, kv_at ok, _, hA4 o ok, _, _, _, rfl, .inl hd4, kv_at mk, _, hA4 m mk, ?_⟩
          have fin : ∀ best2, IsOut l (zs.take j ++ [o]) m best2 → ∀ G5, Sub G4 G5 → ∀ ρ, ELe [some (fndT l), some (.ref d), some (.ref p), some (.str m), some (optS best2), none, none, none, none] ρ → Wk (fun ρ G2 => ∃ best, ρ = [some (fndT l), some (.ref d), some (.ref p), some (.str m), some (optS best), none, none, none, none] ∧ Sub G' G2 ∧ G2 r = some (.lst (zs.map T.str)) ∧ IsOut l (zs.take (j + 1)) m best) ρ G5 := fun b2 h G5 s5 ρ hρ => ⟨_, _, hρ, s5, b2, rfl, s24, hr4, by rw [take_one hoj]; exact h⟩
          have drop4 : ∀ b : Option Str, ELe [some (fndT l), some (.ref d), some (.ref p), some (.str m), some (optS b), none, none, none, none] [some (fndT l), some (.ref d), some (.ref p), some (.str m), some (optS b), some (.str o), some (.bl (inB (posOf l m) (posOf l o))), some (.int (((((namesOf l o).map T.str).length : Nat) : Int) - ((((namesOf l m).map T.str).length : Nat) : Int))), none] := fun b => .keep _ (.keep _ (.keep _ (.keep _ (.keep _ (.drop _ (.drop _ (.drop _ (.drop _ .nil))))))))
          have skip : ¬ OutOf l m o → Wk (fun ρ G2 => ∃ best, ρ = [some (fndT l), some (.ref d), some (.ref p), some (.str m), some (optS best), none, none, none, none] ∧ Sub G' G2 ∧ G2 r = some (.lst (zs.map T.str)) ∧ IsOut l (zs.take (j + 1)) m best) [some (fndT l), some (.ref d), some (.ref p), some (.str m), some (optS best), some (.str o), some (.bl (inB (posOf l m) (posOf l o))), some (.int (((((namesOf l o).map T.str).length : Nat) : Int) - ((((namesOf l m).map T.str).length : Nat) : Int))), none] G4 := fun h => fin best (out_skip hbest h) G4 (Sub.refl _) _ (drop4 _)
          rw [OutOf_iff] at skip
          have e0 := ln o
          have e1 := ln m
          refine ⟨fun c1 => ⟨fun c2 => ?_, fun c2 => ⟨fun c3 => ⟨fun c4 => ?_, fun c4 => ?_⟩, fun c3 => ?_⟩⟩, fun c1 => ?_⟩
          · have hO : OutOf l m o := OutOf_iff.mpr ⟨c1, .inl (by have := of_decide_eq_true c2; omega)⟩
            refine ⟨fun _ => ?_, fun c => (by cases c)⟩
            cases best with
            | none => exact ⟨fun _ => ⟨fun _ => fin (some o) (out_take hbest hs hO fun b e => by cases e) G4 (Sub.refl _) _ (drop4 (some o)), fun c => (by cases c)⟩, fun c => (by cases c)⟩
            | some b =>
              have kb := bk b rfl
              have e3 := ln b
              refine ⟨fun c => (by cases c), fun _ => ?_⟩
              refine ⟨_, _, _, rfl, .inl hd4, kv_at ok, _, hA4 o ok, _, _, _, rfl, .inl hd4, kv_at kb, _, hA4 b kb, ?_⟩
              refine ⟨fun c => fin (some o) (out_take hbest hs hO fun b' e => by cases e; have := of_decide_eq_true c; omega) G4 (Sub.refl _) _ (drop4 (some o)), fun c => fin (some b) (out_keep hbest (by have := of_decide_eq_false c; omega)) G4 (Sub.refl _) _ (drop4 (some b))⟩
          · have hO : OutOf l m o := OutOf_iff.mpr ⟨c1, .inr ⟨by have := of_decide_eq_true ((Bool.false_bne _).symm.trans c3); omega, of_decide_eq_true c4⟩⟩
            cases best with
            | none => exact ⟨fun _ => ⟨fun _ => fin (some o) (out_take hbest hs hO fun b e => by cases e) G4 (Sub.refl _) _ (drop4 (some o)), fun c => (by cases c)⟩, fun c => (by cases c)⟩
            | some b =>
              have kb := bk b rfl
              have e3 := ln b
              refine ⟨fun c => (by cases c), fun _ => ?_⟩
              refine ⟨_, _, _, rfl, .inl hd4, kv_at ok, _, hA4 o ok, _, _, _, rfl, .inl hd4, kv_at kb, _, hA4 b kb, ?_⟩
              refine ⟨fun c => fin (some o) (out_take hbest hs hO fun b' e => by cases e; have := of_decide_eq_true c; omega) G4 (Sub.refl _) _ (drop4 (some o)), fun c => fin (some b) (out_keep hbest (by have := of_decide_eq_false c; omega)) G4 (Sub.refl _) _ (drop4 (some b))⟩
          · refine skip fun w => ?_
            · rcases w.2 with w | w
              · have := of_decide_eq_false c2; omega
              · exact of_decide_eq_false c4 w.2
          · refine ⟨fun c => (by cases c), fun _ => skip fun w => ?_⟩
            · rcases w.2 with w | w
              · have := of_decide_eq_false c2; omega
              · have := of_decide_eq_false ((Bool.false_bne _).symm.trans c3); omega
          · refine ⟨fun c => (by cases c), fun _ => skip fun w => ?_⟩
            · have c1 : inB (posOf l m) (posOf l o) = false := c1
              rw [c1] at w; cases w.1
      · rintro ρ G2 ⟨best, rfl, s2, hr2, hbest⟩
        rw [List.length_map, List.take_length] at hbest
        have l1 : (aroundT (zs.take i) os).length = i := by unfold aroundT; rw [List.length_zipWith, List.length_take, hos]; omega
        refine ⟨⟨_, s2 _ _ hp'⟩, _, s2 _ _ hp', by rw [l1]; omega, ?_⟩
        refine ⟨_, _, .keep _ (.keep _ (.keep _ (.drop _ (.drop _ (.drop _ (.drop _ (.drop _ (.drop _ .nil)))))))), Sub.refl _, os ++ [best], rfl, (s.trans s2).mut hpG, (gput_ne pd.symm).trans (s2 _ _ hd'), fun m hm => (gput_ne (pA m hm)).trans (s2 _ _ (hA' m hm)), (gput_ne pq.symm).trans (s2 _ _ hq'), ?_, by simp [hos], fun j m' o' hj hm' ho' => ?_⟩
        · rw [gput_same, take_one hmi]
          unfold aroundT
          rw [List.zipWith_append (by rw [List.length_take, hos]; omega)]; rfl
        · by_cases c : j < i
          · rw [List.getElem?_append_left (by omega)] at ho'
            exact hout j m' o' c hm' ho'
          · have : j = i := by omega
            subst this
            rw [hmi] at hm'; cases hm'
            rw [← hos] at ho'
            simp at ho'
            subst ho'
            exact hbest
    · rintro ρ G' ⟨os, rfl, s, hd', hA', hq', hp', hos, hout⟩
      rw [List.length_map, List.take_length] at hp'
      rw [List.length_map] at hos
      refine Ret.of (hQ ys G' p os my (sorted_srt sy) hos (fun i m o h1 h2 => hout i m o ?_ h1 h2) s hp')
      rw [List.length_map]
      exact (List.getElem?_eq_some_iff.mp h1).1
abbrev s_law : Stmt := topS 26
abbrev N_law : List Str := ["script", "k", "bag", "found", "pair", "thing", "nine", "seven", "one", "turn", "told", "letter"]
theorem sc_law : FnScope N_law ["script"] (defScope s_law) := ⟨rfl, rfl, rfl, by decide +kernel, rfl, by decide +kernel, by decide +kernel⟩
theorem min2_le {a b : Int} (h : 0 ≤ a) (hb : 0 ≤ b) : 0 ≤ (if b < a then b else a) ∧ (if b < a then b else a) ≤ a ∧ (if b < a then b else a) ≤ b := by split <;> omega
theorem dat_tup {av : List Addr} {G : Gp} {k n : Nat} {ts : List T} (h : ts.length ≤ 400) (h2 : ∀ t ∈ ts, Dat av G k n t) : Dat av G k (n + 1) (.tup ts) := ⟨by omega, h2⟩
theorem ok_law_fn {P : Program} {w : World} {K : PySem.W.Frag} {mg : Str → Option Value} {base : Heap} {f : Addr} {fd : FuncData} (F : Fun K "law" "law" s_law f fd) (TX : Txt K mg) (D_law_bag : DefOk P w K mg base 1 "_law_bag" ["script", "k"] sp_law_bag) (D_law_found : DefOk P w K mg base 2 "_law_found" ["bag", "nested"] sp_law_found) (D_law_crossing : DefOk P w K mg base 2 "_law_crossing" ["found"] sp_law_crossing) (D_around : DefOk P w K mg base 2 "around" ["found"] sp_around) (D_law_around : DefOk P w K mg base 2 "_law_around" ["found"] sp_law_around) (D_crossing : DefOk P w K mg base 3 "crossing" ["found"] sp_crossing) (D_law_odd : DefOk P w K mg base 2 "_law_odd" ["bag"] sp_law_odd) (D_are_found : DefOk P w K mg base 2 "are_found" ["thing"] sp_are_found) (D_law_are_found : DefOk P w K mg base 2 "_law_are_found" ["thing"] sp_law_are_found) (D_law_spoilt : DefOk P w K mg base 27 "_law_spoilt" ["bag", "thing"] (sp_law_spoilt 24)) :
    FnOk P w K mg base CX0 28 f fd ["script"] (cSp K spLaw) := by
  refine okq F sc_law (fun ts G Q E h => ?len) (fun cdv A outer s H E hr => ss_cons (s_for (own := [1]) PassesOwn.never rfl (i_rng1 (by rfl) TX.n_range (a_cons (e_op o_add (e_int) (e_callB (b_min2 rfl) (by rfl) TX.n_min (by decide +kernel) (a_cons (e_callB b_len (by rfl) TX.n_len (by decide +kernel) (a_cons (e_var 0) a_nil)) (a_cons (e_int) a_nil)))) a_nil)) (g_name (i := 1) sc_law.nd rfl (by first | exact Or.inl rfl | exact Or.inr rfl)) (ss_cons (s_set (i := 2) sc_law.nd rfl (by first | exact Or.inl rfl | exact Or.inr rfl) (e_callD D_law_bag (hr.mono (by decide)) (by rfl) (a_cons (e_var 0) (a_cons (e_var 1) a_nil))))
    (ss_one (s_for (own := [3]) PassesOwn.never rfl (i_seq (e_lst (a_cons (e_callD D_law_found (hr.mono (by decide)) (by rfl) (a_cons (e_var 2) (a_cons (e_bl) a_nil))) (a_cons (e_callD D_law_found (hr.mono (by decide)) (by rfl) (a_cons (e_var 2) (a_cons (e_bl) a_nil))) (a_cons (e_callD D_law_found (hr.mono (by decide)) (by rfl) (a_cons (e_var 2) (a_cons (e_bl) a_nil))) a_nil))))) (g_name (i := 3) sc_law.nd rfl (by first | exact Or.inl rfl | exact Or.inr rfl)) (ss_cons (s_set (i := 4) sc_law.nd rfl (by first | exact Or.inl rfl | exact Or.inr rfl) (e_callD D_law_crossing (hr.mono (by decide)) (by rfl) (a_cons (e_var 3) a_nil)))
    (ss_cut (s_if (PW.pt (w_or (t_cmp (o_ne hr.units) (e_callD D_crossing (hr.mono (by decide)) (by rfl) (a_cons (e_var 3) a_nil)) (e_var 4) (nomark _)) (pw_or1 (PW.pt (w_and (t_cmp o_is (e_var 4) (e_non) (nomark _)) (pw_and1 (t_cmp (o_neL hr.units) (e_callD D_around (hr.mono (by decide)) (by rfl) (a_cons (e_var 3) a_nil)) (e_callD D_law_around (hr.mono (by decide)) (by rfl) (a_cons (e_var 3) a_nil)) (nomark _)))))))) (ss_one (s_ret (e_bl))) (ss_nil))
    (ss_cons (s_set (i := 5) sc_law.nd rfl (by first | exact Or.inl rfl | exact Or.inr rfl) (e_var 3))
    (ss_cons (s_set (i := 6) sc_law.nd rfl (by first | exact Or.inl rfl | exact Or.inr rfl) (e_callTy b_tuple (by rfl) TX.n_tuple (by decide +kernel) (a_cons (e_lc (own := [("letter", 11)]) rfl sc_law.nd (i_str (e_str)) (blkOk_by (N := N_law) (sc := defScope s_law) (own := [("letter", 11)]) (by decide +kernel)) (fun _ _ _ _ _ => g_name (i := 11) sc_law.nd rfl (by first | exact Or.inl rfl | exact Or.inr rfl)) (fun _ _ _ _ _ => ts_nil) (fun _ _ _ _ _ => e_tup (a_cons (e_var 11) (a_cons (e_tup (a_nil)) a_nil)))) a_nil)))
    (ss_cons (s_set (i := 7) sc_law.nd rfl (by first | exact Or.inl rfl | exact Or.inr rfl) (e_tup (a_cons (e_tup (a_cons (e_str) (a_cons (e_tup (a_cons (e_str) (a_cons (e_str) (a_cons (e_str) (a_cons (e_str) (a_cons (e_str) (a_cons (e_str) (a_cons (e_str) a_nil)))))))) a_nil))) a_nil)))
    (ss_cons (s_for (own := [8]) PassesOwn.never rfl (i_seq (e_lst (a_cons (e_var 6) (a_cons (e_slice sl_seq (e_var 6) (o_none) (o_some (e_int))) (a_cons (e_var 7) (a_cons (e_tup (a_cons (e_tup (a_cons (e_str) (a_cons (e_slice sl_seq (e_ix i_ixC (e_ix i_ixC (e_var 7) (e_int) (fun _ _ => rfl)) (e_int) (fun _ _ => rfl)) (o_none) (o_some (e_int))) a_nil))) a_nil)) (a_cons (e_revT (e_var 3)) (a_cons (e_callD D_law_odd (hr.mono (by decide)) (by rfl) (a_cons (e_var 2) a_nil)) (a_cons (e_callTy b_list (by rfl) TX.n_list (by decide +kernel) (a_cons (e_var 3) a_nil)) a_nil))))))))) (g_name (i := 8) sc_law.nd rfl (by first | exact Or.inl rfl | exact Or.inr rfl)) (ss_one (s_if (t_cmp (o_ne hr.units) (e_callD D_are_found (hr.mono (by decide)) (by rfl) (a_cons (e_var 8) a_nil)) (e_callD D_law_are_found (hr.mono (by decide)) (by rfl) (a_cons (e_var 8) a_nil)) (nomark _)) (ss_one (s_ret (e_bl))) (ss_nil))))
    (ss_one (s_for (own := [9]) PassesOwn.never rfl (i_rng1 (by rfl) TX.n_range (a_cons (e_int) a_nil)) (g_name (i := 9) sc_law.nd rfl (by first | exact Or.inl rfl | exact Or.inr rfl)) (ss_cons (s_set (i := 10) sc_law.nd rfl (by first | exact Or.inl rfl | exact Or.inr rfl) (e_callD D_are_found (hr.mono (by decide)) (by rfl) (a_cons (e_var 5) a_nil)))
    (ss_cons (s_if (PW.pt (w_or (t_not (t_tr (e_callB b_isi (by rfl) TX.n_isinstance (by decide +kernel) (a_cons (e_var 10) (a_cons (e_ty .bool (by rfl) TX.n_bool (by decide +kernel)) a_nil))))) (pw_or1 (t_cmp (o_ne hr.units) (e_var 10) (e_callD D_law_are_found (hr.mono (by decide)) (by rfl) (a_cons (e_var 5) a_nil)) (nomark _))))) (ss_one (s_ret (e_bl))) (ss_nil))
    (ss_one (s_set (i := 5) sc_law.nd rfl (by first | exact Or.inl rfl | exact Or.inr rfl) (e_callD D_law_spoilt hr (by rfl) (a_cons (e_var 2) (a_cons (e_var 5) a_nil)))))))))))))))))))
    (ss_one (s_ret (e_bl))))
    (fun ts G Q E h => ?run)
  case len => obtain ⟨ns, rfl, _⟩ := h; rfl
  case run =>
    obtain ⟨ns, rfl, hn, hG, hQ⟩ := h
    obtain ⟨m0, m1, m2⟩ := min2_le (a := (ns.length : Int)) (b := 15) (by omega) (by decide)
    refine ⟨by omega, ?_⟩
    refine ⟨fun i ρ G' => ρ = [some (.scr ns), none, none, none, none, none, none, none, none, none, none, none] ∧ True, ⟨rfl, trivial⟩, fun _ _ _ _ _ => trivial, ?_, ?_⟩
    · rintro i t ρ G' ht ⟨rfl, _⟩
      obtain ⟨hi, rfl⟩ := rngT_at ht
      refine ⟨⟨by omega, by omega, hn⟩, fun b c1 c2 hb hc => ?_⟩
      have t0 : BT b (gput G' b (bagO c1 c2)) (gput G' b (bagO c1 c2)) := BT.start ⟨c1, c2, gput_same, hc⟩
      have b0 : ∀ p, gput G' b (bagO c1 c2) p = none → p ≠ b := fun p hp => (bag_new t0.bag hp).symm
      generalize gput G' b (bagO c1 c2) = G0 at t0 b0 ⊢
      refine ⟨b, _, rfl, .inl rfl, t0.bag, fun l1 G1 a1 a2 a3 a4 t1 => ?_⟩
      refine ⟨b, _, rfl, .inr rfl, t1.bag, fun l2 G2 d1 d2 d3 d4 t2 => ?_⟩
      refine ⟨b, _, rfl, .inl rfl, t2.bag, fun l3 G3 e1 e2 e3 e4 t3 => ?_⟩
      intro p hp
      have pb := (bag_new t3.bag hp).symm
      have u0 := ((t1.trans t2).trans t3).new (o := .lst [fndT l1, fndT l2, fndT l3]) hp
      have ep : gput G3 p (.lst [fndT l1, fndT l2, fndT l3]) p = some (.lst [fndT l1, fndT l2, fndT l3]) := gput_same
      generalize gput G3 p (.lst [fndT l1, fndT l2, fndT l3]) = G4 at *
      have all : ∀ t ∈ ([fndT l1, fndT l2, fndT l3] : List T), ∃ l, t = fndT l ∧ FAll l := fun t ht => by
        simp only [List.mem_cons, List.not_mem_nil, or_false] at ht
        rcases ht with rfl | rfl | rfl
        · exact ⟨l1, rfl, a1, a2, a3, a4⟩
        · exact ⟨l2, rfl, d1, d2, d3, d4⟩
        · exact ⟨l3, rfl, e1, e2, e3, e4⟩
      clear a1 a2 a3 a4 d1 d2 d3 d4 e1 e2 e3 e4 t1 t2 t3 hp
      generalize ([fndT l1, fndT l2, fndT l3] : List T) = FL at *
      refine ⟨_, ep, fun j ρ G' => ρ = [some (.scr ns), some (.int i), some (.ref b), none, none, none, none, none, none, none, none, none] ∧ BT b G4 G', ⟨rfl, BT.start u0.bag⟩, fun _ _ _ _ hI => hI.2.get pb ep, ?_, ?_⟩
      · rintro j t ρ G' ht ⟨rfl, t1⟩
        obtain ⟨l, rfl, hl⟩ := all t (List.mem_of_getElem? ht)
        have few : ∀ ks, Mks l ks → ks.length < 64 := fun ks hk => mks_few hl.mks hk
        refine ⟨l, rfl, hl.ok, hl.nm, few, fun ys Ga my sy sa => ?_⟩
        have yn := my.names hl.ok
        have po := pair_ok (l := l) yn
        refine ⟨fun ρ Gc => ρ = [some (.scr ns), some (.int i), some (.ref b), some (fndT l), some (pairT (crossL l ys)), none, none, none, none, none, none, none] ∧ Sub G' Gc, ?_, ?_⟩
        · refine ⟨l, rfl, hl.ok, few, fun zs Gb mz sz sb => ?_⟩
          have ez := mks_same hl.ok mz my sz sy
          subst ez
          have s1 := sa.trans sb
          cases ec : crossL l zs with
          | none =>
            refine ⟨rfl, rfl, fun c => dead (by simp [teq, pairT]) c, fun _ => ⟨fun _ => ?_, fun c => (by cases c)⟩⟩
            refine ⟨l, rfl, hl.ok, few, fun zs2 Gd p1 os mz2 sz2 lo ho sd e1 => ?_⟩
            refine ⟨l, rfl, hl.ok, hl.nm, few, fun zs3 Ge p2 ps mz3 sz3 lp hp se e2 => ?_⟩
            have ez2 := mks_same hl.ok my mz2 sy sz2
            have ez3 := mks_same hl.ok my mz3 sy sz3
            subst ez2
            subst ez3
            have eo := outs_same hl.ok my lo lp ho hp
            subst eo
            have ao := around_ok yn ho
            refine ⟨_, _, se _ _ e1, e2, fun _ => ⟨ao, ao⟩, ?_⟩
            rw [teqs_refl _ (eqOks_ok ao)]
            exact ⟨fun c => (by cases c), fun _ => ⟨_, _, ELe.refl _, Sub.refl _, rfl, (s1.trans sd).trans se⟩⟩
          | some q =>
            rw [ec] at po
            have tq := teq_refl _ po.1
            have eo : eqOk (pairT (some q)) = true := by unfold eqOk; rw [po.1, decide_eq_true po.2]; rfl
            refine ⟨eo, eo, fun c => dead (by rw [tq]; rfl) c, fun _ => ⟨fun c => (by cases c), fun _ => ⟨fun c => (by cases c), fun _ => ?_⟩⟩⟩
            exact ⟨_, _, ELe.refl _, Sub.refl _, rfl, s1⟩
        · rintro ρ Gc ⟨rfl, sc⟩
          have bc : Bag Gc b := by
            obtain ⟨d1, d2, z, o⟩ := t1.bag
            exact ⟨d1, d2, sc _ _ z, o⟩
          have tc : BT b G4 Gc := by
            obtain ⟨d1, d2, o, z⟩ := t1
            exact ⟨d1, d2, o, z.trans sc⟩
          refine fun D hD => ⟨by decide, fun k acc Ge => (∀ t ∈ acc, ∀ av G, Dat av G 0 2 t) ∧ Sub Gc Ge ∧ Ge D = some (.lst acc) ∧ acc.length ≤ k, ⟨fun t h => (by cases h), (Sub.refl _).new hD, gput_same, by simp⟩, ?_, ?_, ?_⟩
          · rintro k acc Ge hk ⟨_, s, e, z⟩
            exact ⟨trivial, e, z⟩
          · rintro k t acc Ge ht ⟨ha, s, e, z⟩
            refine ⟨fun _ => ?_, fun c => (by cases c)⟩
            refine ⟨e, _, Sub.refl _, fun u hu => ?_, s.mut hD, gput_same, by rw [List.length_append]; exact Nat.succ_le_succ z⟩
            rcases List.mem_append.mp hu with w | w
            · exact ha u w
            · rw [List.mem_singleton.mp w]
              obtain ⟨c, _, rfl⟩ := List.mem_map.mp (List.mem_of_getElem? ht)
              intro av G
              refine dat_tup (by show 2 ≤ 400; decide) fun u hu => ?_
              simp only [List.mem_cons, List.not_mem_nil, or_false] at hu
              rcases hu with rfl | rfl
              · exact Dat.str.mpr (by show 1 + 100 ≤ 150 * 1; decide)
              · exact ⟨by decide, fun u h => by cases h⟩
          · rintro nine Ge ⟨ha, s, e, z⟩
            refine ⟨_, e, ?_⟩
            have nl : nine.length ≤ 9 := z
            have te : BT b G4 Ge := by
              obtain ⟨d1, d2, o, z⟩ := tc
              exact ⟨d1, d2, o, z.trans s⟩
            have kn : Known [b] Ge := fun a ha => by
              rw [List.mem_singleton.mp ha]
              obtain ⟨d1, d2, z, _⟩ := te.bag
              exact ⟨_, z⟩
            refine ⟨b, [b], rfl, List.mem_singleton.mpr rfl, kn, te.bag, fun y Gf tf df => ?_⟩
            have tf0 := te.trans tf
            intro p6 hp6
            have bp6 := (bag_new tf.bag hp6).symm
            have tg := tf0.new (o := .lst (l.map fpT)) hp6
            have tfg : BT b Gf (gput Gf p6 (.lst (l.map fpT))) := (BT.start tf.bag).new hp6
            have e6 : gput Gf p6 (.lst (l.map fpT)) p6 = some (.lst (l.map fpT)) := gput_same
            generalize gput Gf p6 (.lst (l.map fpT)) = Gg at *
            intro p7 hp7
            have bp7 := (bag_new tg.bag hp7).symm
            have e7 : ∀ o, gput Gg p7 o p6 = some (.lst (l.map fpT)) := fun o => ((Sub.refl Gg).new hp7) _ _ e6
            have th : ∀ o, BT b G4 (gput Gg p7 o) := fun o => tg.new hp7
            have thf : ∀ o, BT b Gf (gput Gg p7 o) := fun o => tfg.new hp7
            have st : ∀ {x : Str} {av : List Addr} {G : Gp} {n : Nat}, x.length ≤ 50 → Dat av G 0 n (.str x) := fun h => Dat.str.mpr (by show _ + 100 ≤ 150 * 1; omega)
            have cons : ∀ {av : List Addr} {G : Gp} {n : Nat} {t : T} {ts : List T}, ts.length < 100 → Dat av G 0 n t → Dat av G 0 (n + 1) (.tup ts) → Dat av G 0 (n + 1) (.tup (t :: ts)) := fun h1 h2 h3 => ⟨by rw [List.length_cons]; omega, fun u hu => by
              rcases List.mem_cons.mp hu with e | e
              · rw [e]; exact h2
              · exact h3.2 u e⟩
            have nil : ∀ {av : List Addr} {G : Gp} {n : Nat}, Dat av G 0 (n + 1) (.tup []) := ⟨by decide, fun t h => by cases h⟩
            have up : ∀ {G : Gp} {n : Nat} {t : T}, n ≤ 4 → Dat [b] G 0 n t → Dat [b] G 1 4 t := fun h d => d.mono (by omega) (fun _ z => z) (Off.refl _ _) h
            have dseven : ∀ (av : List Addr) (G : Gp), Dat av G 0 2 (.tup [.str "b", .str "c", .str "d", .str "e", .str "f", .str "g", .str "h"]) := fun av G => cons (by decide) (st (by decide)) (cons (by decide) (st (by decide)) (cons (by decide) (st (by decide)) (cons (by decide) (st (by decide)) (cons (by decide) (st (by decide)) (cons (by decide) (st (by decide)) (cons (by decide) (st (by decide)) nil))))))
            refine ⟨_, gput_same, fun k ρ Gi => ρ = [some (.scr ns), some (.int i), some (.ref b), some (fndT l), some (pairT (crossL l ys)), some (fndT l), some (.tup nine), some (.tup [.tup [.str "a", .tup [.str "b", .str "c", .str "d", .str "e", .str "f", .str "g", .str "h"]]]), none, none, none, none] ∧ Sub (gput Gg p7 _) Gi, ⟨rfl, Sub.refl _⟩, fun _ _ _ _ hI => hI.2 _ _ gput_same, ?_, ?_⟩
            · rintro k t ρ Gi ht ⟨rfl, si⟩
              have dt : Dat [b] Gi 1 4 t := by
                have hm := List.mem_of_getElem? ht
                simp only [List.mem_cons, List.not_mem_nil, or_false] at hm
                rcases hm with rfl | rfl | rfl | rfl | rfl | rfl | rfl
                · exact up (by decide) (dat_tup (n := 2) (by omega) fun t ht => ha t ht _ _)
                · exact up (n := 3) (by decide) ⟨Nat.le_trans cut_len (by omega), fun t ht => ha t (cut_mem ht) _ _⟩
                · exact up (n := 4) (by decide) (cons (by decide) (cons (by decide) (st (by decide)) (cons (by decide) (dseven _ _) nil)) nil)
                · exact up (n := 4) (by decide) (cons (by decide) (cons (by decide) (st (by decide)) (cons (by decide) (show Dat [b] Gi 0 2 (.tup _) from ⟨Nat.le_trans cut_len (by decide), fun t ht => (dseven [b] Gi).2 t (cut_mem ht)⟩) nil)) nil)
                · exact up (n := 3) (by decide) ⟨by rw [List.length_reverse, List.length_map]; have := hl.len; omega, fun t ht => fps_dat hl t (List.mem_reverse.mp ht)⟩
                · exact ((df.off (Off.bt (List.mem_singleton.mpr rfl) (thf _))).off (Off.sub si)).mono (Nat.le_refl _) (fun _ z => z) (Off.refl _ _) (by decide)
                · exact up (n := 4) (by decide) ⟨fun z => bp6 (List.mem_singleton.mp z), _, si _ _ (e7 _), by rw [List.length_map]; have := hl.len; omega, fun t ht => (fps_dat hl t ht).mono (Nat.le_refl _) (fun _ z => z) (Off.refl _ _) (by decide)⟩
              refine ⟨t, [b], 1, 4, rfl, by decide, dt, t, [b], 1, 4, rfl, by decide, dt, ?_⟩
              exact ⟨fun c => dead (by simp) c, fun _ => ⟨_, _, .keep _ (.keep _ (.keep _ (.keep _ (.keep _ (.keep _ (.keep _ (.keep _ (.drop _ (.drop _ (.drop _ (.drop _ .nil))))))))))), Sub.refl _, rfl, si⟩⟩
            · rintro ρ Gi ⟨rfl, si⟩
              have ti : BT b G4 Gi := by
                obtain ⟨d1, d2, o, z⟩ := th _
                exact ⟨d1, d2, o, z.trans si⟩
              refine ⟨by decide, ?_⟩
              refine ⟨fun k ρ Gk => ∃ x, ρ = [some (.scr ns), some (.int i), some (.ref b), some (fndT l), some (pairT (crossL l ys)), some x, some (.tup nine), some (.tup [.tup [.str "a", .tup [.str "b", .str "c", .str "d", .str "e", .str "f", .str "g", .str "h"]]]), none, none, none, none] ∧ BT b G4 Gk ∧ Dat [b] Gk k (4 + 3 * k) x, ⟨fndT l, rfl, ti, ⟨by rw [List.length_map]; have := hl.len; omega, fun t ht => (fps_dat hl t ht).mono (Nat.le_refl _) (fun _ z => z) (Off.refl _ _) (by decide)⟩⟩, fun _ _ _ _ _ => trivial, ?_, ?_⟩
              · rintro k t ρ Gk ht ⟨x, rfl, tk, dx⟩
                obtain ⟨hk, rfl⟩ := rngT_at ht
                have hk6 : k < 6 := hk
                refine ⟨x, [b], k, 4 + 3 * k, rfl, by omega, dx, ?_⟩
                refine ⟨fun c => (by cases c), fun _ => ?_⟩
                refine ⟨x, [b], k, 4 + 3 * k, rfl, by omega, dx, fun c => dead (by simp) c, fun _ => ?_⟩
                refine ⟨b, [b], x, 4 + 3 * k, k, rfl, by omega, by omega, List.mem_singleton.mpr rfl, fun a ha => ?_, tk.bag, dx, fun y Gl tl dl => ?_⟩
                · rw [List.mem_singleton.mp ha]
                  obtain ⟨d1, d2, z, _⟩ := tk.bag
                  exact ⟨_, z⟩
                · exact ⟨_, _, .keep _ (.keep _ (.keep _ (.keep _ (.keep _ (.keep _ (.keep _ (.keep _ (.drop _ (.drop _ (.drop _ (.drop _ .nil))))))))))), Sub.refl _, y, rfl, tk.trans tl, dl.mono (Nat.le_refl _) (fun _ z => z) (Off.refl _ _) (by omega)⟩
              · rintro ρ Gk ⟨x, rfl, tk, dx⟩
                exact ⟨_, _, .keep _ (.keep _ (.keep _ (.drop _ (.drop _ (.drop _ (.drop _ (.drop _ (.drop _ (.drop _ (.drop _ (.drop _ .nil))))))))))), Sub.refl _, rfl, tk⟩
      · rintro ρ G' ⟨rfl, t1⟩
        exact ⟨_, _, .keep _ (.drop _ (.drop _ (.drop _ (.drop _ (.drop _ (.drop _ (.drop _ (.drop _ (.drop _ (.drop _ (.drop _ .nil))))))))))), Sub.refl _, rfl, trivial⟩
    · rintro ρ G' ⟨rfl, _⟩
      exact Ret.of (hQ _)
theorem all_mk {l : PySem.W.OpenLaw} {w : World} {K : PySem.W.Frag} {h : Heap} {mg : Str → Option Value} {fa : Addr} (X : K.In h) (G : h.Ns mainGlobals mg) (hfa : mg "law" = some (.ref fa))
    {f0 : Addr} {oc0 kV0 dc0 pm0 cd0 ct0 : Value} {od0 an0 : Option Addr} {sl0 : Array (Option Value)}
    {f1 : Addr} {oc1 kV1 dc1 pm1 cd1 ct1 : Value} {od1 an1 : Option Addr} {sl1 : Array (Option Value)}
    {f2 : Addr} {oc2 kV2 dc2 pm2 cd2 ct2 : Value} {od2 an2 : Option Addr} {sl2 : Array (Option Value)}
    {f3 : Addr} {oc3 kV3 dc3 pm3 cd3 ct3 : Value} {od3 an3 : Option Addr} {sl3 : Array (Option Value)}
    {f4 : Addr} {oc4 kV4 dc4 pm4 cd4 ct4 : Value} {od4 an4 : Option Addr} {sl4 : Array (Option Value)}
    {f5 : Addr} {oc5 kV5 dc5 pm5 cd5 ct5 : Value} {od5 an5 : Option Addr} {sl5 : Array (Option Value)}
    {f6 : Addr} {oc6 kV6 dc6 pm6 cd6 ct6 : Value} {od6 an6 : Option Addr} {sl6 : Array (Option Value)}
    {f7 : Addr} {oc7 kV7 dc7 pm7 cd7 ct7 : Value} {od7 an7 : Option Addr} {sl7 : Array (Option Value)}
    {f8 : Addr} {oc8 kV8 dc8 pm8 cd8 ct8 : Value} {od8 an8 : Option Addr} {sl8 : Array (Option Value)}
    {f9 : Addr} {oc9 kV9 dc9 pm9 cd9 ct9 : Value} {od9 an9 : Option Addr} {sl9 : Array (Option Value)}
    {f10 : Addr} {oc10 kV10 dc10 pm10 cd10 ct10 : Value} {od10 an10 : Option Addr} {sl10 : Array (Option Value)}
    {f11 : Addr} {oc11 kV11 dc11 pm11 cd11 ct11 : Value} {od11 an11 : Option Addr} {sl11 : Array (Option Value)}
    {f12 : Addr} {oc12 kV12 dc12 pm12 cd12 ct12 : Value} {od12 an12 : Option Addr} {sl12 : Array (Option Value)}
    {f13 : Addr} {oc13 kV13 dc13 pm13 cd13 ct13 : Value} {od13 an13 : Option Addr} {sl13 : Array (Option Value)}
    {f14 : Addr} {oc14 kV14 dc14 pm14 cd14 ct14 : Value} {od14 an14 : Option Addr} {sl14 : Array (Option Value)}
    {f15 : Addr} {oc15 kV15 dc15 pm15 cd15 ct15 : Value} {od15 an15 : Option Addr} {sl15 : Array (Option Value)}
    {f16 : Addr} {oc16 kV16 dc16 pm16 cd16 ct16 : Value} {od16 an16 : Option Addr} {sl16 : Array (Option Value)}
    {f17 : Addr} {oc17 kV17 dc17 pm17 cd17 ct17 : Value} {od17 an17 : Option Addr} {sl17 : Array (Option Value)}
    {f18 : Addr} {oc18 kV18 dc18 pm18 cd18 ct18 : Value} {od18 an18 : Option Addr} {sl18 : Array (Option Value)}
    {f19 : Addr} {oc19 kV19 dc19 pm19 cd19 ct19 : Value} {od19 an19 : Option Addr} {sl19 : Array (Option Value)}
    {f20 : Addr} {oc20 kV20 dc20 pm20 cd20 ct20 : Value} {od20 an20 : Option Addr} {sl20 : Array (Option Value)}
    {t_LETTERS : Tok}
    {t_MOST_FOUND : Tok}
    {t_MOST_MARKS : Tok}
    (a0 : PySem.W.nsIn K mainGlobals "is_name" = some (some (.ref f0)))
    (l0 : K.lookup f0 = some ⟨oc0, od0, .func (PySem.W.fnOf "is_name" "is_name" (defArgs s_is_name) (defBody s_is_name) (defScope s_is_name) .none kV0 dc0 pm0 an0 cd0 ct0), sl0⟩)
    (c0 : PySem.W.codeIn K cd0 "is_name" = true)
    (k0 : PySem.W.keepIn K (.ref f0) = true)
    (a1 : PySem.W.nsIn K mainGlobals "are_rising" = some (some (.ref f1)))
    (l1 : K.lookup f1 = some ⟨oc1, od1, .func (PySem.W.fnOf "are_rising" "are_rising" (defArgs s_are_rising) (defBody s_are_rising) (defScope s_are_rising) .none kV1 dc1 pm1 an1 cd1 ct1), sl1⟩)
    (c1 : PySem.W.codeIn K cd1 "are_rising" = true)
    (k1 : PySem.W.keepIn K (.ref f1) = true)
    (a2 : PySem.W.nsIn K mainGlobals "are_found" = some (some (.ref f2)))
    (l2 : K.lookup f2 = some ⟨oc2, od2, .func (PySem.W.fnOf "are_found" "are_found" (defArgs s_are_found) (defBody s_are_found) (defScope s_are_found) .none kV2 dc2 pm2 an2 cd2 ct2), sl2⟩)
    (c2 : PySem.W.codeIn K cd2 "are_found" = true)
    (k2 : PySem.W.keepIn K (.ref f2) = true)
    (a3 : PySem.W.nsIn K mainGlobals "having" = some (some (.ref f3)))
    (l3 : K.lookup f3 = some ⟨oc3, od3, .func (PySem.W.fnOf "having" "having" (defArgs s_having) (defBody s_having) (defScope s_having) .none kV3 dc3 pm3 an3 cd3 ct3), sl3⟩)
    (c3 : PySem.W.codeIn K cd3 "having" = true)
    (k3 : PySem.W.keepIn K (.ref f3) = true)
    (a4 : PySem.W.nsIn K mainGlobals "is_in" = some (some (.ref f4)))
    (l4 : K.lookup f4 = some ⟨oc4, od4, .func (PySem.W.fnOf "is_in" "is_in" (defArgs s_is_in) (defBody s_is_in) (defScope s_is_in) .none kV4 dc4 pm4 an4 cd4 ct4), sl4⟩)
    (c4 : PySem.W.codeIn K cd4 "is_in" = true)
    (k4 : PySem.W.keepIn K (.ref f4) = true)
    (a5 : PySem.W.nsIn K mainGlobals "do_cross" = some (some (.ref f5)))
    (l5 : K.lookup f5 = some ⟨oc5, od5, .func (PySem.W.fnOf "do_cross" "do_cross" (defArgs s_do_cross) (defBody s_do_cross) (defScope s_do_cross) .none kV5 dc5 pm5 an5 cd5 ct5), sl5⟩)
    (c5 : PySem.W.codeIn K cd5 "do_cross" = true)
    (k5 : PySem.W.keepIn K (.ref f5) = true)
    (a6 : PySem.W.nsIn K mainGlobals "crossing" = some (some (.ref f6)))
    (l6 : K.lookup f6 = some ⟨oc6, od6, .func (PySem.W.fnOf "crossing" "crossing" (defArgs s_crossing) (defBody s_crossing) (defScope s_crossing) .none kV6 dc6 pm6 an6 cd6 ct6), sl6⟩)
    (c6 : PySem.W.codeIn K cd6 "crossing" = true)
    (k6 : PySem.W.keepIn K (.ref f6) = true)
    (a7 : PySem.W.nsIn K mainGlobals "rank" = some (some (.ref f7)))
    (l7 : K.lookup f7 = some ⟨oc7, od7, .func (PySem.W.fnOf "rank" "rank" (defArgs s_rank) (defBody s_rank) (defScope s_rank) .none kV7 dc7 pm7 an7 cd7 ct7), sl7⟩)
    (c7 : PySem.W.codeIn K cd7 "rank" = true)
    (k7 : PySem.W.keepIn K (.ref f7) = true)
    (a8 : PySem.W.nsIn K mainGlobals "around" = some (some (.ref f8)))
    (l8 : K.lookup f8 = some ⟨oc8, od8, .func (PySem.W.fnOf "around" "around" (defArgs s_around) (defBody s_around) (defScope s_around) .none kV8 dc8 pm8 an8 cd8 ct8), sl8⟩)
    (c8 : PySem.W.codeIn K cd8 "around" = true)
    (k8 : PySem.W.keepIn K (.ref f8) = true)
    (a9 : PySem.W.nsIn K mainGlobals "_law_bag" = some (some (.ref f9)))
    (l9 : K.lookup f9 = some ⟨oc9, od9, .func (PySem.W.fnOf "_law_bag" "_law_bag" (defArgs s_law_bag) (defBody s_law_bag) (defScope s_law_bag) .none kV9 dc9 pm9 an9 cd9 ct9), sl9⟩)
    (c9 : PySem.W.codeIn K cd9 "_law_bag" = true)
    (k9 : PySem.W.keepIn K (.ref f9) = true)
    (a10 : PySem.W.nsIn K mainGlobals "_law_take" = some (some (.ref f10)))
    (l10 : K.lookup f10 = some ⟨oc10, od10, .func (PySem.W.fnOf "_law_take" "_law_take" (defArgs s_law_take) (defBody s_law_take) (defScope s_law_take) .none kV10 dc10 pm10 an10 cd10 ct10), sl10⟩)
    (c10 : PySem.W.codeIn K cd10 "_law_take" = true)
    (k10 : PySem.W.keepIn K (.ref f10) = true)
    (a11 : PySem.W.nsIn K mainGlobals "_law_is_name" = some (some (.ref f11)))
    (l11 : K.lookup f11 = some ⟨oc11, od11, .func (PySem.W.fnOf "_law_is_name" "_law_is_name" (defArgs s_law_is_name) (defBody s_law_is_name) (defScope s_law_is_name) .none kV11 dc11 pm11 an11 cd11 ct11), sl11⟩)
    (c11 : PySem.W.codeIn K cd11 "_law_is_name" = true)
    (k11 : PySem.W.keepIn K (.ref f11) = true)
    (a12 : PySem.W.nsIn K mainGlobals "_law_odd" = some (some (.ref f12)))
    (l12 : K.lookup f12 = some ⟨oc12, od12, .func (PySem.W.fnOf "_law_odd" "_law_odd" (defArgs s_law_odd) (defBody s_law_odd) (defScope s_law_odd) .none kV12 dc12 pm12 an12 cd12 ct12), sl12⟩)
    (c12 : PySem.W.codeIn K cd12 "_law_odd" = true)
    (k12 : PySem.W.keepIn K (.ref f12) = true)
    (a13 : PySem.W.nsIn K mainGlobals "_law_spoilt" = some (some (.ref f13)))
    (l13 : K.lookup f13 = some ⟨oc13, od13, .func (PySem.W.fnOf "_law_spoilt" "_law_spoilt" (defArgs s_law_spoilt) (defBody s_law_spoilt) (defScope s_law_spoilt) .none kV13 dc13 pm13 an13 cd13 ct13), sl13⟩)
    (c13 : PySem.W.codeIn K cd13 "_law_spoilt" = true)
    (k13 : PySem.W.keepIn K (.ref f13) = true)
    (a14 : PySem.W.nsIn K mainGlobals "_law_found" = some (some (.ref f14)))
    (l14 : K.lookup f14 = some ⟨oc14, od14, .func (PySem.W.fnOf "_law_found" "_law_found" (defArgs s_law_found) (defBody s_law_found) (defScope s_law_found) .none kV14 dc14 pm14 an14 cd14 ct14), sl14⟩)
    (c14 : PySem.W.codeIn K cd14 "_law_found" = true)
    (k14 : PySem.W.keepIn K (.ref f14) = true)
    (a15 : PySem.W.nsIn K mainGlobals "_law_having" = some (some (.ref f15)))
    (l15 : K.lookup f15 = some ⟨oc15, od15, .func (PySem.W.fnOf "_law_having" "_law_having" (defArgs s_law_having) (defBody s_law_having) (defScope s_law_having) .none kV15 dc15 pm15 an15 cd15 ct15), sl15⟩)
    (c15 : PySem.W.codeIn K cd15 "_law_having" = true)
    (k15 : PySem.W.keepIn K (.ref f15) = true)
    (a16 : PySem.W.nsIn K mainGlobals "_law_cross" = some (some (.ref f16)))
    (l16 : K.lookup f16 = some ⟨oc16, od16, .func (PySem.W.fnOf "_law_cross" "_law_cross" (defArgs s_law_cross) (defBody s_law_cross) (defScope s_law_cross) .none kV16 dc16 pm16 an16 cd16 ct16), sl16⟩)
    (c16 : PySem.W.codeIn K cd16 "_law_cross" = true)
    (k16 : PySem.W.keepIn K (.ref f16) = true)
    (a17 : PySem.W.nsIn K mainGlobals "_law_crossing" = some (some (.ref f17)))
    (l17 : K.lookup f17 = some ⟨oc17, od17, .func (PySem.W.fnOf "_law_crossing" "_law_crossing" (defArgs s_law_crossing) (defBody s_law_crossing) (defScope s_law_crossing) .none kV17 dc17 pm17 an17 cd17 ct17), sl17⟩)
    (c17 : PySem.W.codeIn K cd17 "_law_crossing" = true)
    (k17 : PySem.W.keepIn K (.ref f17) = true)
    (a18 : PySem.W.nsIn K mainGlobals "_law_are_found" = some (some (.ref f18)))
    (l18 : K.lookup f18 = some ⟨oc18, od18, .func (PySem.W.fnOf "_law_are_found" "_law_are_found" (defArgs s_law_are_found) (defBody s_law_are_found) (defScope s_law_are_found) .none kV18 dc18 pm18 an18 cd18 ct18), sl18⟩)
    (c18 : PySem.W.codeIn K cd18 "_law_are_found" = true)
    (k18 : PySem.W.keepIn K (.ref f18) = true)
    (a19 : PySem.W.nsIn K mainGlobals "_law_around" = some (some (.ref f19)))
    (l19 : K.lookup f19 = some ⟨oc19, od19, .func (PySem.W.fnOf "_law_around" "_law_around" (defArgs s_law_around) (defBody s_law_around) (defScope s_law_around) .none kV19 dc19 pm19 an19 cd19 ct19), sl19⟩)
    (c19 : PySem.W.codeIn K cd19 "_law_around" = true)
    (k19 : PySem.W.keepIn K (.ref f19) = true)
    (a20 : PySem.W.nsIn K mainGlobals "law" = some (some (.ref f20)))
    (l20 : K.lookup f20 = some ⟨oc20, od20, .func (PySem.W.fnOf "law" "law" (defArgs s_law) (defBody s_law) (defScope s_law) .none kV20 dc20 pm20 an20 cd20 ct20), sl20⟩)
    (c20 : PySem.W.codeIn K cd20 "law" = true)
    (k20 : PySem.W.keepIn K (.ref f20) = true)
    (z_LETTERS : PySem.W.nsIn K mainGlobals "LETTERS" = some (some (.str "abcdefghijklmnopqrstuvwxyz" t_LETTERS)))
    (z_all : PySem.W.nsIn K mainGlobals "all" = some none)
    (z_isinstance : PySem.W.nsIn K mainGlobals "isinstance" = some none)
    (z_len : PySem.W.nsIn K mainGlobals "len" = some none)
    (z_str : PySem.W.nsIn K mainGlobals "str" = some none)
    (z_zip : PySem.W.nsIn K mainGlobals "zip" = some none)
    (z_MOST_FOUND : PySem.W.nsIn K mainGlobals "MOST_FOUND" = some (some (.int 8 t_MOST_FOUND)))
    (z_MOST_MARKS : PySem.W.nsIn K mainGlobals "MOST_MARKS" = some (some (.int 6 t_MOST_MARKS)))
    (z_tuple : PySem.W.nsIn K mainGlobals "tuple" = some none)
    (z_enumerate : PySem.W.nsIn K mainGlobals "enumerate" = some none)
    (z_any : PySem.W.nsIn K mainGlobals "any" = some none)
    (z_sorted : PySem.W.nsIn K mainGlobals "sorted" = some none)
    (z_abs : PySem.W.nsIn K mainGlobals "abs" = some none)
    (z_int : PySem.W.nsIn K mainGlobals "int" = some none)
    (z_list : PySem.W.nsIn K mainGlobals "list" = some none)
    (z_dict : PySem.W.nsIn K mainGlobals "dict" = some none)
    (z_set : PySem.W.nsIn K mainGlobals "set" = some none)
    (z_bool : PySem.W.nsIn K mainGlobals "bool" = some none)
    (z_min : PySem.W.nsIn K mainGlobals "min" = some none)
    (z_range : PySem.W.nsIn K mainGlobals "range" = some none)
     :
    ∃ fd : FuncData, (∀ (s : Shared) (v : Value), BindsTo s fd ⟨[v], []⟩ [("script", v)]) ∧ ∀ base : Heap, K.In base → base.Ns mainGlobals mg → FnOk l.prog w K mg base CX0 28 fa fd ["script"] (cSp K spLaw) := by
  have e := hfa.symm.trans (PySem.W.mg_of X G a20)
  cases e
  have T : Txt K mg := ⟨⟨_, PySem.W.mg_of X G z_LETTERS⟩, PySem.W.mg_none_of X G z_all, PySem.W.mg_none_of X G z_isinstance, PySem.W.mg_none_of X G z_len, PySem.W.mg_none_of X G z_str, PySem.W.mg_none_of X G z_zip, ⟨_, PySem.W.mg_of X G z_MOST_FOUND⟩, ⟨_, PySem.W.mg_of X G z_MOST_MARKS⟩, PySem.W.mg_none_of X G z_tuple, PySem.W.mg_none_of X G z_enumerate, PySem.W.mg_none_of X G z_any, PySem.W.mg_none_of X G z_sorted, PySem.W.mg_none_of X G z_abs, PySem.W.mg_none_of X G z_int, PySem.W.mg_none_of X G z_list, PySem.W.mg_none_of X G z_dict, PySem.W.mg_none_of X G z_set, PySem.W.mg_none_of X G z_bool, PySem.W.mg_none_of X G z_min, PySem.W.mg_none_of X G z_range⟩
  have F0 : FunAt K mg "is_name" "is_name" s_is_name ["thing"] := funAt_mk X G a0 l0 c0 k0 fun _ _ _ _ _ _ us hl => match us, hl with | [_], _ => rfl
  have F1 : FunAt K mg "are_rising" "are_rising" s_are_rising ["some"] := funAt_mk X G a1 l1 c1 k1 fun _ _ _ _ _ _ us hl => match us, hl with | [_], _ => rfl
  have F2 : FunAt K mg "are_found" "are_found" s_are_found ["thing"] := funAt_mk X G a2 l2 c2 k2 fun _ _ _ _ _ _ us hl => match us, hl with | [_], _ => rfl
  have F3 : FunAt K mg "having" "having" s_having ["found"] := funAt_mk X G a3 l3 c3 k3 fun _ _ _ _ _ _ us hl => match us, hl with | [_], _ => rfl
  have F4 : FunAt K mg "is_in" "is_in" s_is_in ["one", "other"] := funAt_mk X G a4 l4 c4 k4 fun _ _ _ _ _ _ us hl => match us, hl with | [_, _], _ => rfl
  have F5 : FunAt K mg "do_cross" "do_cross" s_do_cross ["one", "other"] := funAt_mk X G a5 l5 c5 k5 fun _ _ _ _ _ _ us hl => match us, hl with | [_, _], _ => rfl
  have F6 : FunAt K mg "crossing" "crossing" s_crossing ["found"] := funAt_mk X G a6 l6 c6 k6 fun _ _ _ _ _ _ us hl => match us, hl with | [_], _ => rfl
  have F7 : FunAt K mg "rank" "rank" s_rank ["rows", "mark"] := funAt_mk X G a7 l7 c7 k7 fun _ _ _ _ _ _ us hl => match us, hl with | [_, _], _ => rfl
  have F8 : FunAt K mg "around" "around" s_around ["found"] := funAt_mk X G a8 l8 c8 k8 fun _ _ _ _ _ _ us hl => match us, hl with | [_], _ => rfl
  have F9 : FunAt K mg "_law_bag" "_law_bag" s_law_bag ["script", "k"] := funAt_mk X G a9 l9 c9 k9 fun _ _ _ _ _ _ us hl => match us, hl with | [_, _], _ => rfl
  have F10 : FunAt K mg "_law_take" "_law_take" s_law_take ["bag", "many"] := funAt_mk X G a10 l10 c10 k10 fun _ _ _ _ _ _ us hl => match us, hl with | [_, _], _ => rfl
  have F11 : FunAt K mg "_law_is_name" "_law_is_name" s_law_is_name ["thing"] := funAt_mk X G a11 l11 c11 k11 fun _ _ _ _ _ _ us hl => match us, hl with | [_], _ => rfl
  have F12 : FunAt K mg "_law_odd" "_law_odd" s_law_odd ["bag"] := funAt_mk X G a12 l12 c12 k12 fun _ _ _ _ _ _ us hl => match us, hl with | [_], _ => rfl
  have F13 : FunAt K mg "_law_spoilt" "_law_spoilt" s_law_spoilt ["bag", "thing"] := funAt_mk X G a13 l13 c13 k13 fun _ _ _ _ _ _ us hl => match us, hl with | [_, _], _ => rfl
  have F14 : FunAt K mg "_law_found" "_law_found" s_law_found ["bag", "nested"] := funAt_mk X G a14 l14 c14 k14 fun _ _ _ _ _ _ us hl => match us, hl with | [_, _], _ => rfl
  have F15 : FunAt K mg "_law_having" "_law_having" s_law_having ["found"] := funAt_mk X G a15 l15 c15 k15 fun _ _ _ _ _ _ us hl => match us, hl with | [_], _ => rfl
  have F16 : FunAt K mg "_law_cross" "_law_cross" s_law_cross ["one", "other"] := funAt_mk X G a16 l16 c16 k16 fun _ _ _ _ _ _ us hl => match us, hl with | [_, _], _ => rfl
  have F17 : FunAt K mg "_law_crossing" "_law_crossing" s_law_crossing ["found"] := funAt_mk X G a17 l17 c17 k17 fun _ _ _ _ _ _ us hl => match us, hl with | [_], _ => rfl
  have F18 : FunAt K mg "_law_are_found" "_law_are_found" s_law_are_found ["thing"] := funAt_mk X G a18 l18 c18 k18 fun _ _ _ _ _ _ us hl => match us, hl with | [_], _ => rfl
  have F19 : FunAt K mg "_law_around" "_law_around" s_law_around ["found"] := funAt_mk X G a19 l19 c19 k19 fun _ _ _ _ _ _ us hl => match us, hl with | [_], _ => rfl
  refine ⟨PySem.W.fnOf "law" "law" (defArgs s_law) (defBody s_law) (defScope s_law) .none kV20 dc20 pm20 an20 cd20 ct20, fun s v => .of_eq rfl, fun base _ _ => ?_⟩
  have D0 := ok_is_name (P := l.prog) (w := w) (base := base) F0 T 
  have D1 := ok_are_rising (P := l.prog) (w := w) (base := base) F1 T 
  have D2 := ok_are_found (P := l.prog) (w := w) (base := base) F2 T D0 D1
  have D3 := ok_having (P := l.prog) (w := w) (base := base) F3 T 
  have D4 := ok_is_in (P := l.prog) (w := w) (base := base) F4 T 
  have D5 := ok_do_cross (P := l.prog) (w := w) (base := base) F5 T D4
  have D6 := ok_crossing (P := l.prog) (w := w) (base := base) F6 T D3 D5
  have D7 := ok_rank (P := l.prog) (w := w) (base := base) F7 T 
  have D8 := ok_around (P := l.prog) (w := w) (base := base) F8 T D3 D4 D7
  have D9 := ok_law_bag (P := l.prog) (w := w) (base := base) F9 T 
  have D10 := ok_law_take (P := l.prog) (w := w) (base := base) F10 T 
  have D11 := ok_law_is_name (P := l.prog) (w := w) (base := base) F11 T 
  have D12 := ok_law_odd (P := l.prog) (w := w) (base := base) F12 T D10
  have D13 := ok_law_spoilt (P := l.prog) (w := w) (base := base) F13 T D10 D12
  have D14 := ok_law_found (P := l.prog) (w := w) (base := base) F14 T D10
  have D15 := ok_law_having (P := l.prog) (w := w) (base := base) F15 T 
  have D16 := ok_law_cross (P := l.prog) (w := w) (base := base) F16 T 
  have D17 := ok_law_crossing (P := l.prog) (w := w) (base := base) F17 T D15 D16
  have D18 := ok_law_are_found (P := l.prog) (w := w) (base := base) F18 T D11
  have D19 := ok_law_around (P := l.prog) (w := w) (base := base) F19 T D15
  have FL : FunAt K mg "law" "law" s_law ["script"] := funAt_mk X G a20 l20 c20 k20 fun _ _ _ _ _ _ us hl => match us, hl with | [_], _ => rfl
  exact ok_law_fn (fun_mk (st := s_law) l20 c20 k20) T D9 D14 D17 D8 D19 D6 D12 D2 D18 D13
theorem walk {l : PySem.W.OpenLaw} {q : Program} {loose : List Str} {XP : (Str → Option Value) → Heap → Prop} {YP : World → Heap → Prop} {d : DefRec} {K : Params → PySem.W.Frag} (hn : l.most = some 63) (hdf : d.params.defaults = [])
    (hY : ∀ (w : World) (h : Heap), YP w h → (K w.params).In h)
    (F : ∀ (w : World) (mg : Str → Option Value) (fa : Addr) (h : Heap), (K w.params).In h → h.Ns mainGlobals mg → mg d.name = some (.ref fa) →
      ∃ fd : FuncData, (∀ (s : Shared) (u : Value), BindsTo s fd ⟨[u], []⟩ [("script", u)]) ∧ ∀ base : Heap, (K w.params).In base → base.Ns mainGlobals mg → FnOk l.prog w (K w.params) mg base CX0 28 fa fd ["script"] (cSp (K w.params) spLaw)) :
    PySem.W.WalkO q loose XP YP l.row.toRowW d [] (fun f vs => PySem.call f vs) :=
  L2.walk_of (n := 63) (k := 28) (x := "script") (CX := fun _ => CX0) (sp := fun w => cSp (K w.params) spLaw) hn (by decide) hdf ⟨rfl, by decide, by decide⟩ hY F (fun _ _ a ns hl hO hS => law_sp hl hO hS) fun _ _ _ _ _ z => z
end Law
open PySem PySem.W PyProof.Rows
set_option maxRecDepth 100000 in
set_option maxHeartbeats 0 in
theorem PySem.Challenge.cw_mouldkin_k06_found_marks_by_hand_holds : PySem.Challenge.rw_mouldkin_k06_found_marks_by_hand.Holds := by
  w_on; o_law; k_head; (case hw => w_witness2)
  k_fill
  refine Law.walk (l := PySem.Challenge.rw_mouldkin_k06_found_marks_by_hand) rfl rfl (fun w h Y => PySem.W.kIn_of Y) ?F
  case F =>
    intro w mg fa h KX G hmg
    refine' Law.all_mk KX G hmg ?a0 ?l0 ?c0 ?k0 ?a1 ?l1 ?c1 ?k1 ?a2 ?l2 ?c2 ?k2 ?a3 ?l3 ?c3 ?k3 ?a4 ?l4 ?c4 ?k4 ?a5 ?l5 ?c5 ?k5 ?a6 ?l6 ?c6 ?k6 ?a7 ?l7 ?c7 ?k7 ?a8 ?l8 ?c8 ?k8 ?a9 ?l9 ?c9 ?k9 ?a10 ?l10 ?c10 ?k10 ?a11 ?l11 ?c11 ?k11 ?a12 ?l12 ?c12 ?k12 ?a13 ?l13 ?c13 ?k13 ?a14 ?l14 ?c14 ?k14 ?a15 ?l15 ?c15 ?k15 ?a16 ?l16 ?c16 ?k16 ?a17 ?l17 ?c17 ?k17 ?a18 ?l18 ?c18 ?k18 ?a19 ?l19 ?c19 ?k19 ?a20 ?l20 ?c20 ?k20 ?z_LETTERS ?z_all ?z_isinstance ?z_len ?z_str ?z_zip ?z_MOST_FOUND ?z_MOST_MARKS ?z_tuple ?z_enumerate ?z_any ?z_sorted ?z_abs ?z_int ?z_list ?z_dict ?z_set ?z_bool ?z_min ?z_range
    (case a0 => k_is)
    (case l0 => k_is)
    (case c0 => k_is)
    (case k0 => k_is)
    (case a1 => k_is)
    (case l1 => k_is)
    (case c1 => k_is)
    (case k1 => k_is)
    (case a2 => k_is)
    (case l2 => k_is)
    (case c2 => k_is)
    (case k2 => k_is)
    (case a3 => k_is)
    (case l3 => k_is)
    (case c3 => k_is)
    (case k3 => k_is)
    (case a4 => k_is)
    (case l4 => k_is)
    (case c4 => k_is)
    (case k4 => k_is)
    (case a5 => k_is)
    (case l5 => k_is)
    (case c5 => k_is)
    (case k5 => k_is)
    (case a6 => k_is)
    (case l6 => k_is)
    (case c6 => k_is)
    (case k6 => k_is)
    (case a7 => k_is)
    (case l7 => k_is)
    (case c7 => k_is)
    (case k7 => k_is)
    (case a8 => k_is)
    (case l8 => k_is)
    (case c8 => k_is)
    (case k8 => k_is)
    (case a9 => k_is)
    (case l9 => k_is)
    (case c9 => k_is)
    (case k9 => k_is)
    (case a10 => k_is)
    (case l10 => k_is)
    (case c10 => k_is)
    (case k10 => k_is)
    (case a11 => k_is)
    (case l11 => k_is)
    (case c11 => k_is)
    (case k11 => k_is)
    (case a12 => k_is)
    (case l12 => k_is)
    (case c12 => k_is)
    (case k12 => k_is)
    (case a13 => k_is)
    (case l13 => k_is)
    (case c13 => k_is)
    (case k13 => k_is)
    (case a14 => k_is)
    (case l14 => k_is)
    (case c14 => k_is)
    (case k14 => k_is)
    (case a15 => k_is)
    (case l15 => k_is)
    (case c15 => k_is)
    (case k15 => k_is)
    (case a16 => k_is)
    (case l16 => k_is)
    (case c16 => k_is)
    (case k16 => k_is)
    (case a17 => k_is)
    (case l17 => k_is)
    (case c17 => k_is)
    (case k17 => k_is)
    (case a18 => k_is)
    (case l18 => k_is)
    (case c18 => k_is)
    (case k18 => k_is)
    (case a19 => k_is)
    (case l19 => k_is)
    (case c19 => k_is)
    (case k19 => k_is)
    (case a20 => k_is)
    (case l20 => k_is)
    (case c20 => k_is)
    (case k20 => k_is)
    (case z_LETTERS => k_is)
    (case z_all => k_is)
    (case z_isinstance => k_is)
    (case z_len => k_is)
    (case z_str => k_is)
    (case z_zip => k_is)
    (case z_MOST_FOUND => k_is)
    (case z_MOST_MARKS => k_is)
    (case z_tuple => k_is)
    (case z_enumerate => k_is)
    (case z_any => k_is)
    (case z_sorted => k_is)
    (case z_abs => k_is)
    (case z_int => k_is)
    (case z_list => k_is)
    (case z_dict => k_is)
    (case z_set => k_is)
    (case z_bool => k_is)
    (case z_min => k_is)
    (case z_range => k_is)

#print axioms PySem.Challenge.cw_mouldkin_k06_found_marks_by_hand_holds
