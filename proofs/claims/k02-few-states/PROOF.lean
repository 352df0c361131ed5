import PyProof.Rows.All
import Wide.All
import OpenK.AllK
import Wide.FinOn
import HandS.ForMost
import HandS.IsInst
import HandS.TupAny
import HandS.TupLe
import HandS.TupLen
import HandS.Deep
import HandS.DictComp
import HandS.Strs
import HandS.SortInts
import HandS.Conv
import HandS.Zip
import HandS.Codes
import HandS.Flow
import HandS.Style
import HandS.Wide
import HandS.More
import HandS.Small
import HandS.SetFor
import HandS.MakeKwOnly
import HandS.Defaults
import KE.GoesNewDict
import PyProof.ReprRoads
import PyProof.ReprBulk
import PyProof.Rows.TupDisplay
import PySem.Challenge.RW_agedcopy_k02_whole_how_few_states_a_log
set_option Elab.async false
set_option linter.all false
set_option maxRecDepth 100000
/-! Data over the hand layer: what a reading evaluates to, as plain data; the known part of the heap grows. -/
namespace Ag
open PySem L2

/-! ### data in a heap -/
mutual
inductive Dt (G : Hp) : V → PyData → Prop
  | non : Dt G .non .none
  | bl (b : Bool) : Dt G (.bl b) (.bool b)
  | int (i : Int) : Dt G (.int i) (.int i)
  | str (x : Str) : Dt G (.str x) (.str x)
  | lst {a : Addr} {xs : List V} {ds : List PyData} : G a = some (.lst xs) → DtA G xs ds → Dt G (.ref a) (.list ds)
  | tup {a : Addr} {xs : List V} {ds : List PyData} : G a = some (.tup xs) → DtA G xs ds → Dt G (.ref a) (.tuple ds)
inductive DtA (G : Hp) : List V → List PyData → Prop
  | nil : DtA G [] []
  | cons {v : V} {vs : List V} {d : PyData} {ds : List PyData} : Dt G v d → DtA G vs ds → DtA G (v :: vs) (d :: ds)
end
section
variable {G G' : Hp}
mutual
theorem Dt.mono (s : Same G G') : ∀ (d : PyData) {v : V}, Dt G v d → Dt G' v d
  | .none, _, h => by cases h; exact .non
  | .bool _, _, h => by cases h; exact .bl _
  | .int _, _, h => by cases h; exact .int _
  | .str _, _, h => by cases h; exact .str _
  | .list ds, _, h => by
    cases h with
    | lst e r => exact .lst (s _ _ e) (DtA.mono s ds r)
  | .tuple ds, _, h => by
    cases h with
    | tup e r => exact .tup (s _ _ e) (DtA.mono s ds r)
  | .dict _, _, h => by cases h
theorem DtA.mono (s : Same G G') : ∀ (ds : List PyData) {vs : List V}, DtA G vs ds → DtA G' vs ds
  | [], _, h => by cases h; exact .nil
  | d :: ds, _, h => by
    cases h with
    | cons a r => exact .cons (Dt.mono s d a) (DtA.mono s ds r)
end
mutual
theorem Dt.dp {K : PySem.W.Frag} (s : Same G G') : ∀ (d : PyData) {v : V}, Dt G v d → Dp K G' v d
  | .none, _, h => by cases h; exact .non
  | .bool _, _, h => by cases h; exact .bl _
  | .int _, _, h => by cases h; exact .int _
  | .str _, _, h => by cases h; exact .str _
  | .list ds, _, h => by
    cases h with
    | lst e r => exact .lst (.of (s _ _ e)) (DtA.dp s ds r)
  | .tuple ds, _, h => by
    cases h with
    | tup e r => exact .tup (.of (s _ _ e)) (DtA.dp s ds r)
  | .dict _, _, h => by cases h
theorem DtA.dp {K : PySem.W.Frag} (s : Same G G') : ∀ (ds : List PyData) {vs : List V}, DtA G vs ds → DpAll K G' vs ds
  | [], _, h => by cases h; exact .nil
  | d :: ds, _, h => by
    cases h with
    | cons a r => exact .cons (Dt.dp s d a) (DtA.dp s ds r)
end
theorem DtA.length : ∀ {vs : List V} {ds : List PyData}, DtA G vs ds → vs.length = ds.length
  | [], [], _ => rfl
  | [], _ :: _, h => by cases h
  | _ :: _, [], h => by cases h
  | _ :: vs, _ :: ds, h => by
    cases h with
    | cons _ r => rw [List.length_cons, List.length_cons, DtA.length r]
theorem DtA.get : ∀ {vs : List V} {ds : List PyData} {i : Nat} {d : PyData}, DtA G vs ds → ds[i]? = some d → ∃ v, vs[i]? = some v ∧ Dt G v d
  | _, [], i, d, h, e => by simp at e
  | [], _ :: _, _, _, h, _ => by cases h
  | v :: vs, d :: ds, 0, x, h, e => by
    cases h with
    | cons a _ =>
      have e1 : d = x := by simpa using e
      subst e1
      exact ⟨v, rfl, a⟩
  | v :: vs, d :: ds, i + 1, x, h, e => by
    cases h with
    | cons _ r =>
      have e1 : ds[i]? = some x := by simpa using e
      obtain ⟨u, h1, h2⟩ := DtA.get r e1
      exact ⟨u, by simpa using h1, h2⟩
theorem DtA.getV : ∀ {vs : List V} {ds : List PyData} {i : Nat} {v : V}, DtA G vs ds → vs[i]? = some v → ∃ d, ds[i]? = some d ∧ Dt G v d := fun {vs ds i v} h e => by
  have hl := h.length
  have hi : i < vs.length := (List.getElem?_eq_some_iff.mp e).1
  have hi2 : i < ds.length := by omega
  obtain ⟨u, h1, h2⟩ := h.get (List.getElem?_eq_getElem hi2)
  rw [e] at h1
  cases h1
  exact ⟨_, List.getElem?_eq_getElem hi2, h2⟩
theorem DtA.append : ∀ {vs ws : List V} {ds es : List PyData}, DtA G vs ds → DtA G ws es → DtA G (vs ++ ws) (ds ++ es)
  | [], _, ds, _, h, k => by
    cases h
    exact k
  | v :: vs, _, ds, _, h, k => by
    cases h with
    | cons a r => exact .cons a (DtA.append r k)
theorem DtA.one {v : V} {d : PyData} (h : Dt G v d) : DtA G [v] [d] := .cons h .nil
theorem DtA.take : ∀ {vs : List V} {ds : List PyData} (n : Nat), DtA G vs ds → DtA G (vs.take n) (ds.take n)
  | _, _, 0, _ => .nil
  | [], ds, n + 1, h => by
    cases h
    exact .nil
  | v :: vs, ds, n + 1, h => by
    cases h with
    | cons a r => exact .cons a (DtA.take n r)
theorem DtA.drop : ∀ {vs : List V} {ds : List PyData} (n : Nat), DtA G vs ds → DtA G (vs.drop n) (ds.drop n)
  | _, _, 0, h => h
  | [], ds, n + 1, h => by
    cases h
    exact .nil
  | v :: vs, ds, n + 1, h => by
    cases h with
    | cons a r => exact DtA.drop n r
theorem DtA.ints : ∀ {vs : List V} {ns : List Int}, DtA G vs (ns.map .int) → vs = ns.map V.int
  | [], [], _ => rfl
  | [], _ :: _, h => by cases h
  | _ :: _, [], h => by cases h
  | v :: vs, n :: ns, h => by
    cases h with
    | cons a r =>
      cases a
      rw [DtA.ints r]
      rfl
theorem DtA.ofInts : ∀ (ns : List Int), DtA G (ns.map V.int) (ns.map .int)
  | [] => .nil
  | n :: ns => .cons (.int n) (DtA.ofInts ns)
theorem DtA.bools : ∀ {vs : List V} {ns : List Bool}, DtA G vs (ns.map .bool) → vs = ns.map V.bl
  | [], [], _ => rfl
  | [], _ :: _, h => by cases h
  | _ :: _, [], h => by cases h
  | v :: vs, n :: ns, h => by
    cases h with
    | cons a r =>
      cases a
      rw [DtA.bools r]
      rfl
end

/-! ### what a name may stand for -/
def mfs (t : Addr) (ts : List (List Nat)) : List (Str × V) := putF "states" (.int ((ts.headD []).length : Nat)) (putF "deeds" (.int (ts.length : Nat)) (putF "tables" (.ref t) []))
/-- a tuple of numbers; tuples of these -/
def tnD (l : List Nat) : PyData := .tuple (l.map fun n => .int (n : Nat))
def ttD (ts : List (List Nat)) : PyData := .tuple (ts.map tnD)
def tlD (ts : List (List Nat)) : PyData := .list (ts.map tnD)
inductive Bd where
  | d (x : PyData)
  /-- just this value -/
  | v (x : V)
  /-- a machine of these tables -/
  | m (ts : List (List Nat))
  /-- a dict whose keys are these ints -/
  | ks (ns : List Int)
  /-- a set of ints -/
  | st (ns : List Int)
  /-- a list of ints that stands somewhere, and does not change -/
  | sq (ns : List Int)
/-- world, the class Machine, the written part -/
structure Nv where
  w : World
  C : Addr
  K : PySem.W.Frag
section
variable (N : Nv)
def Hold (G : Hp) (v : V) : Bd → Prop
  | .d x => Dt G v x
  | .v x => v = x
  | .m ts => ∃ a dx t, v = .ref a ∧ G a = some (.ins N.C dx (mfs t ts)) ∧ Dt G (.ref t) (ttD ts)
  | .ks ns => ∃ a kvs, v = .ref a ∧ G a = some (.dK kvs) ∧ kvs.map (·.1) = ns.map (fun n => (Sum.inl n : Key))
  | .st ns => ∃ a, v = .ref a ∧ G a = some (SetO N.w a (fun k => decide (k ∈ ns)) ns.length) ∧ ns.Nodup
  | .sq ns => ∃ a, v = .ref a ∧ SqL N.K G a (ns.map V.int)
theorem Hold.mono {N : Nv} {G G' : Hp} (s : Same G G') {v : V} : ∀ {b : Bd}, Hold N G v b → Hold N G' v b
  | .d x, h => Dt.mono s x h
  | .v _, h => h
  | .m _, ⟨a, dx, t, e, h1, h2⟩ => ⟨a, dx, t, e, s _ _ h1, Dt.mono s _ h2⟩
  | .ks _, ⟨a, kvs, e, h1, h2⟩ => ⟨a, kvs, e, s _ _ h1, h2⟩
  | .st _, ⟨a, e, h1, h2⟩ => ⟨a, e, s _ _ h1, h2⟩
  | .sq _, ⟨a, e, h⟩ => ⟨a, e, s.seq h⟩
theorem Hold.dt {N : Nv} {G : Hp} {v : V} {x : PyData} (h : Hold N G v (.d x)) : Dt G v x := h
theorem Hold.int {N : Nv} {G : Hp} {v : V} {i : Int} (h : Hold N G v (.d (.int i))) : v = .int i := by
  cases h.dt
  rfl
theorem Hold.bool {N : Nv} {G : Hp} {v : V} {i : Bool} (h : Hold N G v (.d (.bool i))) : v = .bl i := by
  cases h.dt
  rfl
theorem Hold.str {N : Nv} {G : Hp} {v : V} {i : Str} (h : Hold N G v (.d (.str i))) : v = .str i := by
  cases h.dt
  rfl
abbrev Cnt := List (Option Bd)
structure Env (G : Hp) (σ : L2.St) (Γ : Cnt) : Prop where
  len : σ.length = Γ.length
  at_ : ∀ (i : Nat) (b : Bd), Γ[i]? = some (some b) → ∃ v, σ[i]? = some (some v) ∧ Hold N G v b
variable {N}
theorem Env.mono {G G' : Hp} {σ : L2.St} {Γ : Cnt} (e : Env N G σ Γ) (s : Same G G') : Env N G' σ Γ :=
  ⟨e.len, fun i b h => let ⟨v, h1, h2⟩ := e.at_ i b h; ⟨v, h1, h2.mono s⟩⟩
theorem Env.set {G : Hp} {σ : L2.St} {Γ : Cnt} (e : Env N G σ Γ) (j : Nat) {v : V} {b : Bd} (h : Hold N G v b) : Env N G (σ.set j (some v)) (Γ.set j (some b)) := by
  refine ⟨by rw [List.length_set, List.length_set, e.len], fun i b' q => ?_⟩
  by_cases hij : j = i
  · subst hij
    have hl : j < Γ.length := by
      have := (List.getElem?_eq_some_iff.mp q).1
      rwa [List.length_set] at this
    rw [List.getElem?_set_self hl] at q
    cases q
    exact ⟨v, List.getElem?_set_self (by rw [e.len]; exact hl), h⟩
  · rw [List.getElem?_set_ne hij] at q
    obtain ⟨u, h1, h2⟩ := e.at_ i b' q
    exact ⟨u, by rw [List.getElem?_set_ne hij]; exact h1, h2⟩
theorem Env.drop {G : Hp} {σ : L2.St} {Γ : Cnt} (e : Env N G σ Γ) (j : Nat) (o : Option V) : Env N G (σ.set j o) (Γ.set j none) := by
  refine ⟨by rw [List.length_set, List.length_set, e.len], fun i b' q => ?_⟩
  by_cases hij : j = i
  · subst hij
    have hl : j < Γ.length := by
      have := (List.getElem?_eq_some_iff.mp q).1
      rwa [List.length_set] at this
    rw [List.getElem?_set_self hl] at q
    cases q
  · rw [List.getElem?_set_ne hij] at q
    obtain ⟨u, h1, h2⟩ := e.at_ i b' q
    exact ⟨u, by rw [List.getElem?_set_ne hij]; exact h1, h2⟩
/-- fewer things known of the names -/
theorem Env.weak {G : Hp} {σ : L2.St} {Γ Γ' : Cnt} (e : Env N G σ Γ) (hl : Γ'.length = Γ.length) (h : ∀ (i : Nat) (b : Bd), Γ'[i]? = some (some b) → Γ[i]? = some (some b)) : Env N G σ Γ' :=
  ⟨by rw [hl]; exact e.len, fun i b q => e.at_ i b (h i b q)⟩
def wipeG (Γ : Cnt) : List Nat → Cnt
  | [] => Γ
  | v :: vs => (wipeG Γ vs).set v none
theorem Env.wipe {G : Hp} {σ : L2.St} {Γ : Cnt} (e : Env N G σ Γ) : ∀ vs : List Nat, Env N G (wipe σ vs) (wipeG Γ vs)
  | [] => e
  | v :: vs => (Env.wipe e vs).drop v none
end

/-! ### boxes (lists of three ints that change), growth -/
def BoxAt (H : Hp) (b : Addr) : Prop := ∃ x y z : Int, H b = some (.lst [.int x, .int y, .int z])
/-- something stands there, no tuple -/
def NT (H : Hp) (a : Addr) : Prop := ∃ o, H a = some o ∧ ∀ xs, o ≠ .tup xs
structure Gr (B : List Addr) (G H G' H' : Hp) : Prop where
  g : Same G G'
  h : ∀ a o, a ∉ B → H a = some o → H' a = some o
  d : ∀ a, H a ≠ none → H' a ≠ none
  s : Same G' H'
  n : ∀ a, NT H a → G' a = G a
  t : ∀ a, NT H a → NT H' a
section
variable {B B' : List Addr} {G H G' H' G'' H'' : Hp}
theorem NT.lst {H : Hp} {a : Addr} {xs : List V} (e : H a = some (.lst xs)) : NT H a := ⟨_, e, fun _ h => nomatch h⟩
theorem Gr.refl (s : Same G H) : Gr B G H G H := ⟨fun _ _ h => h, fun _ _ _ h => h, fun _ h => h, s, fun _ _ => rfl, fun _ h => h⟩
theorem Gr.trans (a : Gr B G H G' H') (b : Gr B G' H' G'' H'') : Gr B G H G'' H'' where
  g := a.g.trans b.g
  h := fun x o hx e => b.h x o hx (a.h x o hx e)
  d := fun x e => b.d x (a.d x e)
  s := b.s
  n := fun x e => (b.n x (a.t x e)).trans (a.n x e)
  t := fun x e => b.t x (a.t x e)
theorem Gr.sub (a : Gr B G H G' H') (h : ∀ b ∈ B, b ∈ B') : Gr B' G H G' H' :=
  ⟨a.g, fun x o hx e => a.h x o (fun q => hx (h x q)) e, a.d, a.s, a.n, a.t⟩
/-- what is written that did not stand ahead does not count -/
theorem Gr.step (a : Gr B G H G' H') (b : Gr B' G' H' G'' H'') (h : ∀ x ∈ B', x ∈ B ∨ H x = none) : Gr B G H G'' H'' where
  g := a.g.trans b.g
  h := fun x o hx e => b.h x o (fun q => by
    rcases h x q with z | z
    · exact hx z
    · rw [z] at e
      cases e) (a.h x o hx e)
  d := fun x e => b.d x (a.d x e)
  s := b.s
  n := fun x e => (b.n x (a.t x e)).trans (a.n x e)
  t := fun x e => b.t x (a.t x e)
theorem Gr.any (a : Gr [] G H G' H') : Gr B G H G' H' := a.sub fun _ h => by cases h
theorem Gr.same (a : Gr [] G H G' H') : Same H H' := fun x o e => a.h x o (by simp) e
/-- a new object -/
theorem Gr.new {p : Addr} {o : HO} (s : Same G H) (h : H p = none) : Gr [] G H (upd G p o) (upd H p o) where
  g := fun a u e => by
    rw [upd_ne (ne_of_none (s _ _ e) h)]
    exact e
  h := fun a u _ e => by
    rw [upd_ne (ne_of_none e h)]
    exact e
  d := fun a e => by
    by_cases q : a = p
    · subst q
      exact absurd h e
    · rw [upd_ne q]
      exact e
  s := fun a u e => by
    by_cases q : a = p
    · subst q
      rw [upd_same] at e ⊢
      exact e
    · rw [upd_ne q] at e ⊢
      exact s _ _ e
  n := fun a e => upd_ne fun q => by
    subst q
    obtain ⟨_, z, _⟩ := e
    rw [h] at z
    cases z
  t := fun a e => by
    obtain ⟨u, z, y⟩ := e
    exact ⟨u, by rw [upd_ne (ne_of_none z h)]; exact z, y⟩
/-- a new object that is not known (it will change) -/
theorem Gr.newM {p : Addr} {o : HO} (s : Same G H) (h : H p = none) : Gr [] G H G (upd H p o) where
  g := fun _ _ e => e
  h := fun a u _ e => by
    rw [upd_ne (ne_of_none e h)]
    exact e
  d := fun a e => by
    by_cases q : a = p
    · subst q
      exact absurd h e
    · rw [upd_ne q]
      exact e
  s := fun a u e => by
    rw [upd_ne (ne_of_none (s _ _ e) h)]
    exact s _ _ e
  n := fun _ _ => rfl
  t := fun a e => by
    obtain ⟨u, z, y⟩ := e
    exact ⟨u, by rw [upd_ne (ne_of_none z h)]; exact z, y⟩
/-- a change at p, of which nothing is known -/
theorem Gr.wr {p : Addr} {o : HO} (s : Same G H) (h : G p = none) (ho : ∀ xs, o ≠ .tup xs) : Gr [p] G H G (upd H p o) where
  g := fun _ _ e => e
  h := fun a u q e => by
    rw [upd_ne (fun z => q (by simp [z]))]
    exact e
  d := fun a e => by
    by_cases q : a = p
    · subst q
      rw [upd_same]
      simp
    · rw [upd_ne q]
      exact e
  s := fun a u e => by
    rw [upd_ne (ne_of_none e h)]
    exact s _ _ e
  n := fun _ _ => rfl
  t := fun a e => by
    obtain ⟨u, z, y⟩ := e
    by_cases q : a = p
    · subst q
      exact ⟨o, upd_same, ho⟩
    · exact ⟨u, by rw [upd_ne q]; exact z, y⟩
/-- an own object, made behind (G0, H0), is known from now on -/
theorem Gr.freeze {p : Addr} {o : HO} (a : Gr B G H G' H') (n : H p = none) (g : G' p = none) (e : H' p = some o) : Gr B G H (upd G' p o) H' where
  g := fun x u q => by
    rw [upd_ne (ne_of_none (a.g _ _ q) g)]
    exact a.g _ _ q
  h := a.h
  d := a.d
  s := fun x u q => by
    by_cases z : x = p
    · subst z
      rw [upd_same] at q
      cases q
      exact e
    · rw [upd_ne z] at q
      exact a.s _ _ q
  n := fun x q => by
    rw [upd_ne (fun z => by
      obtain ⟨_, y, _⟩ := q
      rw [z, n] at y
      cases y)]
    exact a.n x q
  t := a.t
end
/-! ### things that change: what they hold now, as data -/
inductive Rc where
  /-- a list of these -/
  | lst (ds : List PyData)
  /-- a dict from tuples of ints -/
  | dt (es : List (List Int × PyData))
  /-- the same while it is walked -/
  | fz (o : Obj) (kvs : List (List Key × V)) (es : List (List Int × PyData))
  /-- an object that is being made, its fields -/
  | ob (C dx : Addr) (fs : List (Str × PyData))
def EnH (G : Hp) : List (List Key × V) → List (List Int × PyData) → Prop := Paired fun kv e => kv.1 = e.1.map (fun n => (Sum.inl n : Key)) ∧ Dt G kv.2 e.2
def FsH (G : Hp) : List (Str × V) → List (Str × PyData) → Prop := Paired fun kv e => kv.1 = e.1 ∧ Dt G kv.2 e.2
def RHold (G H : Hp) (a : Addr) : Rc → Prop
  | .lst ds => ∃ xs, H a = some (.lst xs) ∧ DtA G xs ds
  | .dt es => ∃ kvs, H a = some (.dT kvs) ∧ EnH G kvs es
  | .fz o kvs es => H a = some (.frz o (.dT kvs)) ∧ EnH G kvs es
  | .ob C dx fs => ∃ kvs, H a = some (.ins C dx kvs) ∧ FsH G kvs fs
theorem EnH.mono {G G' : Hp} (s : Same G G') : ∀ {kvs : List (List Key × V)} {es : List (List Int × PyData)}, EnH G kvs es → EnH G' kvs es
  | _, _, .nil => .nil
  | _, _, .cons h r => .cons ⟨h.1, Dt.mono s _ h.2⟩ (EnH.mono s r)
theorem FsH.mono {G G' : Hp} (s : Same G G') : ∀ {kvs : List (Str × V)} {es : List (Str × PyData)}, FsH G kvs es → FsH G' kvs es
  | _, _, .nil => .nil
  | _, _, .cons h r => .cons ⟨h.1, Dt.mono s _ h.2⟩ (FsH.mono s r)
theorem RHold.nt {G H : Hp} {a : Addr} : ∀ {r : Rc}, RHold G H a r → NT H a
  | .lst _, ⟨_, e, _⟩ => ⟨_, e, fun _ h => nomatch h⟩
  | .dt _, ⟨_, e, _⟩ => ⟨_, e, fun _ h => nomatch h⟩
  | .fz _ _ _, ⟨e, _⟩ => ⟨_, e, fun _ h => nomatch h⟩
  | .ob _ _ _, ⟨_, e, _⟩ => ⟨_, e, fun _ h => nomatch h⟩
theorem RHold.ne {G H : Hp} {a : Addr} : ∀ {r : Rc}, RHold G H a r → H a ≠ none
  | .lst _, ⟨_, e, _⟩ => by rw [e]; simp
  | .dt _, ⟨_, e, _⟩ => by rw [e]; simp
  | .fz _ _ _, ⟨e, _⟩ => by rw [e]; simp
  | .ob _ _ _, ⟨_, e, _⟩ => by rw [e]; simp
theorem RHold.mono {G G' H H' : Hp} {a : Addr} (s : Same G G') (e : ∀ o, H a = some o → H' a = some o) : ∀ {r : Rc}, RHold G H a r → RHold G' H' a r
  | .lst _, ⟨xs, h, d⟩ => ⟨xs, e _ h, DtA.mono s _ d⟩
  | .dt _, ⟨xs, h, d⟩ => ⟨xs, e _ h, d.mono s⟩
  | .fz _ _ _, ⟨h, d⟩ => ⟨e _ h, d.mono s⟩
  | .ob _ _ _, ⟨xs, h, d⟩ => ⟨xs, e _ h, d.mono s⟩
/-- boxes; other things that change -/
structure Mm where
  B : List Addr
  R : List (Addr × Rc)
structure Mok (M : Mm) (G H : Hp) : Prop where
  box : ∀ b ∈ M.B, BoxAt H b ∧ G b = none
  res : ∀ p ∈ M.R, RHold G H p.1 p.2 ∧ G p.1 = none ∧ p.1 ∉ M.B
theorem Mok.keep {M : Mm} {G H G' H' : Hp} (x : Mok M G H) (a : Gr [] G H G' H') : Mok M G' H' where
  box := fun b hb => by
    obtain ⟨⟨i, j, k, e⟩, n⟩ := x.box b hb
    refine ⟨⟨i, j, k, a.same _ _ e⟩, ?_⟩
    rw [a.n b (NT.lst e)]
    exact n
  res := fun p hp => by
    obtain ⟨h, n, nb⟩ := x.res p hp
    refine ⟨RHold.mono a.g (fun o e => a.same _ _ e) h, ?_, nb⟩
    rw [a.n _ (RHold.nt h)]
    exact n
theorem Mok.nil {G H : Hp} : Mok ⟨[], []⟩ G H := ⟨fun _ h => by simp at h, fun _ h => by simp at h⟩
end Ag

/-! Readings as evaluations. -/
namespace Ag
open PySem L2

section
variable (N : Nv) (M : Mm) (Γ : Cnt)
/-- a reading gives some thing with P -/
def Ev (te : TE) (P : Bd → Prop) : Prop := ∀ (G H : Hp) (σ : L2.St) (Q : VK), Same G H → Env N G σ Γ → Mok M G H → (∀ v d G' H', Gr M.B G H G' H' → Mok M G' H' → P d → Hold N G' v d → Q v H') → te σ H Q
abbrev E1 (te : TE) (b : Bd) : Prop := Ev N M Γ te (fun d => d = b)
def EvT (tt : TT) (c : Bool) : Prop := ∀ (G H : Hp) (σ : L2.St) (Q : Bool → Hp → Prop), Same G H → Env N G σ Γ → Mok M G H → (∀ G' H', Gr M.B G H G' H' → Mok M G' H' → Q c H') → tt σ H Q
/-- a test whose answer hangs on what is drawn -/
def EvTP (tt : TT) (P : Bool → Prop) : Prop := ∀ (G H : Hp) (σ : L2.St) (Q : Bool → Hp → Prop), Same G H → Env N G σ Γ → Mok M G H → (∀ c G' H', Gr M.B G H G' H' → Mok M G' H' → P c → Q c H') → tt σ H Q
abbrev HoldA (G : Hp) : List V → List Bd → Prop := Paired (Hold N G)
def EvA (ta : TA) (P : List Bd → Prop) : Prop := ∀ (G H : Hp) (σ : L2.St) (Q : List V → Hp → Prop), Same G H → Env N G σ Γ → Mok M G H → (∀ vs ds G' H', Gr M.B G H G' H' → Mok M G' H' → P ds → HoldA N G' vs ds → Q vs H') → ta σ H Q
abbrev A1 (ta : TA) (bs : List Bd) : Prop := EvA N M Γ ta (fun d => d = bs)
def RV (r : R2) (x y : Bd) (P : Bd → Prop) : Prop := ∀ (G H : Hp) (u v : V) (Q : VK), Same G H → Hold N G u x → Hold N G v y → (∀ z d G' H', Gr [] G H G' H' → P d → Hold N G' z d → Q z H') → r u v H Q
def RC (r : List V → Hp → VK → Prop) (bs : List Bd) (P : Bd → Prop) : Prop := ∀ (G H : Hp) (vs : List V) (Q : VK), Same G H → HoldA N G vs bs → (∀ z d G' H', Gr [] G H G' H' → P d → Hold N G' z d → Q z H') → r vs H Q
end
section
variable {N : Nv} {M : Mm} {Γ : Cnt} {G H G' H' : Hp}
theorem HoldA.mono (s : Same G G') : ∀ {vs : List V} {bs : List Bd}, HoldA N G vs bs → HoldA N G' vs bs
  | _, _, .nil => .nil
  | _, _, .cons h r => .cons (h.mono s) (HoldA.mono s r)
theorem Ev.imp {te : TE} {P P' : Bd → Prop} (h : Ev N M Γ te P) (i : ∀ d, P d → P' d) : Ev N M Γ te P' := fun G H σ Q s e bx k => h G H σ Q s e bx fun v d G' H' g b p hv => k v d G' H' g b (i d p) hv
theorem Ev.to {te : TE} {b b' : Bd} (h : E1 N M Γ te b) (i : b = b') : E1 N M Γ te b' := i ▸ h
theorem EvT.to {te : TT} {b b' : Bool} (h : EvT N M Γ te b) (i : b = b') : EvT N M Γ te b' := i ▸ h
theorem EvT.p {te : TT} {b : Bool} (h : EvT N M Γ te b) : EvTP N M Γ te (fun c => c = b) := fun G H σ Q s e bx k => h G H σ Q s e bx fun G' H' g b' => k b G' H' g b' rfl
/-- one known place -/
theorem e_var {i : Nat} {b : Bd} (h : Γ[i]? = some (some b)) : E1 N M Γ (tVar i) b := fun G H σ Q s e bx k => by
  obtain ⟨v, h1, h2⟩ := e.at_ i b h
  exact ⟨v, h1, k v b G H (.refl s) bx rfl h2⟩
theorem e_int {i : Int} : E1 N M Γ (tC (.int i)) (.d (.int i)) := fun G H σ Q s e bx k => k _ _ G H (.refl s) bx rfl (Dt.int i)
theorem e_bl {i : Bool} : E1 N M Γ (tC (.bl i)) (.d (.bool i)) := fun G H σ Q s e bx k => k _ _ G H (.refl s) bx rfl (Dt.bl i)
theorem e_str {i : Str} : E1 N M Γ (tC (.str i)) (.d (.str i)) := fun G H σ Q s e bx k => k _ _ G H (.refl s) bx rfl (Dt.str i)
theorem e_non : E1 N M Γ (tC .non) (.d .none) := fun G H σ Q s e bx k => k _ _ G H (.refl s) bx rfl Dt.non
theorem e_val {v : V} : E1 N M Γ (tC v) (.v v) := fun G H σ Q s e bx k => k v _ G H (.refl s) bx rfl rfl
theorem ev_op {r : R2} {ta tb : TE} {P1 P2 P : Bd → Prop} (ha : Ev N M Γ ta P1) (hb : Ev N M Γ tb P2) (hr : ∀ x y, P1 x → P2 y → RV N r x y P) : Ev N M Γ (tOp r ta tb) P := fun G H σ Q s e bx k =>
  ha G H σ _ s e bx fun v1 d1 G1 H1 g1 b1 p1 h1 => hb G1 H1 σ _ g1.s (e.mono g1.g) b1 fun v2 d2 G2 H2 g2 b2 p2 h2 =>
    hr d1 d2 p1 p2 G2 H2 v1 v2 Q g2.s (h1.mono g2.g) h2 fun v d G3 H3 g3 p h => k v d G3 H3 ((g1.trans g2).trans g3.any) (b2.keep g3) p h
theorem e_op {r : R2} {ta tb : TE} {x y z : Bd} (ha : E1 N M Γ ta x) (hb : E1 N M Γ tb y) (hr : RV N r x y (fun d => d = z)) : E1 N M Γ (tOp r ta tb) z := ev_op ha hb fun x' y' e1 e2 => by
  subst e1 e2
  exact hr
theorem ev_un {r : V → Hp → VK → Prop} {ta : TE} {P1 P : Bd → Prop} (ha : Ev N M Γ ta P1) (hr : ∀ x, P1 x → ∀ (G H : Hp) (u : V) (Q : VK), Same G H → Hold N G u x → (∀ z d G' H', Gr [] G H G' H' → P d → Hold N G' z d → Q z H') → r u H Q) : Ev N M Γ (tUn r ta) P := fun G H σ Q s e bx k =>
  ha G H σ _ s e bx fun v1 d1 G1 H1 g1 b1 p1 h1 => hr d1 p1 G1 H1 v1 Q g1.s h1 fun v d G3 H3 g3 p h => k v d G3 H3 (g1.trans g3.any) (b1.keep g3) p h
theorem e_neg {ta : TE} {i : Int} (ha : E1 N M Γ ta (.d (.int i))) : E1 N M Γ (tUn (rU fun i => .int (-i)) ta) (.d (.int (-i))) := ev_un ha fun x hx G H u Q s hu k => by
  subst hx
  rw [hu.int]
  exact ⟨i, rfl, k _ _ G H (.refl s) rfl (Dt.int _)⟩
/-! arguments -/
theorem a_nil : A1 N M Γ tNil [] := fun G H σ Q s e bx k => k [] [] G H (.refl s) bx rfl .nil
theorem ev_cons {te : TE} {tr : TA} {P : Bd → Prop} {PA PB : List Bd → Prop} (h : Ev N M Γ te P) (hr : EvA N M Γ tr PA) (i : ∀ d ds, P d → PA ds → PB (d :: ds)) : EvA N M Γ (tCons te tr) PB := fun G H σ Q s e bx k =>
  h G H σ _ s e bx fun v1 d1 G1 H1 g1 b1 p1 h1 => hr G1 H1 σ _ g1.s (e.mono g1.g) b1 fun vs ds G2 H2 g2 b2 p2 h2 => k (v1 :: vs) (d1 :: ds) G2 H2 (g1.trans g2) b2 (i d1 ds p1 p2) (.cons (h1.mono g2.g) h2)
theorem a_cons {te : TE} {tr : TA} {b : Bd} {bs : List Bd} (h : E1 N M Γ te b) (hr : A1 N M Γ tr bs) : A1 N M Γ (tCons te tr) (b :: bs) := ev_cons h hr fun d ds e1 e2 => by rw [e1, e2]
/-! displays -/
theorem HoldA.data : ∀ {vs : List V} {ds : List PyData}, HoldA N G vs (ds.map Bd.d) → DtA G vs ds
  | [], [], _ => .nil
  | [], _ :: _, h => by cases h
  | _ :: _, [], h => by cases h
  | v :: vs, d :: ds, h => by
    cases h with
    | cons a r => exact .cons a (HoldA.data r)
theorem sz_le {n : Nat} (h : n ≤ 100000) : n ≤ sizeLine := Nat.le_trans h (by decide)
theorem sz_lt {n : Nat} (h : n < 100000) : n < sizeLine := Nat.lt_of_lt_of_le h (by decide)
theorem ev_tup {ta : TA} {PA : List Bd → Prop} {P : Bd → Prop} (h : EvA N M Γ ta PA) (hl : ∀ bs, PA bs → ∃ ds : List PyData, bs = ds.map Bd.d ∧ ds.length ≤ 100000 ∧ P (.d (.tuple ds))) : Ev N M Γ (tTup ta) P := fun G H σ Q s e bx k =>
  h G H σ _ s e bx fun vs bs G1 H1 g1 b1 p1 h1 => by
    obtain ⟨ds, rfl, hz, hp⟩ := hl bs p1
    have hd := h1.data
    refine ⟨by rw [hd.length]; exact sz_le hz, fun p np => ?_⟩
    have g2 := Gr.new (o := HO.tup vs) g1.s np
    exact k _ _ _ _ (g1.trans g2.any) (b1.keep g2) hp (Dt.tup upd_same (DtA.mono g2.g ds hd))
theorem e_tup {ta : TA} {ds : List PyData} (h : A1 N M Γ ta (ds.map Bd.d)) (hl : ds.length ≤ 100000 := by first | decide | exact Nat.le_of_ble_eq_true rfl) : E1 N M Γ (tTup ta) (.d (.tuple ds)) := ev_tup h fun bs e => ⟨ds, e, hl, rfl⟩
theorem ev_lst {ta : TA} {PA : List Bd → Prop} {P : Bd → Prop} (h : EvA N M Γ ta PA) (hl : ∀ bs, PA bs → ∃ ds : List PyData, bs = ds.map Bd.d ∧ ds.length ≤ 100000 ∧ P (.d (.list ds))) : Ev N M Γ (tLst ta) P := fun G H σ Q s e bx k =>
  h G H σ _ s e bx fun vs bs G1 H1 g1 b1 p1 h1 => by
    obtain ⟨ds, rfl, hz, hp⟩ := hl bs p1
    have hd := h1.data
    refine ⟨by rw [hd.length]; exact sz_le hz, fun p np => ?_⟩
    have g2 := Gr.new (o := HO.lst vs) g1.s np
    exact k _ _ _ _ (g1.trans g2.any) (b1.keep g2) hp (Dt.lst upd_same (DtA.mono g2.g ds hd))
theorem e_lst {ta : TA} {ds : List PyData} (h : A1 N M Γ ta (ds.map Bd.d)) (hl : ds.length ≤ 100000 := by first | decide | exact Nat.le_of_ble_eq_true rfl) : E1 N M Γ (tLst ta) (.d (.list ds)) := ev_lst h fun bs e => ⟨ds, e, hl, rfl⟩
/-! calls of built-ins -/
theorem ev_cb {r : List V → Hp → VK → Prop} {ta : TA} {PA : List Bd → Prop} {P : Bd → Prop} (h : EvA N M Γ ta PA) (hr : ∀ bs, PA bs → RC N r bs P) : Ev N M Γ (tCB r ta) P := fun G H σ Q s e bx k =>
  h G H σ _ s e bx fun vs bs G1 H1 g1 b1 p1 h1 => hr bs p1 G1 H1 vs Q g1.s h1 fun v d G3 H3 g3 p hv => k v d G3 H3 (g1.trans g3.any) (b1.keep g3) p hv
theorem e_cb {r : List V → Hp → VK → Prop} {ta : TA} {bs : List Bd} {b : Bd} (h : A1 N M Γ ta bs) (hr : RC N r bs (fun d => d = b)) : E1 N M Γ (tCB r ta) b := ev_cb h fun bs' e => by
  subst e
  exact hr
/-! operators -/
theorem rv_I0 {g : Int → Int → Int} {i j : Int} : RV N (rI0 fun i j => .int (g i j)) (.d (.int i)) (.d (.int j)) (fun d => d = .d (.int (g i j))) := fun G H u v Q s hu hv k => by
  rw [hu.int, hv.int]
  exact ⟨i, j, rfl, rfl, k _ _ G H (.refl s) rfl (Dt.int _)⟩
theorem rv_B0 {g : Int → Int → Bool} {i j : Int} : RV N (rI0 fun i j => .bl (g i j)) (.d (.int i)) (.d (.int j)) (fun d => d = .d (.bool (g i j))) := fun G H u v Q s hu hv k => by
  rw [hu.int, hv.int]
  exact ⟨i, j, rfl, rfl, k _ _ G H (.refl s) rfl (Dt.bl _)⟩
theorem rv_I {C : Int → Int → Prop} {g : Int → Int → Int} {i j : Int} (hc : C i j) : RV N (rI C fun i j => .int (g i j)) (.d (.int i)) (.d (.int j)) (fun d => d = .d (.int (g i j))) := fun G H u v Q s hu hv k => by
  rw [hu.int, hv.int]
  exact ⟨i, j, rfl, rfl, hc, k _ _ G H (.refl s) rfl (Dt.int _)⟩
theorem rv_eqD {x y : PyData} (hx : SeqAt.shaped x = true) (hy : SeqAt.shaped y = true) : RV N (rEqD N.K) (.d x) (.d y) (fun d => d = .d (.bool (PyData.eqv x y))) := fun G H u v Q s hu hv k =>
  ⟨x, y, Dt.dp s x hu, Dt.dp s y hv, hx, hy, k _ _ G H (.refl s) rfl (Dt.bl _)⟩
theorem rv_neD {x y : PyData} (hx : SeqAt.shaped x = true) (hy : SeqAt.shaped y = true) : RV N (rNeD N.K) (.d x) (.d y) (fun d => d = .d (.bool (!PyData.eqv x y))) := fun G H u v Q s hu hv k =>
  ⟨x, y, Dt.dp s x hu, Dt.dp s y hv, hx, hy, k _ _ G H (.refl s) rfl (Dt.bl _)⟩
theorem rv_inD {x : PyData} {ds : List PyData} (hx : SeqAt.shaped x = true) (hy : SeqAt.shaped (.list ds) = true) : RV N (rInD N.K) (.d x) (.d (.list ds)) (fun d => d = .d (.bool (ds.any fun z => PyData.eqv z x))) := fun G H u v Q s hu hv k =>
  ⟨x, ds, Dt.dp s x hu, Dt.dp s _ hv, hx, hy, k _ _ G H (.refl s) rfl (Dt.bl _)⟩
theorem rv_niD {x : PyData} {ds : List PyData} (hx : SeqAt.shaped x = true) (hy : SeqAt.shaped (.list ds) = true) : RV N (rNotInD N.K) (.d x) (.d (.list ds)) (fun d => d = .d (.bool (!ds.any fun z => PyData.eqv z x))) := fun G H u v Q s hu hv k =>
  ⟨x, ds, Dt.dp s x hu, Dt.dp s _ hv, hx, hy, k _ _ G H (.refl s) rfl (Dt.bl _)⟩
theorem rv_isB {a b : Bool} : RV N (fun x y H Q => ∃ a b : Bool, x = .bl a ∧ y = .bl b ∧ Q (.bl (decide (a = b))) H) (.d (.bool a)) (.d (.bool b)) (fun d => d = .d (.bool (decide (a = b)))) := fun G H u v Q s hu hv k => by
  rw [hu.bool, hv.bool]
  exact ⟨a, b, rfl, rfl, k _ _ G H (.refl s) rfl (Dt.bl _)⟩
theorem rv_notB {a b : Bool} : RV N (fun x y H Q => ∃ a b : Bool, x = .bl a ∧ y = .bl b ∧ Q (.bl (!decide (a = b))) H) (.d (.bool a)) (.d (.bool b)) (fun d => d = .d (.bool (!decide (a = b)))) := fun G H u v Q s hu hv k => by
  rw [hu.bool, hv.bool]
  exact ⟨a, b, rfl, rfl, k _ _ G H (.refl s) rfl (Dt.bl _)⟩
theorem rv_ix {ds : List PyData} {i : Int} {j : Nat} {x : PyData} (c : PyData) (hc : c = .tuple ds ∨ c = .list ds) (h : (ixN ds.length i) = some j) (hx : ds[j]? = some x) : RV N (rIx N.K) (.d c) (.d (.int i)) (fun d => d = .d x) := fun G H u v Q s hu hv k => by
  rw [hv.int]
  have key : ∀ {xs : List V}, DtA G xs ds → ∃ v, atI xs i = some v ∧ Dt G v x := fun {xs} r => by
    obtain ⟨v, h1, h2⟩ := r.get hx
    refine ⟨v, ?_, h2⟩
    unfold atI
    rw [r.length, h]
    exact h1
  rcases hc with rfl | rfl
  · have hu := hu.dt
    cases hu with
    | tup e r =>
      obtain ⟨v, h1, h2⟩ := key r
      exact .inr (.inl ⟨_, _, _, v, rfl, rfl, .of (s _ _ e), h1, k _ _ G H (.refl s) rfl h2⟩)
  · have hu := hu.dt
    cases hu with
    | lst e r =>
      obtain ⟨v, h1, h2⟩ := key r
      exact .inl ⟨_, _, _, v, rfl, rfl, .of (s _ _ e), h1, k _ _ G H (.refl s) rfl h2⟩
theorem ixN_nat {n j : Nat} (h : j < n) : ixN n (j : Int) = some j := by
  unfold ixN
  rw [if_pos (by omega), if_pos (by omega)]
  rfl
theorem ixN_last {n : Nat} (h : 0 < n) : ixN n (-1) = some (n - 1) := by
  unfold ixN
  rw [if_neg (by decide), if_pos (by omega)]
  congr 1
  omega
theorem e_ixT {ta tb : TE} {ds : List PyData} {j : Nat} {x : PyData} (ha : E1 N M Γ ta (.d (.tuple ds))) (hb : E1 N M Γ tb (.d (.int (j : Int)))) (hx : ds[j]? = some x) : E1 N M Γ (tOp (rIx N.K) ta tb) (.d x) :=
  e_op ha hb (rv_ix _ (.inl rfl) (ixN_nat (List.getElem?_eq_some_iff.mp hx).1) hx)
theorem e_ixL {ta tb : TE} {ds : List PyData} {j : Nat} {x : PyData} (ha : E1 N M Γ ta (.d (.list ds))) (hb : E1 N M Γ tb (.d (.int (j : Int)))) (hx : ds[j]? = some x) : E1 N M Γ (tOp (rIx N.K) ta tb) (.d x) :=
  e_op ha hb (rv_ix _ (.inr rfl) (ixN_nat (List.getElem?_eq_some_iff.mp hx).1) hx)
theorem e_ixL1 {ta tb : TE} {ds : List PyData} {x : PyData} (ha : E1 N M Γ ta (.d (.list ds))) (hb : E1 N M Γ tb (.d (.int (-1)))) (hx : ds.getLast? = some x) : E1 N M Γ (tOp (rIx N.K) ta tb) (.d x) := by
  have hn : 0 < ds.length := by
    cases ds with
    | nil => simp at hx
    | cons _ _ => exact Nat.succ_pos _
  refine e_op ha hb (rv_ix _ (.inr rfl) (ixN_last hn) ?_)
  rw [← hx, List.getLast?_eq_getElem?]
theorem rv_catA {ds es : List PyData} (hl : ds.length + es.length ≤ 100000) : RV N (rCatA N.K) (.d (.tuple ds)) (.d (.tuple es)) (fun d => d = .d (.tuple (ds ++ es))) := fun G H u v Q s hu hv k => by
  have hu := hu.dt
  have hv := hv.dt
  cases hu with
  | tup e r =>
    cases hv with
    | tup e2 r2 =>
      rename_i a xs b ys
      have l1 := r.length
      have l2 := r2.length
      refine ⟨a, b, xs, ys, rfl, rfl, .of (s _ _ e), .of (s _ _ e2), by rw [l1, l2]; exact sz_le hl, fun hx => ?_, fun hx hy => ?_, fun hx hy p np => ?_⟩
      · subst hx
        cases r
        exact k _ _ G H (.refl s) rfl (Dt.tup e2 r2)
      · subst hy
        cases r2
        rw [List.append_nil] at k
        exact k _ _ G H (.refl s) rfl (Dt.tup e r)
      · have g := Gr.new (o := HO.tup (xs ++ ys)) s np
        exact k _ _ _ _ g rfl (Dt.tup upd_same ((DtA.mono g.g _ r).append (DtA.mono g.g _ r2)))
theorem rv_cat {ds es : List PyData} (hl : ds.length + es.length ≤ 100000) : RV N rCat (.d (.list ds)) (.d (.list es)) (fun d => d = .d (.list (ds ++ es))) := fun G H u v Q s hu hv k => by
  have hu := hu.dt
  have hv := hv.dt
  cases hu with
  | lst e r =>
    cases hv with
    | lst e2 r2 =>
      rename_i a xs b ys
      have l1 := r.length
      have l2 := r2.length
      refine ⟨a, b, xs, ys, rfl, rfl, s _ _ e, s _ _ e2, by rw [l1, l2]; exact sz_le hl, fun p np => ?_⟩
      have g := Gr.new (o := HO.lst (xs ++ ys)) s np
      exact k _ _ _ _ g rfl (Dt.lst upd_same ((DtA.mono g.g _ r).append (DtA.mono g.g _ r2)))
theorem DtA.rep {vs : List V} {ds : List PyData} (h : DtA G vs ds) : ∀ n : Nat, DtA G (List.replicate n vs).flatten (List.replicate n ds).flatten
  | 0 => .nil
  | n + 1 => by
    rw [List.replicate_succ, List.replicate_succ, List.flatten_cons, List.flatten_cons]
    exact h.append (DtA.rep h n)
theorem rv_rep {ds : List PyData} {n : Nat} (hl : ds.length * n ≤ 100000) (hn : n ≤ 100000) : RV N rRep (.d (.list ds)) (.d (.int (n : Int))) (fun d => d = .d (.list (List.replicate n ds).flatten)) := fun G H u v Q s hu hv k => by
  have hu := hu.dt
  cases hu with
  | lst e r =>
    rename_i a xs
    have l1 := r.length
    rw [hv.int]
    refine ⟨a, (n : Int), xs, rfl, rfl, s _ _ e, by omega, by omega, by rw [l1]; exact sz_le hl, fun p np => ?_⟩
    have g := Gr.new (o := HO.lst (List.replicate n xs).flatten) s np
    exact k _ _ _ _ g rfl (Dt.lst upd_same ((DtA.mono g.g _ r).rep n))
/-! tests -/
theorem t_test {te : TE} {c : Bool} (h : E1 N M Γ te (.d (.bool c))) : EvT N M Γ (tTest te) c := fun G H σ Q s e bx k => h G H σ _ s e bx fun v d G1 H1 g1 b1 p1 h1 => by
  subst p1
  exact ⟨c, h1.bool, k G1 H1 g1 b1⟩
theorem tp_test {te : TE} {P : Bd → Prop} {PB : Bool → Prop} (h : Ev N M Γ te P) (i : ∀ d, P d → ∃ c, d = .d (.bool c) ∧ PB c) : EvTP N M Γ (tTest te) PB := fun G H σ Q s e bx k => h G H σ _ s e bx fun v d G1 H1 g1 b1 p1 h1 => by
  obtain ⟨c, rfl, pc⟩ := i d p1
  exact ⟨c, h1.bool, k c G1 H1 g1 b1 pc⟩
theorem t_B {te : TE} {c : Bool} (h : E1 N M Γ te (.d (.bool c))) : EvT N M Γ (tB te) c := t_test h
theorem t_and {t u : TT} {a b : Bool} (h1 : EvT N M Γ t a) (h2 : a = true → EvT N M Γ u b) : EvT N M Γ (tAnd t u) (a && b) := fun G H σ Q s e bx k => h1 G H σ _ s e bx fun G1 H1 g1 b1 => by
  cases a with
  | true =>
    show u σ H1 Q
    exact h2 rfl G1 H1 σ Q g1.s (e.mono g1.g) b1 fun G2 H2 g2 b2 => k G2 H2 (g1.trans g2) b2
  | false => exact k G1 H1 g1 b1
theorem t_or {t u : TT} {a b : Bool} (h1 : EvT N M Γ t a) (h2 : a = false → EvT N M Γ u b) : EvT N M Γ (tOr t u) (a || b) := fun G H σ Q s e bx k => h1 G H σ _ s e bx fun G1 H1 g1 b1 => by
  cases a with
  | false =>
    show u σ H1 Q
    exact h2 rfl G1 H1 σ Q g1.s (e.mono g1.g) b1 fun G2 H2 g2 b2 => k G2 H2 (g1.trans g2) b2
  | true => exact k G1 H1 g1 b1
theorem t_not {t : TT} {a : Bool} (h1 : EvT N M Γ t a) : EvT N M Γ (tNot t) (!a) := fun G H σ Q s e bx k => h1 G H σ _ s e bx fun G1 H1 g1 b1 => k G1 H1 g1 b1
theorem e_and {ta tb : TE} {a b : Bool} (h1 : E1 N M Γ ta (.d (.bool a))) (h2 : a = true → E1 N M Γ tb (.d (.bool b))) : E1 N M Γ (tAndV ta tb) (.d (.bool (a && b))) := fun G H σ Q s e bx k => h1 G H σ _ s e bx fun v d G1 H1 g1 b1 p1 hv => by
  subst p1
  refine ⟨a, hv.bool, ?_⟩
  cases a with
  | true =>
    show tb σ H1 Q
    exact h2 rfl G1 H1 σ Q g1.s (e.mono g1.g) b1 fun v d G2 H2 g2 b2 p h => k v d G2 H2 (g1.trans g2) b2 p h
  | false =>
    show Q (.bl false) H1
    exact k _ _ G1 H1 g1 b1 rfl (Dt.bl _)
theorem e_or {ta tb : TE} {a b : Bool} (h1 : E1 N M Γ ta (.d (.bool a))) (h2 : a = false → E1 N M Γ tb (.d (.bool b))) : E1 N M Γ (tOrV ta tb) (.d (.bool (a || b))) := fun G H σ Q s e bx k => h1 G H σ _ s e bx fun v d G1 H1 g1 b1 p1 hv => by
  subst p1
  refine ⟨a, hv.bool, ?_⟩
  cases a with
  | false =>
    show tb σ H1 Q
    exact h2 rfl G1 H1 σ Q g1.s (e.mono g1.g) b1 fun v d G2 H2 g2 b2 p h => k v d G2 H2 (g1.trans g2) b2 p h
  | true =>
    show Q (.bl true) H1
    exact k _ _ G1 H1 g1 b1 rfl (Dt.bl _)
theorem e_not {ta : TE} {a : Bool} (h1 : E1 N M Γ ta (.d (.bool a))) : E1 N M Γ (tNotV ta) (.d (.bool (!a))) := fun G H σ Q s e bx k => h1 G H σ _ s e bx fun v d G1 H1 g1 b1 p1 hv => by
  subst p1
  exact ⟨a, hv.bool, k _ _ G1 H1 g1 b1 rfl (Dt.bl _)⟩
theorem ev_if {t : TT} {ta tb : TE} {PB : Bool → Prop} {P : Bd → Prop} (h : EvTP N M Γ t PB) (h1 : PB true → Ev N M Γ ta P) (h2 : PB false → Ev N M Γ tb P) : Ev N M Γ (tIf t ta tb) P := fun G H σ Q s e bx k => h G H σ _ s e bx fun c G1 H1 g1 b1 pc => by
  cases c with
  | true =>
    show ta σ H1 Q
    exact h1 pc G1 H1 σ Q g1.s (e.mono g1.g) b1 fun v d G2 H2 g2 b2 p h => k v d G2 H2 (g1.trans g2) b2 p h
  | false =>
    show tb σ H1 Q
    exact h2 pc G1 H1 σ Q g1.s (e.mono g1.g) b1 fun v d G2 H2 g2 b2 p h => k v d G2 H2 (g1.trans g2) b2 p h
theorem e_if {t : TT} {ta tb : TE} {c : Bool} {P : Bd → Prop} (h : EvT N M Γ t c) (h1 : c = true → Ev N M Γ ta P) (h2 : c = false → Ev N M Γ tb P) : Ev N M Γ (tIf t ta tb) P := ev_if h.p (fun e => h1 e.symm) (fun e => h2 e.symm)
end
end Ag

/-! Calls, things that are walked, comprehensions, statements. -/
namespace Ag
open PySem L2

/-! ### promises over data -/
/-- a def: Rl args boxes P: called with these, where these boxes change, it gives some thing with P -/
def Spc (N : Nv) (Rl : List Bd → List Addr → (Bd → Prop) → Prop) : Sp := fun vs H Q _ => ∃ (G : Hp) (bs : List Bd) (B : List Addr) (P : Bd → Prop), Same G H ∧ HoldA N G vs bs ∧ (∀ b ∈ B, BoxAt H b ∧ G b = none) ∧ Rl bs B P ∧
  ∀ v d G' H', Gr B G H G' H' → (∀ b ∈ B, BoxAt H' b) → P d → Hold N G' v d → Q v H'
section
variable {N : Nv} {M : Mm} {Γ : Cnt}
theorem Mok.call {G H G' H' : Hp} {B' : List Addr} (x : Mok M G H) (a : Gr B' G H G' H') (s : ∀ b ∈ B', b ∈ M.B) (hb : ∀ b ∈ B', BoxAt H' b) : Mok M G' H' where
  box := fun b hm => by
    obtain ⟨⟨i, j, k, e⟩, n⟩ := x.box b hm
    refine ⟨?_, by rw [a.n b (NT.lst e)]; exact n⟩
    by_cases q : b ∈ B'
    · exact hb b q
    · exact ⟨i, j, k, a.h _ _ q e⟩
  res := fun p hp => by
    obtain ⟨h, n, nb⟩ := x.res p hp
    refine ⟨RHold.mono a.g (fun o e => a.h _ _ (fun q => nb (s _ q)) e) h, ?_, nb⟩
    rw [a.n _ (RHold.nt h)]
    exact n
theorem ev_call {Rl : List Bd → List Addr → (Bd → Prop) → Prop} {ta : TA} {PA : List Bd → Prop} {P : Bd → Prop} (h : EvA N M Γ ta PA) (hr : ∀ bs, PA bs → ∃ B' P', Rl bs B' P' ∧ (∀ b ∈ B', b ∈ M.B) ∧ ∀ d, P' d → P d) : Ev N M Γ (tCall (Spc N Rl) [] E0 ta) P := fun G H σ Q s e bx k =>
  h G H σ _ s e bx fun vs bs G1 H1 g1 b1 p1 h1 => by
    obtain ⟨B', P', rl, sub, imp⟩ := hr bs p1
    rw [List.append_nil]
    exact ⟨G1, bs, B', P', g1.s, h1, fun b hb => b1.box b (sub b hb), rl, fun v d G2 H2 g2 bb p h => k v d G2 H2 (g1.trans (g2.sub sub)) (b1.call g2 sub bb) (imp d p) h⟩
/-- .. that gives just one thing and changes nothing -/
theorem e_call {Rl : List Bd → List Addr → (Bd → Prop) → Prop} {ta : TA} {bs : List Bd} {b : Bd} (h : A1 N M Γ ta bs) (hr : Rl bs [] (fun d => d = b)) : E1 N M Γ (tCall (Spc N Rl) [] E0 ta) b := ev_call h fun bs' e => by
  subst e
  exact ⟨[], _, hr, fun _ h => by simp at h, fun _ h => h⟩
/-- a call with keywords alone -/
def tKw (m : Nat) (sp : Sp) (gV : List V → List V) (tk : TA) : TE := fun σ H Q => tk σ H fun zs H1 => zs.length = m ∧ sp (gV zs) H1 Q E0
theorem HoldA.length {G : Hp} {vs : List V} {bs : List Bd} (h : HoldA N G vs bs) : vs.length = bs.length := Paired.length h
theorem e_kw1 {Rl : List Bd → List Addr → (Bd → Prop) → Prop} {tk : TA} {b0 b : Bd} (h : A1 N M Γ tk [b0]) (hr : Rl [b0] [] (fun d => d = b)) : E1 N M Γ (tKw 1 (Spc N Rl) (fun zs => zs) tk) b := fun G H σ Q s e bx k =>
  h G H σ _ s e bx fun vs bs G1 H1 g1 b1 p1 h1 => by
    subst p1
    exact ⟨h1.length, G1, _, [], _, g1.s, h1, fun b hb => by simp at hb, hr, fun v d G2 H2 g2 bb p h => k v d G2 H2 (g1.trans g2.any) (b1.keep g2) p h⟩
def swp : List V → List V
  | [a, b] => [b, a]
  | l => l
theorem e_kw2s {Rl : List Bd → List Addr → (Bd → Prop) → Prop} {tk : TA} {b0 b1 b : Bd} (h : A1 N M Γ tk [b1, b0]) (hr : Rl [b0, b1] [] (fun d => d = b)) : E1 N M Γ (tKw 2 (Spc N Rl) swp tk) b := fun G H σ Q s e bx k =>
  h G H σ _ s e bx fun vs bs G1 H1 g1 m1 p1 h1 => by
    subst p1
    cases h1 with
    | cons a r =>
      cases r with
      | cons a2 r2 =>
        cases r2
        exact ⟨rfl, G1, _, [], _, g1.s, .cons a2 (.cons a .nil), fun b hb => by simp at hb, hr, fun v d G2 H2 g2 bb p h => k v d G2 H2 (g1.trans g2.any) (m1.keep g2) p h⟩
end

/-! ### what is walked -/
/-- the turns of J give xs, the known part being G1 at least -/
def Itx (N : Nv) (M : Mm) (J : It) (G1 : Hp) (xs : List Bd) : Prop := ∀ G H, Same G1 G → Same G H → Mok M G H →
  J.stop xs.length H ∧ ∀ (i : Nat) (x : Bd), xs[i]? = some x → J.go i H ∧ ∀ u H', J.yld i H u H' → ∃ G', Gr [] G H G' H' ∧ Hold N G' u x
def EvI (N : Nv) (M : Mm) (Γ : Cnt) (wi : TI) (xs : List Bd) : Prop := ∀ (G H : Hp) (σ : L2.St) (R : It → Hp → Prop), Same G H → Env N G σ Γ → Mok M G H →
  (∀ J G' H', Gr M.B G H G' H' → Mok M G' H' → Itx N M J G' xs → R J H') → wi σ H R
/-- .. whatever changes meanwhile -/
def EvJ (N : Nv) (M : Mm) (Γ : Cnt) (wi : TI) (xs : List Bd) : Prop := ∀ (G H : Hp) (σ : L2.St) (R : It → Hp → Prop), Same G H → Env N G σ Γ → Mok M G H →
  (∀ J G' H', Gr M.B G H G' H' → Mok M G' H' → (∀ M', Itx N M' J G' xs) → R J H') → wi σ H R
theorem EvJ.i {N : Nv} {M : Mm} {Γ : Cnt} {wi : TI} {xs : List Bd} (h : EvJ N M Γ wi xs) : EvI N M Γ wi xs := fun G H σ R s e bx k => h G H σ R s e bx fun J G' H' g m q => k J G' H' g m (q M)
section
variable {N : Nv} {M : Mm} {Γ : Cnt}
theorem get_map_d {ds : List PyData} {i : Nat} {x : Bd} (h : (ds.map Bd.d)[i]? = some x) : ∃ d, ds[i]? = some d ∧ x = .d d := by
  rw [List.getElem?_map] at h
  cases e : ds[i]? with
  | none =>
    rw [e] at h
    cases h
  | some d =>
    rw [e] at h
    exact ⟨d, rfl, (Option.some.inj h).symm⟩
theorem itx_tup {a : Addr} {G1 : Hp} {ds : List PyData} (h : Dt G1 (.ref a) (.tuple ds)) : Itx N M (Itt N.K a) G1 (ds.map Bd.d) := fun G H s1 s2 _ => by
  cases h with
  | tup e r =>
    rename_i vs
    have hS : SqT N.K H a vs := .of (s2 _ _ (s1 _ _ e))
    refine ⟨⟨_, hS, by rw [r.length]; simp⟩, fun i x hx => ?_⟩
    obtain ⟨d, hd, rfl⟩ := get_map_d hx
    obtain ⟨v, h1, h2⟩ := r.get hd
    refine ⟨⟨_, v, hS, h1⟩, fun u H' y => ?_⟩
    obtain ⟨rfl, q⟩ := y
    have e1 : v = u := Option.some.inj (h1.symm.trans (q _ hS))
    subst e1
    exact ⟨G, .refl s2, Dt.mono s1 _ h2⟩
theorem itx_lst {a : Addr} {G1 : Hp} {ds : List PyData} (h : Dt G1 (.ref a) (.list ds)) : Itx N M (Itl N.K a) G1 (ds.map Bd.d) := fun G H s1 s2 _ => by
  cases h with
  | lst e r =>
    rename_i vs
    have hS : SqL N.K H a vs := .of (s2 _ _ (s1 _ _ e))
    refine ⟨⟨_, hS, by rw [r.length]; simp⟩, fun i x hx => ?_⟩
    obtain ⟨d, hd, rfl⟩ := get_map_d hx
    obtain ⟨v, h1, h2⟩ := r.get hd
    refine ⟨⟨_, v, hS, h1⟩, fun u H' y => ?_⟩
    obtain ⟨rfl, q⟩ := y
    have e1 : v = u := Option.some.inj (h1.symm.trans (q _ hS))
    subst e1
    exact ⟨G, .refl s2, Dt.mono s1 _ h2⟩
theorem i_tup {tl : TE} {ds : List PyData} (h : E1 N M Γ tl (.d (.tuple ds))) : EvJ N M Γ (iTup N.K tl) (ds.map Bd.d) := fun G H σ R s e bx k => h G H σ _ s e bx fun v d G1 H1 g1 b1 p1 h1 => by
  subst p1
  have h2 := h1.dt
  cases h2 with
  | tup e2 r => exact ⟨_, rfl, ⟨_, .of (g1.s _ _ e2)⟩, k _ G1 H1 g1 b1 fun _ => itx_tup (Dt.tup e2 r)⟩
theorem i_lst {tl : TE} {ds : List PyData} (h : E1 N M Γ tl (.d (.list ds))) : EvJ N M Γ (iList N.K tl) (ds.map Bd.d) := fun G H σ R s e bx k => h G H σ _ s e bx fun v d G1 H1 g1 b1 p1 h1 => by
  subst p1
  have h2 := h1.dt
  cases h2 with
  | lst e2 r => exact ⟨_, rfl, ⟨_, .of (g1.s _ _ e2)⟩, k _ G1 H1 g1 b1 fun _ => itx_lst (Dt.lst e2 r)⟩
/-- lo, lo + 1, .. -/
def rgD (lo : Int) (n : Nat) : List Bd := (List.range n).map fun i => .d (.int (lo + (i : Nat)))
theorem rgD_len (lo : Int) (n : Nat) : (rgD lo n).length = n := by
  unfold rgD
  rw [List.length_map, List.length_range]
theorem rgD_get {lo : Int} {n i : Nat} {x : Bd} (h : (rgD lo n)[i]? = some x) : i < n ∧ x = .d (.int (lo + (i : Nat))) := by
  have hi : i < n := by
    have := (List.getElem?_eq_some_iff.mp h).1
    rwa [rgD_len] at this
  unfold rgD at h
  rw [List.getElem?_map, List.getElem?_range hi] at h
  exact ⟨hi, (Option.some.inj h).symm⟩
theorem itx_rg {G1 : Hp} {lo : Int} {n : Nat} : Itx N M (Itr lo n) G1 (rgD lo n) := fun G H s1 s2 _ =>
  ⟨by rw [rgD_len]; exact Nat.le_refl _, fun i x hx => by
    obtain ⟨hi, rfl⟩ := rgD_get hx
    refine ⟨hi, fun u H' y => ?_⟩
    obtain ⟨rfl, rfl⟩ := y
    exact ⟨G, .refl s2, Dt.int _⟩⟩
theorem vals_one {G : Hp} {vs : List V} {b : Bd} (h : HoldA N G vs [b]) : ∃ v, vs = [v] ∧ Hold N G v b := by
  cases h with
  | cons a r =>
    cases r
    exact ⟨_, rfl, a⟩
theorem vals_two {G : Hp} {vs : List V} {b c : Bd} (h : HoldA N G vs [b, c]) : ∃ v u, vs = [v, u] ∧ Hold N G v b ∧ Hold N G u c := by
  cases h with
  | cons a r =>
    obtain ⟨u, rfl, h2⟩ := vals_one r
    exact ⟨_, u, rfl, a, h2⟩
theorem i_rg1 {ta : TA} {n : Nat} (h : A1 N M Γ ta [.d (.int (n : Int))]) (hn : n ≤ 1000000000) : EvJ N M Γ (iRng1 ta) (rgD 0 n) := fun G H σ R s e bx k => h G H σ _ s e bx fun vs bs G1 H1 g1 b1 p1 h1 => by
  subst p1
  obtain ⟨v, rfl, h2⟩ := vals_one h1
  rw [h2.int]
  exact ⟨(n : Int), rfl, by omega, by omega, k _ G1 H1 g1 b1 fun _ => (by rw [Int.toNat_natCast]; exact itx_rg)⟩
theorem i_rg2 {ta : TA} {lo hi : Nat} (h : A1 N M Γ ta [.d (.int (lo : Int)), .d (.int (hi : Int))]) (h1 : lo ≤ 1000000000) (h2 : hi ≤ 1000000000) : EvJ N M Γ (iRng2 ta) (rgD (lo : Int) (hi - lo)) := fun G H σ R s e bx k => h G H σ _ s e bx fun vs bs G1 H1 g1 b1 p1 h1 => by
  subst p1
  obtain ⟨v, u, rfl, q1, q2⟩ := vals_two h1
  rw [q1.int, q2.int]
  refine ⟨(lo : Int), (hi : Int), rfl, ⟨by omega, by omega, by omega, by omega⟩, k _ G1 H1 g1 b1 fun _ => ?_⟩
  have e1 : ((hi : Int) - (lo : Int)).toNat = hi - lo := by omega
  rw [e1]
  exact itx_rg
/-- pairs (i, x) -/
def enD (ds : List PyData) : List Bd := ds.mapIdx fun i d => .d (.tuple [.int (i : Nat), d])
theorem enD_get {ds : List PyData} {i : Nat} {x : Bd} (h : (enD ds)[i]? = some x) : ∃ d, ds[i]? = some d ∧ x = .d (.tuple [.int (i : Nat), d]) := by
  unfold enD at h
  rw [List.getElem?_mapIdx] at h
  cases e : ds[i]? with
  | none =>
    rw [e] at h
    cases h
  | some d =>
    rw [e] at h
    exact ⟨d, rfl, (Option.some.inj h).symm⟩
theorem enD_len (ds : List PyData) : (enD ds).length = ds.length := by
  unfold enD
  rw [List.length_mapIdx]
theorem itx_en {a : Addr} {G1 : Hp} {ds : List PyData} (h : Dt G1 (.ref a) (.list ds)) : Itx N M (Ite N.K a) G1 (enD ds) := fun G H s1 s2 _ => by
  cases h with
  | lst e r =>
    rename_i vs
    have hS : SqL N.K H a vs := .of (s2 _ _ (s1 _ _ e))
    refine ⟨⟨_, hS, by rw [r.length, enD_len]; exact Nat.le_refl _⟩, fun i x hx => ?_⟩
    obtain ⟨d, hd, rfl⟩ := enD_get hx
    obtain ⟨v, h1, h2⟩ := r.get hd
    refine ⟨⟨_, v, hS, h1⟩, fun u H' y => ?_⟩
    obtain ⟨T, x, rfl, nT, rfl, q⟩ := y
    have e1 : v = x := Option.some.inj (h1.symm.trans (q _ hS))
    subst e1
    have g := Gr.new (o := HO.tup [.int (i : Nat), v]) s2 nT
    exact ⟨_, g, Dt.tup upd_same (.cons (.int _) (.cons (Dt.mono (s1.trans g.g) _ h2) .nil))⟩
theorem i_en {ta : TA} {ds : List PyData} (h : A1 N M Γ ta [.d (.list ds)]) : EvJ N M Γ (iEnum N.K ta) (enD ds) := fun G H σ R s e bx k => h G H σ _ s e bx fun vs bs G1 H1 g1 b1 p1 h1 => by
  subst p1
  obtain ⟨v, rfl, h2⟩ := vals_one h1
  have h3 := h2.dt
  cases h3 with
  | lst e2 r => exact ⟨_, _, rfl, .of (g1.s _ _ e2), k _ G1 H1 g1 b1 fun _ => itx_en (Dt.lst e2 r)⟩
/-- two walked together, of one kind -/
def zpD (ds es : List PyData) : List Bd := List.zipWith (fun d e => .d (.tuple [d, e])) ds es
theorem zpD_get {ds es : List PyData} {i : Nat} {x : Bd} (h : (zpD ds es)[i]? = some x) : ∃ d e, ds[i]? = some d ∧ es[i]? = some e ∧ x = .d (.tuple [d, e]) := by
  unfold zpD at h
  rw [List.getElem?_zipWith] at h
  cases e1 : ds[i]? with
  | none =>
    rw [e1] at h
    cases h
  | some d =>
    cases e2 : es[i]? with
    | none =>
      rw [e1, e2] at h
      cases h
    | some e =>
      rw [e1, e2] at h
      exact ⟨d, e, rfl, rfl, (Option.some.inj h).symm⟩
theorem i_zip {ta : TA} {c c2 : PyData} {ds es : List PyData} (h : A1 N M Γ ta [.d c, .d c2]) (hc : (c = .list ds ∧ c2 = .list es) ∨ (c = .tuple ds ∧ c2 = .tuple es)) : EvJ N M Γ (RZ.iZipA N.K ta) (zpD ds es) := fun G H σ R s e bx k => h G H σ _ s e bx fun vs bs G1 H1 g1 b1 p1 h1 => by
  subst p1
  obtain ⟨v, u, rfl, q1, q2⟩ := vals_two h1
  have q1 := q1.dt
  have q2 := q2.dt
  rcases hc with ⟨rfl, rfl⟩ | ⟨rfl, rfl⟩
  · cases q1 with
    | lst e1 r1 =>
      cases q2 with
      | lst e2 r2 =>
        refine ⟨_, _, _, _, rfl, .inl ⟨.of (g1.s _ _ e1), .of (g1.s _ _ e2), k _ G1 H1 g1 b1 fun _ G H s1 s2 _ => ?_⟩⟩
        have hS := SqL.of (K := N.K) (s2 _ _ (s1 _ _ e1))
        have hT := SqL.of (K := N.K) (s2 _ _ (s1 _ _ e2))
        refine ⟨⟨_, _, hS, hT, by rw [r1.length, r2.length]; unfold zpD; rw [List.length_zipWith]; omega⟩, fun i x hx => ?_⟩
        obtain ⟨d, e, hd, he, rfl⟩ := zpD_get hx
        obtain ⟨v, h1, h2⟩ := r1.get hd
        obtain ⟨v', h1', h2'⟩ := r2.get he
        refine ⟨⟨_, _, v, v', hS, hT, h1, h1'⟩, fun u H' y => ?_⟩
        obtain ⟨T, x, x', rfl, nT, rfl, q, q'⟩ := y
        have e1 : v = x := Option.some.inj (h1.symm.trans (q _ hS))
        have e2 : v' = x' := Option.some.inj (h1'.symm.trans (q' _ hT))
        subst e1 e2
        have g := Gr.new (o := HO.tup [v, v']) s2 nT
        exact ⟨_, g, Dt.tup upd_same (.cons (Dt.mono (s1.trans g.g) _ h2) (.cons (Dt.mono (s1.trans g.g) _ h2') .nil))⟩
  · cases q1 with
    | tup e1 r1 =>
      cases q2 with
      | tup e2 r2 =>
        refine ⟨_, _, _, _, rfl, .inr ⟨.of (g1.s _ _ e1), .of (g1.s _ _ e2), k _ G1 H1 g1 b1 fun _ G H s1 s2 _ => ?_⟩⟩
        have hS := SqT.of (K := N.K) (s2 _ _ (s1 _ _ e1))
        have hT := SqT.of (K := N.K) (s2 _ _ (s1 _ _ e2))
        refine ⟨⟨_, _, hS, hT, by rw [r1.length, r2.length]; unfold zpD; rw [List.length_zipWith]; omega⟩, fun i x hx => ?_⟩
        obtain ⟨d, e, hd, he, rfl⟩ := zpD_get hx
        obtain ⟨v, h1, h2⟩ := r1.get hd
        obtain ⟨v', h1', h2'⟩ := r2.get he
        refine ⟨⟨_, _, v, v', hS, hT, h1, h1'⟩, fun u H' y => ?_⟩
        obtain ⟨T, x, x', rfl, nT, rfl, q, q'⟩ := y
        have e1 : v = x := Option.some.inj (h1.symm.trans (q _ hS))
        have e2 : v' = x' := Option.some.inj (h1'.symm.trans (q' _ hT))
        subst e1 e2
        have g := Gr.new (o := HO.tup [v, v']) s2 nT
        exact ⟨_, g, Dt.tup upd_same (.cons (Dt.mono (s1.trans g.g) _ h2) (.cons (Dt.mono (s1.trans g.g) _ h2') .nil))⟩
end

/-! ### targets -/
theorem wipe_len (σ : L2.St) (vs : List Nat) : (wipe σ vs).length = σ.length := wipe_length σ vs
/-- a target that takes x: what is known of the names behind it -/
def GT (N : Nv) (vs : List Nat) (g : TG) (x : Bd) (Γ Γ' : Cnt) : Prop := ∀ (G H : Hp) (σ : L2.St) (u : V) (Q : L2.St → Hp → Prop), Same G H → Env N G σ Γ → Hold N G u x → (∀ σ', Env N G σ' Γ' → wipe σ' vs = wipe σ vs → Q σ' H) → g u σ H Q
section
variable {N : Nv} {Γ : Cnt}
theorem g_name {j : Nat} {x : Bd} : GT N [j] (gName j) x Γ (Γ.set j (some x)) := fun G H σ u Q s e h k => k _ (e.set j h) (by
  show (σ.set j (some u)).set j none = σ.set j none
  rw [List.set_set])
theorem g_two {i j : Nat} {x y : PyData} : GT N [i, j] (gTup N.K 2 (gCons (gName i) (gCons (gName j) gNil))) (.d (.tuple [x, y])) Γ ((Γ.set i (some (.d x))).set j (some (.d y))) := fun G H σ u Q s e h k => by
  have h := h.dt
  cases h with
  | tup e2 r =>
    cases r with
    | cons a r =>
      cases r with
      | cons b r =>
        cases r
        rename_i p v1 v2
        refine ⟨_, _, rfl, .of (s _ _ e2), rfl, _, _, rfl, _, _, rfl, rfl, k _ ((e.set i (b := .d x) a).set j (b := .d y) b) ?_⟩
        show ((((σ.set i (some v1)).set j (some v2)).set j none).set i none) = (σ.set j none).set i none
        rw [List.set_set]
        by_cases q : i = j
        · subst q
          rw [List.set_set, List.set_set, List.set_set]
        · rw [List.set_comm _ _ (fun z => q z), List.set_set]
theorem wipe_set_none {σ : L2.St} (j : Nat) : ∀ vs : List Nat, wipe (σ.set j none) vs = (wipe σ vs).set j none
  | [] => rfl
  | v :: vs => by
    show (wipe (σ.set j none) vs).set v none = ((wipe σ vs).set v none).set j none
    rw [wipe_set_none j vs]
    by_cases q : j = v
    · subst q
      rfl
    · rw [List.set_comm _ _ q]
theorem wipe_wipe (σ : L2.St) : ∀ vs : List Nat, wipe (wipe σ vs) vs = wipe σ vs
  | [] => rfl
  | v :: vs => by
    show (wipe ((wipe σ vs).set v none) vs).set v none = (wipe σ vs).set v none
    rw [wipe_set_none, wipe_wipe σ vs, List.set_set]
end

/-! ### list comprehensions -/
section
variable {N : Nv} {M : Mm} {Γ : Cnt}
theorem paired_snoc {α β : Type} {F : α → β → Prop} : ∀ {l : List α} {m : List β} {a : α} {b : β}, Paired F l m → F a b → Paired F (l ++ [a]) (m ++ [b])
  | [], [], _, _, .nil, h => .cons h .nil
  | _ :: _, _ :: _, _, _, .cons r t, h => .cons r (paired_snoc t h)
theorem filter_take {α : Type} (f : α → Bool) {xs : List α} {i : Nat} {x : α} (h : xs[i]? = some x) : (xs.take (i + 1)).filter f = (xs.take i).filter f ++ (if f x = true then [x] else []) := by
  rw [List.take_add_one, h, List.filter_append]
  congr 1
  show List.filter f [x] = _
  cases q : f x <;> simp [q]
/-- [elt for target in .. if test]: what is kept, what is made of it -/
theorem ev_lc {wi : TI} {g : TG} {tt : TT} {te : TE} {vs : List Nat} {xs : List Bd} (Γx : Bd → Cnt) (f : Bd → Bool) (Pe : Bd → PyData → Prop) (h : EvI N M Γ wi xs) (hl : xs.length ≤ 90000)
    (hg : ∀ x ∈ xs, GT N vs g x (wipeG Γ vs) (Γx x)) (ht : ∀ x ∈ xs, EvT N M (Γx x) tt (f x)) (he : ∀ x ∈ xs, f x = true → Ev N M (Γx x) te (fun d => ∃ e, d = .d e ∧ Pe x e)) :
    Ev N M Γ (tLc wi g tt te vs) (fun d => ∃ ys, d = .d (.list ys) ∧ Paired Pe (xs.filter f) ys) := fun G H σ Q s e bx k => by
  refine h G H σ _ s e bx fun J G1 H1 g1 m1 hJ => fun D nD => ?_
  let W : Nat → Hp → Prop := fun i H' => ∃ G' ys zs, Gr M.B G1 H1 G' H' ∧ Mok M G' H' ∧ G' D = none ∧ H' D = some (.lst zs) ∧ DtA G' zs ys ∧ Paired Pe ((xs.take i).filter f) ys ∧ zs.length ≤ i ∧ i ≤ xs.length
  have fr : D ∉ M.B := fun q => by
    obtain ⟨⟨_, _, _, z⟩, _⟩ := m1.box D q
    rw [nD] at z
    cases z
  have frR : ∀ p ∈ M.R, p.1 ≠ D := fun p hp q => by
    have z := RHold.ne (m1.res p hp).1
    rw [q] at z
    exact z nD
  refine ⟨fun i m H' => m = xs.length - i ∧ W i H', ⟨_, rfl, G1, [], [], (Gr.newM g1.s nD).any, m1.keep (Gr.newM g1.s nD), ?_, upd_same, .nil, .nil, Nat.le_refl _, Nat.zero_le _⟩, ?_⟩
  · cases q : G1 D with
    | none => rfl
    | some o =>
      rw [g1.s _ _ q] at nD
      cases nD
  · rintro i m H' ⟨rfl, G', ys, zs, g2, m2, gD, hD, hz, hp, hzl, hi⟩
    obtain ⟨stop, go⟩ := hJ G' H' g2.g g2.s m2
    by_cases hlt : i < xs.length
    · have hx : xs[i]? = some xs[i] := List.getElem?_eq_getElem hlt
      have hm : xs[i] ∈ xs := List.getElem_mem hlt
      obtain ⟨gi, yi⟩ := go i _ hx
      refine .inr ⟨gi, W (i + 1), fun H2 w => ⟨_, by omega, rfl, w⟩, fun u H2 y => ?_⟩
      obtain ⟨G2, g3, hu⟩ := yi u H2 y
      have m3 := m2.keep g3
      have nGD : ∀ {G H G' H' : Hp} {B : List Addr}, Gr B G H G' H' → G D = none → NT H D → G' D = none := fun g a b => by rw [g.n D b]; exact a
      have n2 : G2 D = none := nGD g3 gD (NT.lst hD)
      have hD2 : H2 D = some (.lst zs) := g3.same _ _ hD
      have env2 : Env N G2 (wipe σ vs) (wipeG Γ vs) := (e.mono ((g1.g.trans g2.g).trans g3.g)).wipe vs
      refine hg _ hm G2 H2 _ u _ g3.s env2 hu fun σ2 e2 hw => ⟨hw.trans (wipe_wipe σ vs), ?_⟩
      refine ht _ hm G2 H2 σ2 _ g3.s e2 m3 fun G3 H3 g4 m4 => ?_
      have n3 : G3 D = none := nGD g4 n2 (NT.lst hD2)
      have hD3 : H3 D = some (.lst zs) := g4.h _ _ fr hD2
      have gg : Gr M.B G1 H1 G3 H3 := (g2.trans g3.any).trans g4
      have hz3 : DtA G3 zs ys := DtA.mono (g3.g.trans g4.g) _ hz
      cases hf : f xs[i] with
      | false =>
        show W (i + 1) H3
        refine ⟨G3, ys, zs, gg, m4, n3, hD3, hz3, ?_, by omega, hlt⟩
        rw [filter_take f hx, hf]
        simpa using hp
      | true =>
        show te σ2 H3 _
        refine he _ hm hf G3 H3 σ2 _ g4.s (e2.mono g4.g) m4 fun v d G4 H4 g5 m5 pd hv => ?_
        obtain ⟨y, rfl, py⟩ := pd
        have n4 : G4 D = none := nGD g5 n3 (NT.lst hD3)
        have hD4 : H4 D = some (.lst zs) := g5.h _ _ fr hD3
        refine ⟨zs, hD4, sz_lt (by omega), G4, ys ++ [y], zs ++ [v], (gg.trans g5).step (Gr.wr g5.s n4 (fun _ h => nomatch h)) (fun x hx => .inr (by
          simp at hx
          subst hx
          exact nD)), ?_, n4, upd_same, (DtA.mono g5.g _ hz3).append (DtA.one hv), ?_, by rw [List.length_append]; simp; omega, hlt⟩
        · refine ⟨fun b hb => ?_, fun p hp => ?_⟩
          · obtain ⟨⟨a1, a2, a3, z⟩, n⟩ := m5.box b hb
            exact ⟨⟨a1, a2, a3, by rw [upd_ne (fun q => fr (by rw [← q]; exact hb))]; exact z⟩, n⟩
          · obtain ⟨r, n, nb⟩ := m5.res p hp
            exact ⟨RHold.mono (Same.refl _) (fun o z => by rw [upd_ne (frR p hp)]; exact z) r, n, nb⟩
        · rw [filter_take f hx, hf]
          exact paired_snoc hp py
    · have hil : i = xs.length := by omega
      refine .inl ⟨hil ▸ stop, k _ (.d (.list ys)) (upd G' D (.lst zs)) H' (g1.trans (g2.freeze nD gD hD)) ?_ ⟨ys, rfl, ?_⟩ (Dt.lst upd_same (DtA.mono (fun a o q => by rw [upd_ne (ne_of_none q gD)]; exact q) _ hz))⟩
      · refine ⟨fun b hb => ?_, fun p hp => ?_⟩
        · obtain ⟨z, n⟩ := m2.box b hb
          exact ⟨z, by rw [upd_ne (fun q => fr (by rw [← q]; exact hb))]; exact n⟩
        · obtain ⟨r, n, nb⟩ := m2.res p hp
          exact ⟨RHold.mono (fun a o q => by rw [upd_ne (ne_of_none q gD)]; exact q) (fun o z => z) r, by rw [upd_ne (frR p hp)]; exact n, nb⟩
      · rw [hil, List.take_length] at hp
        exact hp
theorem paired_map {α β : Type} {F : α → β → Prop} {m : α → β} (hF : ∀ a b, F a b → b = m a) : ∀ {l : List α} {ys : List β}, Paired F l ys → ys = l.map m
  | [], [], .nil => rfl
  | _ :: _, _ :: _, .cons r t => by rw [hF _ _ r, paired_map hF t, List.map_cons]
/-- .. each thing told -/
theorem e_lc {wi : TI} {g : TG} {tt : TT} {te : TE} {vs : List Nat} {xs : List Bd} (Γx : Bd → Cnt) (f : Bd → Bool) (m : Bd → PyData) (h : EvI N M Γ wi xs) (hl : xs.length ≤ 90000)
    (hg : ∀ x ∈ xs, GT N vs g x (wipeG Γ vs) (Γx x)) (ht : ∀ x ∈ xs, EvT N M (Γx x) tt (f x)) (he : ∀ x ∈ xs, f x = true → E1 N M (Γx x) te (.d (m x))) :
    E1 N M Γ (tLc wi g tt te vs) (.d (.list ((xs.filter f).map m))) :=
  (ev_lc (Pe := fun x e => e = m x) Γx f h hl hg ht fun x hx hf => (he x hx hf).imp fun d q => ⟨m x, q, rfl⟩).imp fun d ⟨ys, e, p⟩ => by rw [e, paired_map (fun a b q => q) p]
theorem t_yes : EvT N M Γ tYes true := fun G H σ Q s e bx k => k G H (.refl s) bx
theorem filter_yes {α : Type} (l : List α) : l.filter (fun _ => true) = l := List.filter_eq_self.mpr fun _ _ => rfl
end
end Ag

/-! Statements: a state by what is known, and the rules. -/
namespace Ag
open PySem L2

/-- what stays the same through a def: the boxes that it may change, the known part and the heap at its entry -/
structure Fx where
  N : Nv
  B0 : List Addr
  G0 : Hp
  H0 : Hp
structure Sta (F : Fx) (L : Hp) (M : Mm) (G H : Hp) (σ : L2.St) (Γ : Cnt) : Prop where
  gr : Gr F.B0 F.G0 F.H0 G H
  low : Same L G
  env : Env F.N G σ Γ
  mok : Mok M G H
  bm : ∀ b ∈ M.B, b ∈ F.B0 ∨ F.H0 b = none
  rm : ∀ p ∈ M.R, F.H0 p.1 = none
  nd : (M.R.map (·.1)).Nodup
section
variable {F : Fx} {L L' : Hp} {M : Mm} {G H G' H' : Hp} {σ : L2.St} {Γ Γ' : Cnt}
theorem Sta.s (S : Sta F L M G H σ Γ) : Same G H := S.gr.s
theorem Sta.step (S : Sta F L M G H σ Γ) (g : Gr M.B G H G' H') (m : Mok M G' H') : Sta F L M G' H' σ Γ :=
  ⟨S.gr.step g (fun x hx => S.bm x hx), S.low.trans g.g, S.env.mono g.g, m, S.bm, S.rm, S.nd⟩
theorem Sta.pure (S : Sta F L M G H σ Γ) (g : Gr [] G H G' H') : Sta F L M G' H' σ Γ := S.step g.any (S.mok.keep g)
theorem Sta.lower (S : Sta F L M G H σ Γ) (l : Same L' L) : Sta F L' M G H σ Γ := ⟨S.gr, l.trans S.low, S.env, S.mok, S.bm, S.rm, S.nd⟩
theorem Sta.raise (S : Sta F L M G H σ Γ) : Sta F G M G H σ Γ := ⟨S.gr, Same.refl _, S.env, S.mok, S.bm, S.rm, S.nd⟩
theorem Sta.set (S : Sta F L M G H σ Γ) (j : Nat) {v : V} {b : Bd} (h : Hold F.N G v b) : Sta F L M G H (σ.set j (some v)) (Γ.set j (some b)) := ⟨S.gr, S.low, S.env.set j h, S.mok, S.bm, S.rm, S.nd⟩
theorem Sta.weak (S : Sta F L M G H σ Γ) (hl : Γ'.length = Γ.length) (h : ∀ (i : Nat) (b : Bd), Γ'[i]? = some (some b) → Γ[i]? = some (some b)) : Sta F L M G H σ Γ' := ⟨S.gr, S.low, S.env.weak hl h, S.mok, S.bm, S.rm, S.nd⟩
/-- a name's thing is forgotten -/
theorem Sta.forget (S : Sta F L M G H σ Γ) (j : Nat) : Sta F L M G H σ (Γ.set j none) := S.weak (by rw [List.length_set]) fun i b e => by
  by_cases q : j = i
  · subst q
    by_cases l : j < Γ.length
    · rw [List.getElem?_set_self l] at e
      cases e
    · rw [List.getElem?_eq_none (by rw [List.length_set]; omega)] at e
      cases e
  · rwa [List.getElem?_set_ne q] at e
theorem nd_at {R : List (Addr × Rc)} (nd : (R.map (·.1)).Nodup) {i j : Nat} {p q : Addr × Rc} (hi : R[i]? = some p) (hj : R[j]? = some q) (e : p.1 = q.1) : i = j := by
  have h1 : (R.map (·.1))[i]? = some p.1 := by rw [List.getElem?_map, hi]; rfl
  have h2 : (R.map (·.1))[j]? = some p.1 := by rw [List.getElem?_map, hj, e]; rfl
  exact nd_ix nd h1 h2
/-- a changed thing: what it holds now -/
theorem Sta.write {l : Addr} {r r' : Rc} {j : Nat} {o : HO} (S : Sta F L M G H σ Γ) (hR : M.R[j]? = some (l, r)) (h : RHold G (upd H l o) l r') : Sta F L ⟨M.B, M.R.set j (l, r')⟩ G (upd H l o) σ Γ := by
  have hm := List.mem_of_getElem? hR
  obtain ⟨h0, h1, h2⟩ := S.mok.res _ hm
  refine ⟨S.gr.step (Gr.wr S.s h1 (fun xs q => by
    obtain ⟨u, z, y⟩ := RHold.nt h
    rw [upd_same] at z
    cases z
    exact y xs q)) (fun x hx => .inr (by simp at hx; subst hx; exact S.rm _ hm)), S.low, S.env, ⟨fun b hb => ?_, fun p hp => ?_⟩, S.bm, fun p hp => ?_, ?_⟩
  · obtain ⟨⟨x, y, z, e⟩, n⟩ := S.mok.box b hb
    exact ⟨⟨x, y, z, by rw [upd_ne (fun q => h2 (by rw [← q]; exact hb))]; exact e⟩, n⟩
  · obtain ⟨i, hi⟩ := List.mem_iff_getElem?.mp hp
    have hi : (M.R.set j (l, r'))[i]? = some p := hi
    by_cases q : j = i
    · subst q
      have hl : j < M.R.length := (List.getElem?_eq_some_iff.mp hR).1
      rw [List.getElem?_set_self hl] at hi
      cases hi
      exact ⟨h, h1, h2⟩
    · rw [List.getElem?_set_ne q] at hi
      obtain ⟨k0, k1, k2⟩ := S.mok.res _ (List.mem_of_getElem? hi)
      have ne : p.1 ≠ l := fun z => q (nd_at S.nd hR hi z.symm)
      exact ⟨RHold.mono (Same.refl _) (fun o z => by rw [upd_ne ne]; exact z) k0, k1, k2⟩
  · rcases List.mem_or_eq_of_mem_set hp with q | q
    · exact S.rm p q
    · subst q
      exact S.rm (l, r) hm
  · show ((M.R.set j (l, r')).map (·.1)).Nodup
    rw [List.map_set]
    have e : (M.R.map (·.1)).set j l = M.R.map (·.1) := by
      refine List.ext_getElem? fun i => ?_
      by_cases q : j = i
      · subst q
        have hl : j < (M.R.map (·.1)).length := by rw [List.length_map]; exact (List.getElem?_eq_some_iff.mp hR).1
        rw [List.getElem?_set_self hl, List.getElem?_map, hR]
        rfl
      · rw [List.getElem?_set_ne q]
    show ((M.R.map (·.1)).set j l).Nodup
    rw [e]
    exact S.nd
/-- a new thing that will change -/
theorem Sta.new {p : Addr} {o : HO} {r : Rc} (S : Sta F L M G H σ Γ) (np : H p = none) (h : RHold G (upd H p o) p r) : Sta F L ⟨M.B, (p, r) :: M.R⟩ G (upd H p o) σ Γ := by
  have g := Gr.newM (o := o) S.s np
  have S2 := S.pure g
  have gn : G p = none := by
    cases q : G p with
    | none => rfl
    | some u =>
      rw [S.s _ _ q] at np
      cases np
  have fr : p ∉ M.B := fun q => by
    obtain ⟨⟨_, _, _, z⟩, _⟩ := S.mok.box p q
    rw [np] at z
    cases z
  refine ⟨S2.gr, S2.low, S2.env, ⟨S2.mok.box, fun q hq => ?_⟩, S2.bm, fun q hq => ?_, ?_⟩
  · rcases List.mem_cons.mp hq with z | z
    · subst z
      exact ⟨h, gn, fr⟩
    · exact S2.mok.res q z
  · rcases List.mem_cons.mp hq with z | z
    · subst z
      cases e : F.H0 p with
      | none => rfl
      | some u => exact absurd np (S.gr.d p (by rw [e]; simp))
    · exact S2.rm q z
  · show (p :: M.R.map (·.1)).Nodup
    refine List.nodup_cons.mpr ⟨fun z => ?_, S.nd⟩
    obtain ⟨q, hq, e⟩ := List.mem_map.mp z
    have := RHold.ne (S.mok.res q hq).1
    rw [e] at this
    exact this np
/-- a list that changes no more -/
theorem Sta.freeze {l : Addr} {ds : List PyData} {i j : Nat} (S : Sta F L M G H σ Γ) (hR : M.R[j]? = some (l, .lst ds)) (hΓ : Γ[i]? = some (some (.v (.ref l)))) : ∃ G', Sta F L ⟨M.B, M.R.eraseIdx j⟩ G' H σ (Γ.set i (some (.d (.list ds)))) ∧ Same G G' ∧ Hold F.N G' (.ref l) (.d (.list ds)) := by
  have hm := List.mem_of_getElem? hR
  obtain ⟨⟨xs, e, hd⟩, h1, h2⟩ := S.mok.res _ hm
  have g := S.gr.freeze (S.rm _ hm) h1 e
  have sm : Same G (upd G l (.lst xs)) := fun a o q => by
    rw [upd_ne (ne_of_none q h1)]
    exact q
  have hh : Hold F.N (upd G l (.lst xs)) (.ref l) (.d (.list ds)) := Dt.lst upd_same (DtA.mono sm _ hd)
  have er : ∀ p, p ∈ M.R.eraseIdx j → p ∈ M.R ∧ p.1 ≠ l := fun p hp => by
    obtain ⟨i, hne, hi⟩ := List.mem_eraseIdx_iff_getElem?.mp hp
    exact ⟨List.mem_of_getElem? hi, fun z => hne (nd_at S.nd hi hR z)⟩
  refine ⟨_, ⟨g, S.low.trans sm, ?_, ⟨fun b hb => ?_, fun p hp => ?_⟩, S.bm, fun p hp => S.rm p (er p hp).1, ?_⟩, sm, hh⟩
  · refine ⟨by rw [List.length_set]; exact S.env.len, fun k b q => ?_⟩
    by_cases z : i = k
    · subst z
      have hl : i < Γ.length := (List.getElem?_eq_some_iff.mp hΓ).1
      rw [List.getElem?_set_self hl] at q
      cases q
      obtain ⟨v, k1, k2⟩ := S.env.at_ i _ hΓ
      exact ⟨v, k1, by rw [show v = .ref l from k2]; exact hh⟩
    · rw [List.getElem?_set_ne z] at q
      obtain ⟨v, k1, k2⟩ := S.env.at_ k _ q
      exact ⟨v, k1, k2.mono sm⟩
  · obtain ⟨a, n⟩ := S.mok.box b hb
    exact ⟨a, by rw [upd_ne (fun z => h2 (by rw [← z]; exact hb))]; exact n⟩
  · obtain ⟨hp1, hp2⟩ := er p hp
    obtain ⟨k0, k1, k2⟩ := S.mok.res p hp1
    exact ⟨RHold.mono sm (fun o z => z) k0, by rw [upd_ne hp2]; exact k1, k2⟩
  · exact S.nd.sublist ((List.eraseIdx_sublist M.R j).map _)
/-- a list of three ints becomes a box -/
theorem Sta.box {l : Addr} {x y z : Int} {j : Nat} (S : Sta F L M G H σ Γ) (hR : M.R[j]? = some (l, .lst [.int x, .int y, .int z])) : Sta F L ⟨l :: M.B, M.R.eraseIdx j⟩ G H σ Γ := by
  have hm := List.mem_of_getElem? hR
  obtain ⟨⟨xs, e, hd⟩, h1, h2⟩ := S.mok.res _ hm
  have ex : xs = [.int x, .int y, .int z] := DtA.ints (ns := [x, y, z]) hd
  subst ex
  have er : ∀ p, p ∈ M.R.eraseIdx j → p ∈ M.R ∧ p.1 ≠ l := fun p hp => by
    obtain ⟨i, hne, hi⟩ := List.mem_eraseIdx_iff_getElem?.mp hp
    exact ⟨List.mem_of_getElem? hi, fun z => hne (nd_at S.nd hi hR z)⟩
  refine ⟨S.gr, S.low, S.env, ⟨fun b hb => ?_, fun p hp => ?_⟩, fun b hb => ?_, fun p hp => S.rm p (er p hp).1, S.nd.sublist ((List.eraseIdx_sublist M.R j).map _)⟩
  · rcases List.mem_cons.mp hb with q | q
    · subst q
      exact ⟨⟨x, y, z, e⟩, h1⟩
    · exact S.mok.box b q
  · obtain ⟨hp1, hp2⟩ := er p hp
    obtain ⟨k0, k1, k2⟩ := S.mok.res p hp1
    exact ⟨k0, k1, fun q => by
      rcases List.mem_cons.mp q with z | z
      · exact hp2 z
      · exact k2 z⟩
  · rcases List.mem_cons.mp hb with q | q
    · subst q
      exact .inr (S.rm _ hm)
    · exact S.bm b q
/-- some of the changing things are enough -/
theorem Sta.less {M' : Mm} (S : Sta F L M G H σ Γ) (hB : ∀ b ∈ M'.B, b ∈ M.B) (hR : List.Sublist M'.R M.R) : Sta F L M' G H σ Γ :=
  ⟨S.gr, S.low, S.env, ⟨fun b hb => S.mok.box b (hB b hb), fun p hp => let ⟨a, b, c⟩ := S.mok.res p (hR.subset hp); ⟨a, b, fun q => c (hB _ q)⟩⟩, fun b hb => S.bm b (hB b hb), fun p hp => S.rm p (hR.subset hp), S.nd.sublist (hR.map _)⟩
end

/-! ### statements -/
section
variable {F : Fx} {L : Hp} {M : Mm} {G H : Hp} {σ : L2.St} {Γ : Cnt} {D : Ends} {tu tw tz : TS} {te ta tb : TE} {P : Bd → Prop} {g : TG} {tt : TT}
theorem s_asg {i : Nat} (S : Sta F L M G H σ Γ) (h : Ev F.N M Γ te P) (k : ∀ v d G' H', P d → Sta F L M G' H' (σ.set i (some v)) (Γ.set i (some d)) → D.nx (σ.set i (some v)) H') : tAsg te (gName i) D σ H :=
  h G H σ _ S.s S.env S.mok fun v d G' H' gr m p hv => k v d G' H' p ((S.step gr m).set i hv)
theorem q_asg {i : Nat} (S : Sta F L M G H σ Γ) (h : Ev F.N M Γ te P) (k : ∀ v d G' H', P d → Sta F L M G' H' (σ.set i (some v)) (Γ.set i (some d)) → tz D (σ.set i (some v)) H') : tSeq (tAsg te (gName i)) tz D σ H := s_asg (D := { D with nx := tz D }) S h k
/-- .. of one known thing -/
theorem q_set {i : Nat} {b : Bd} (S : Sta F L M G H σ Γ) (h : E1 F.N M Γ te b) (k : ∀ v G' H', Sta F L M G' H' (σ.set i (some v)) (Γ.set i (some b)) → tz D (σ.set i (some v)) H') : tSeq (tAsg te (gName i)) tz D σ H := q_asg S h fun v d G' H' e S' => by
  subst e
  exact k v G' H' S'
theorem s_set {i : Nat} {b : Bd} (S : Sta F L M G H σ Γ) (h : E1 F.N M Γ te b) (k : ∀ v G' H', Sta F L M G' H' (σ.set i (some v)) (Γ.set i (some b)) → D.nx (σ.set i (some v)) H') : tAsg te (gName i) D σ H := s_asg S h fun v d G' H' e S' => by
  subst e
  exact k v G' H' S'
/-- a, b = e -/
theorem s_two {i j : Nat} (S : Sta F L M G H σ Γ) (h : Ev F.N M Γ te P) (hp : ∀ d, P d → ∃ x y, d = .d (.tuple [x, y])) (k : ∀ u v x y G' H', P (.d (.tuple [x, y])) → Sta F L M G' H' ((σ.set i (some u)).set j (some v)) ((Γ.set i (some (.d x))).set j (some (.d y))) → D.nx ((σ.set i (some u)).set j (some v)) H') :
    tAsg te (gTup F.N.K 2 (gCons (gName i) (gCons (gName j) gNil))) D σ H := h G H σ _ S.s S.env S.mok fun v d G' H' gr m p hv => by
  obtain ⟨x, y, rfl⟩ := hp d p
  have hv := hv.dt
  cases hv with
  | tup e r =>
    cases r with
    | cons a r =>
      cases r with
      | cons b r =>
        cases r
        exact ⟨_, _, rfl, .of (gr.s _ _ e), rfl, _, _, rfl, _, _, rfl, rfl, k _ _ x y G' H' p (((S.step gr m).set i (b := .d x) a).set j (b := .d y) b)⟩
theorem q_two {i j : Nat} (S : Sta F L M G H σ Γ) (h : Ev F.N M Γ te P) (hp : ∀ d, P d → ∃ x y, d = .d (.tuple [x, y])) (k : ∀ u v x y G' H', P (.d (.tuple [x, y])) → Sta F L M G' H' ((σ.set i (some u)).set j (some v)) ((Γ.set i (some (.d x))).set j (some (.d y))) → tz D ((σ.set i (some u)).set j (some v)) H') :
    tSeq (tAsg te (gTup F.N.K 2 (gCons (gName i) (gCons (gName j) gNil)))) tz D σ H := s_two (D := { D with nx := tz D }) S h hp k
theorem s_ret (S : Sta F L M G H σ Γ) (h : Ev F.N M Γ te P) (k : ∀ v d G' H', P d → Sta F L M G' H' σ Γ → Hold F.N G' v d → D.rt v H') : tRet te D σ H := h G H σ _ S.s S.env S.mok fun v d G' H' gr m p hv => k v d G' H' p (S.step gr m) hv
theorem s_if {c : Bool} (S : Sta F L M G H σ Γ) (h : EvT F.N M Γ tt c) (h1 : c = true → ∀ G' H', Sta F L M G' H' σ Γ → tu D σ H') (h2 : c = false → ∀ G' H', Sta F L M G' H' σ Γ → tw D σ H') : tIfS tt tu tw D σ H := h G H σ _ S.s S.env S.mok fun G' H' gr m => by
  cases c with
  | true => exact h1 rfl G' H' (S.step gr m)
  | false => exact h2 rfl G' H' (S.step gr m)
theorem q_if {c : Bool} (S : Sta F L M G H σ Γ) (h : EvT F.N M Γ tt c) (h1 : c = true → ∀ G' H', Sta F L M G' H' σ Γ → tu { D with nx := tz D } σ H') (h2 : c = false → ∀ G' H', Sta F L M G' H' σ Γ → tw { D with nx := tz D } σ H') : tSeq (tIfS tt tu tw) tz D σ H := s_if (D := { D with nx := tz D }) S h h1 h2
theorem s_ifP {PB : Bool → Prop} (S : Sta F L M G H σ Γ) (h : EvTP F.N M Γ tt PB) (h1 : PB true → ∀ G' H', Sta F L M G' H' σ Γ → tu D σ H') (h2 : PB false → ∀ G' H', Sta F L M G' H' σ Γ → tw D σ H') : tIfS tt tu tw D σ H := h G H σ _ S.s S.env S.mok fun c G' H' gr m pc => by
  cases c with
  | true => exact h1 pc G' H' (S.step gr m)
  | false => exact h2 pc G' H' (S.step gr m)
theorem q_ifP {PB : Bool → Prop} (S : Sta F L M G H σ Γ) (h : EvTP F.N M Γ tt PB) (h1 : PB true → ∀ G' H', Sta F L M G' H' σ Γ → tu { D with nx := tz D } σ H') (h2 : PB false → ∀ G' H', Sta F L M G' H' σ Γ → tw { D with nx := tz D } σ H') : tSeq (tIfS tt tu tw) tz D σ H := s_ifP (D := { D with nx := tz D }) S h h1 h2
/-- an if without else that does not come about -/
theorem q_skip (S : Sta F L M G H σ Γ) (h : EvT F.N M Γ tt false) (k : ∀ G' H', Sta F L M G' H' σ Γ → tz D σ H') : tSeq (tIfS tt tu tNext) tz D σ H := q_if S h (fun e => nomatch e) fun _ => k
/-- x = [] (it will change) -/
theorem q_nil {i : Nat} (S : Sta F L M G H σ Γ) (k : ∀ p G' H', Sta F L ⟨M.B, (p, .lst []) :: M.R⟩ G' H' (σ.set i (some (.ref p))) (Γ.set i (some (.v (.ref p)))) → tz D (σ.set i (some (.ref p))) H') : tSeq (tAsg (tLst tNil) (gName i)) tz D σ H := by
  refine ⟨Nat.zero_le _, fun p np => ?_⟩
  exact k p _ _ ((S.new (r := .lst []) np ⟨[], upd_same, .nil⟩).set i (b := .v (.ref p)) rfl)
/-- xs.append(e) -/
theorem s_app {l : Addr} {ds : List PyData} {j : Nat} (S : Sta F L M G H σ Γ) (hR : M.R[j]? = some (l, .lst ds)) (ha : E1 F.N M Γ ta (.v (.ref l))) (h : Ev F.N M Γ te P) (hp : ∀ d, P d → ∃ x, d = .d x) (hz : ds.length < 90000)
    (k : ∀ x G' H', P (.d x) → Sta F L ⟨M.B, M.R.set j (l, .lst (ds ++ [x]))⟩ G' H' σ Γ → D.nx σ H') : tDrop (tBM F.N.K "list" rAppend ta (tCons te tNil)) D σ H := ha G H σ _ S.s S.env S.mok fun v d G1 H1 g1 m1 p1 h1 => by
  subst p1
  have S1 := S.step g1 m1
  obtain ⟨⟨xs, e, hd⟩, _, _⟩ := m1.res _ (List.mem_of_getElem? hR)
  have ev : v = .ref l := h1
  subst ev
  refine ⟨.inl ⟨rfl, _, .of e⟩, h G1 H1 σ _ S1.s S1.env m1 fun v2 d2 G2 H2 g2 m2 p2 h2 => ?_⟩
  obtain ⟨x, rfl⟩ := hp d2 p2
  have S2 := S1.step g2 m2
  obtain ⟨⟨ys, e2, hd2⟩, _, _⟩ := m2.res _ (List.mem_of_getElem? hR)
  refine ⟨l, ys, v2, rfl, rfl, e2, ?_, ?_⟩
  · rw [hd2.length]
    exact sz_lt (by omega)
  · exact k x G2 _ p2 (S2.write hR ⟨ys ++ [v2], upd_same, hd2.append (DtA.one h2)⟩)
theorem q_app {l : Addr} {ds : List PyData} {j : Nat} (S : Sta F L M G H σ Γ) (hR : M.R[j]? = some (l, .lst ds)) (ha : E1 F.N M Γ ta (.v (.ref l))) (h : Ev F.N M Γ te P) (hp : ∀ d, P d → ∃ x, d = .d x) (hz : ds.length < 90000)
    (k : ∀ x G' H', P (.d x) → Sta F L ⟨M.B, M.R.set j (l, .lst (ds ++ [x]))⟩ G' H' σ Γ → tz D σ H') : tSeq (tDrop (tBM F.N.K "list" rAppend ta (tCons te tNil))) tz D σ H := s_app (D := { D with nx := tz D }) S hR ha h hp hz k
/-- what a turn is to reach -/
def Nxt (F : Fx) (L : Hp) (Pv : Nat → Mm → Cnt → Prop) (i : Nat) : L2.St → Hp → Prop := fun σ H => ∃ M G Γ, Pv (i + 1) M Γ ∧ Sta F L M G H σ Γ
theorem s_for {wi : TI} {vs : List Nat} {xs : List Bd} (S : Sta F L M G H σ Γ) {tb' : TS} (h : EvJ F.N M Γ wi xs) (Pv : Nat → Mm → Cnt → Prop) (Γx : Nat → Bd → Cnt → Cnt) (h0 : Pv 0 M Γ)
    (hg : ∀ (i : Nat) x M' Γ', xs[i]? = some x → Pv i M' Γ' → GT F.N vs g x Γ' (Γx i x Γ'))
    (hs : ∀ (i : Nat) x M' Γ' L' G' H' σ', xs[i]? = some x → Pv i M' Γ' → Same L L' → Sta F L' M' G' H' σ' (Γx i x Γ') → tb' { D with nx := Nxt F L' Pv i, ct := Nxt F L' Pv i, bk := D.nx } σ' H')
    (hd : ∀ M' Γ' G' H' σ', Pv xs.length M' Γ' → Sta F L M' G' H' σ' Γ' → D.nx σ' H') : tFor wi g tb' D σ H := h G H σ _ S.s S.env S.mok fun J G1 H1 g1 m1 hJ => by
  have S1 := (S.step g1 m1).raise
  refine ⟨fun i m σ' H' => m = xs.length - i ∧ i ≤ xs.length ∧ ∃ M' G' Γ', Pv i M' Γ' ∧ Sta F G1 M' G' H' σ' Γ', ⟨xs.length, by omega, Nat.zero_le _, M, G1, Γ, h0, S1⟩, ?_⟩
  rintro i m σ' H' ⟨rfl, hi, M', G', Γ', pv, S'⟩
  obtain ⟨stop, go⟩ := hJ M' G' H' S'.low S'.s S'.mok
  by_cases hlt : i < xs.length
  · have hx : xs[i]? = some xs[i] := List.getElem?_eq_getElem hlt
    obtain ⟨gi, yi⟩ := go i _ hx
    refine .inr ⟨gi, Nxt F G1 Pv i, fun σ2 H2 n => ?_, fun u H2 y => ?_⟩
    · obtain ⟨M2, G2, Γ2, p2, S2⟩ := n
      exact ⟨_, by omega, rfl, hlt, M2, G2, Γ2, p2, S2⟩
    · obtain ⟨G2, g2, hu⟩ := yi u H2 y
      have S2 := S'.pure g2
      refine hg i _ M' Γ' hx pv G2 H2 σ' u _ S2.s S2.env hu fun σ3 e3 _ => ?_
      exact hs i _ M' Γ' G1 G2 H2 σ3 hx pv (S.low.trans g1.g) ⟨S2.gr, S2.low, e3, S2.mok, S2.bm, S2.rm, S2.nd⟩
  · have hil : i = xs.length := by omega
    subst hil
    exact .inl ⟨stop, hd M' Γ' G' H' σ' pv (S'.lower (S.low.trans g1.g))⟩
theorem q_for {wi : TI} {vs : List Nat} {xs : List Bd} {tb' : TS} (S : Sta F L M G H σ Γ) (h : EvJ F.N M Γ wi xs) (Pv : Nat → Mm → Cnt → Prop) (Γx : Nat → Bd → Cnt → Cnt) (h0 : Pv 0 M Γ)
    (hg : ∀ (i : Nat) x M' Γ', xs[i]? = some x → Pv i M' Γ' → GT F.N vs g x Γ' (Γx i x Γ'))
    (hs : ∀ (i : Nat) x M' Γ' L' G' H' σ', xs[i]? = some x → Pv i M' Γ' → Same L L' → Sta F L' M' G' H' σ' (Γx i x Γ') → tb' { D with nx := Nxt F L' Pv i, ct := Nxt F L' Pv i, bk := tz D } σ' H')
    (hd : ∀ M' Γ' G' H' σ', Pv xs.length M' Γ' → Sta F L M' G' H' σ' Γ' → tz D σ' H') : tSeq (tFor wi g tb') tz D σ H := s_for (D := { D with nx := tz D }) S h Pv Γx h0 hg hs hd
/-- the target a name -/
theorem s_forN {wi : TI} {j : Nat} {xs : List Bd} {tb' : TS} (S : Sta F L M G H σ Γ) (h : EvJ F.N M Γ wi xs) (Pv : Nat → Mm → Cnt → Prop) (h0 : Pv 0 M Γ)
    (hs : ∀ (i : Nat) x M' Γ' L' G' H' σ', xs[i]? = some x → Pv i M' Γ' → Same L L' → Sta F L' M' G' H' σ' (Γ'.set j (some x)) → tb' { D with nx := Nxt F L' Pv i, ct := Nxt F L' Pv i, bk := D.nx } σ' H')
    (hd : ∀ M' Γ' G' H' σ', Pv xs.length M' Γ' → Sta F L M' G' H' σ' Γ' → D.nx σ' H') : tFor wi (gName j) tb' D σ H := s_for S h Pv (fun _ x Γ' => Γ'.set j (some x)) h0 (fun _ _ _ _ _ _ => g_name) hs hd
theorem q_forN {wi : TI} {j : Nat} {xs : List Bd} {tb' : TS} (S : Sta F L M G H σ Γ) (h : EvJ F.N M Γ wi xs) (Pv : Nat → Mm → Cnt → Prop) (h0 : Pv 0 M Γ)
    (hs : ∀ (i : Nat) x M' Γ' L' G' H' σ', xs[i]? = some x → Pv i M' Γ' → Same L L' → Sta F L' M' G' H' σ' (Γ'.set j (some x)) → tb' { D with nx := Nxt F L' Pv i, ct := Nxt F L' Pv i, bk := tz D } σ' H')
    (hd : ∀ M' Γ' G' H' σ', Pv xs.length M' Γ' → Sta F L M' G' H' σ' Γ' → tz D σ' H') : tSeq (tFor wi (gName j) tb') tz D σ H := s_forN (D := { D with nx := tz D }) S h Pv h0 hs hd
/-- while: a number falls -/
def NxtW (F : Fx) (L : Hp) (W : Nat → Mm → Cnt → Prop) (m : Nat) : L2.St → Hp → Prop := fun σ H => ∃ m' M G Γ, m' < m ∧ W m' M Γ ∧ Sta F L M G H σ Γ
theorem s_while {tb' : TS} (S : Sta F L M G H σ Γ) (W : Nat → Mm → Cnt → Prop) (m0 : Nat) (h0 : W m0 M Γ)
    (hs : ∀ m M' Γ' G' H' σ', W m M' Γ' → Sta F L M' G' H' σ' Γ' → ∃ c, EvT F.N M' Γ' tt c ∧ (c = true → ∀ G2 H2, Sta F L M' G2 H2 σ' Γ' → tb' { D with nx := NxtW F L W m, ct := NxtW F L W m, bk := D.nx } σ' H2) ∧ (c = false → ∀ G2 H2, Sta F L M' G2 H2 σ' Γ' → D.nx σ' H2)) :
    tWhile tt tb' D σ H := by
  refine ⟨fun m σ' H' => ∃ M' G' Γ', W m M' Γ' ∧ Sta F L M' G' H' σ' Γ', ⟨m0, M, G, Γ, h0, S⟩, ?_⟩
  rintro m σ' H' ⟨M', G', Γ', w, S'⟩
  obtain ⟨c, hc, h1, h2⟩ := hs m M' Γ' G' H' σ' w S'
  refine hc G' H' σ' _ S'.s S'.env S'.mok fun G2 H2 g2 m2 => ?_
  have S2 := S'.step g2 m2
  cases c with
  | false => exact h2 rfl G2 H2 S2
  | true =>
    refine ⟨NxtW F L W m, fun σ3 H3 n => ?_, h1 rfl G2 H2 S2⟩
    obtain ⟨m', M3, G3, Γ3, hm, w3, S3⟩ := n
    exact ⟨m', hm, M3, G3, Γ3, w3, S3⟩
theorem q_while {tb' : TS} (S : Sta F L M G H σ Γ) (W : Nat → Mm → Cnt → Prop) (m0 : Nat) (h0 : W m0 M Γ)
    (hs : ∀ m M' Γ' G' H' σ', W m M' Γ' → Sta F L M' G' H' σ' Γ' → ∃ c, EvT F.N M' Γ' tt c ∧ (c = true → ∀ G2 H2, Sta F L M' G2 H2 σ' Γ' → tb' { D with nx := NxtW F L W m, ct := NxtW F L W m, bk := tz D } σ' H2) ∧ (c = false → ∀ G2 H2, Sta F L M' G2 H2 σ' Γ' → tz D σ' H2)) :
    tSeq (tWhile tt tb') tz D σ H := s_while (D := { D with nx := tz D }) S W m0 h0 hs
end
end Ag

/-! Rules that the layer lacks: calls by keywords alone, a dict display with one tuple key, enumerate of a tuple, items of a dict with tuple keys, repr of data, sets of ints out of a list. -/
namespace Ag
open PySem PySem.Spec PyProof.Rows L2

/-! ### a def by its name -/
structure Cl (P : Program) (w : World) (K : PySem.W.Frag) (mg : Str → Option Value) (base : Heap) (k : Nat) (x : Str) (sp : Sp) : Prop where
  ex : ∃ (f : Addr) (fd : FuncData) (ps : List Str), FnOk P w K mg base CX0 k f fd ps sp ∧ mg x = some (.ref f) ∧ PySem.W.keepIn K (.ref f) = true ∧ Binds K fd ps []
/-- .. by keywords alone, their names ks as they are written; gV puts their values in the parameters' order -/
structure ClK (P : Program) (w : World) (K : PySem.W.Frag) (mg : Str → Option Value) (base : Heap) (k : Nat) (x : Str) (sp : Sp) (ks : List Str) (gV : List V → List V) : Prop where
  ex : ∃ (f : Addr) (fd : FuncData) (ps : List Str) (g : List Value → List Value), FnOk P w K mg base CX0 k f fd ps sp ∧ mg x = some (.ref f) ∧ PySem.W.keepIn K (.ref f) = true ∧ KBn K fd ps 0 ks (fun _ ws => g ws) (fun _ zs => gV zs)
section
variable {X : Cx} {k j : Nat} {x : Str} {sp : Sp} {p pos : Pos} {e : Expr} {es : List Expr} {t tk : TA} {ks : List Str} {gV : List V → List V} {kws : List Keyword}
theorem pe_f (c : Cl X.prog X.w X.K X.mg X.base k x sp) (hr : Room j X.A) (hk : k ≤ j) (hg : Gl X x) (ha : PA X (e :: es) t)
    (hdb : (x == ("__debug__" : Str)) = false := by decide) (he : starEach (e :: es) X.env = (false, eval e X.env) :: starEach es X.env := by rfl) (hpl : (backTo pos (starEach es X.env)).any (·.1) = false := by rfl) :
    PE X (.Call (.Name x p) (e :: es) [] pos) (tCall sp [] E0 t) := by
  obtain ⟨f, fd, ps, F, hm, kp, b⟩ := c.ex
  exact pe_call F (hr.mono hk) hg hm kp b .nil pass0 ha hdb he hpl
theorem pe_fK (c : ClK X.prog X.w X.K X.mg X.base k x sp ks gV) (hr : Room j X.A) (hk : k ≤ j) (hg : Gl X x) (hkw : PK X kws tk)
    (hall : (backToKw pos (keywordEach kws X.env)).all (·.1.isSome) = true := by rfl) (hks : (backToKw pos (keywordEach kws X.env)).filterMap (·.1) = ks := by rfl) (hdb : (x == ("__debug__" : Str)) = false := by decide)
    (hpl : ((backTo pos (starEach [] X.env)).any (·.1) || (backToKw pos (keywordEach kws X.env)).any (·.1.isNone)) = false := by rfl) {n : Nat} (hn : ks.length = n := by rfl) :
    PE X (.Call (.Name x p) [] kws pos) (tKw n sp gV tk) := by
  subst hn
  obtain ⟨f, fd, ps, g, F, hm, kp, b⟩ := c.ex
  refine ⟨fun pins s σ H Q I h => ?_⟩
  refine wpAny_Call_Name_kw (ld_glob I hg hm ?_ hdb)
  refine PySem.W.callWith_KW0 (h₀ := X.base) I.ok.mod.kin kp hall ?_ hpl
  refine thn (hkw.run pos pins s σ H _ I h) fun ws s2 ⟨zs, H2, I2, rz, l2, q2⟩ => ⟨I2.kIn, ?_⟩
  rw [hks]
  exact run_fnN (us := []) (vs := []) F (hr.mono hk) b pass0 I2 .nil rz rfl l2 q2
end

/-! ### {k: v}, k a tuple -/
def tDispT (tk tv : TE) : TE := fun σ H Q => ∀ p, H p = none → tk σ (upd H p (.dT [])) fun x H1 => tv σ H1 fun y H2 => H2 p = some (.dT []) ∧ ∃ (b : Addr) (k : List Key), x = .ref b ∧ H2 b = some (.tup (k.map kV)) ∧ Q (.ref p) (upd H2 p (.dT [(k, y)]))
theorem pe_dispT {X : Cx} {pos : Pos} {k v : Expr} {tk tv : TE} (hu : X.A.units + 1 < cLine) (hk : PE X k tk) (hv : PE X v tv) : PE X (.Dict [some k] [v] pos) (tDispT tk tv) := by
  refine ⟨fun pins s σ H Q I q => ?_⟩
  have fresh := I.hok.fresh (Nat.le_refl s.heap.objs.size)
  have I1 := I.laid (a := s.heap.objs.size) (o := .dT []) (h' := s.heap.push { cls := .type "dict", data := .dict #[] }) (t' := s.toks) (fun _ _ q => Heap.get?_push_of_some _ q) (Nat.le_refl _) (dt_empty s.heap I.big)
  refine wpAny_Dict_any rfl rfl (by simp) (by simp) ?_
  have P2 : PPs X pos [some k] [v] [(tk, tv)] := pps_cons hk hv pps_nil
  refine thn (P2.run pins _ σ _ (fun ps H2 => match ps with
    | [(x, y)] => H2 s.heap.objs.size = some (.dT []) ∧ ∃ (b : Addr) (k : List Key), x = .ref b ∧ H2 b = some (.tup (k.map kV)) ∧ Q (.ref s.heap.objs.size) (upd H2 s.heap.objs.size (.dT [(k, y)]))
    | _ => False) I1 (q _ fresh)) fun ws s2 h2 => ?_
  · obtain ⟨ps, H2, I2, rel, h3⟩ := h2
    match ps, ws, rel, h3 with
    | [(x, y)], [(u, w2)], .cons r .nil, ⟨e, b, k, ex, eb, q2⟩ =>
      subst ex
      obtain ⟨r1, r2⟩ := r
      obtain rfl : u = Value.ref b := r1
      obtain ⟨z, hd, xs, rx, dd⟩ := dt_of I2.hok e
      cases rx
      show wpAny _ _ (forIn [(Value.ref b, w2)] PUnit.unit _) _ _ s2
      rw [List.forIn_cons]
      refine wpAny_bind (wpAny_bind (wpAny_dictSet_heap (hsz := Nat.zero_le _) (by show X.A.units < cLine; omega) (key_of I2.hok eb) dd fun h1 d1 sb => wpAny_pure ?_))
      show wpAny _ _ (forIn [] PUnit.unit _) _ _ _
      rw [List.forIn_nil]
      refine wpAny_pure ?_
      obtain ⟨q, es, ep, hq, d2, d3, d4, d5, d6⟩ := d1
      refine ⟨.ref s.heap.objs.size, _, d_write I2 (ob := .dT [(k, y)]) (by rw [e]; exact True.intro) sb ⟨q, hq⟩ ⟨by show 1 ≤ sizeLine; decide, hd, [(k, b, w2)], ?_, q, es, ep, hq, d2, d3, d4, d6⟩, rfl, q2⟩
      refine .cons ⟨rfl, ?_, r2⟩ .nil
      rw [upd_ne (ne_of eb e (fun z => nomatch z))]
      exact eb
end Ag

namespace Ag
open PySem PySem.Spec PyProof.Rows L2

/-! ### enumerate(t), t a tuple that stands -/
set_option maxHeartbeats 1000000 in
theorem new_enum1 {v : Value} {o : Obj} {Hv : Heap → Prop} (B : Begins v o Hv) : Meets (Builtin.«enumerate.__new__» ⟨[.type "enumerate", v], []⟩) (fun _ R s => Hv s.heap ∧
    R (.ok (.ret (.ref (s.heap.push o).objs.size))) { s with heap := (s.heap.push o).push { cls := .type "enumerate", data := .fields #[.none, .bool false, .ref s.heap.objs.size, rawInt 0, .none, .none] } }) := by
  refine .of_wp fun prog w A R s h => ?_
  obtain ⟨hv, r⟩ := h
  obtain ⟨hp, gs, dr, tk, os⟩ := s
  have sub1 := sub_enumerate
  have iter1 : ∀ {A' : Around} {E : Value → Shared → Prop} {Q : Value → Shared → Prop}, Q (.ref hp.objs.size) ⟨hp.push o, gs, dr, tk, os⟩ → wpAny (model prog w) A' (pyIter v) Q E ⟨hp, gs, dr, tk, os⟩ := fun z => B.iter prog w _ _ ⟨hp, gs, dr, tk, os⟩ _ hv z
  wp_walk using iter1
  refine wpAny_stack_any fun st => wpAny_pure ?_
  split
  · next c _ _ _ _ _ =>
    cases c == Value.type "enumerate" <;> (wp_walk using iter1; exact ⟨_, rfl, r⟩)
  · wp_walk using iter1
    exact ⟨_, rfl, r⟩
theorem call_enum_tup {P : Program} {w : World} {A : Around} {E : Value → Shared → Prop} {s : Shared} {l : Addr} {items : Array Value} {Q : Value → Shared → Prop} (hl : s.heap.IsTuple l items)
    (h : ∀ h', IsEnum h' (s.heap.objs.size + 1) s.heap.objs.size 0 .none → h'.IsTupleIter s.heap.objs.size l 0 → (∀ b o, s.heap.get? b = some o → h'.get? b = some o) → Q (.ref (s.heap.objs.size + 1)) { s with heap := h' }) :
    wpAny (model P w) A (call (.type "enumerate") [.ref l]) Q E s := by
  refine callType_new F.called_enumerate (by decide) (F.typeCall_enumerate_1 _) (F.newCall_enumerate_1 _) (fun obj => F.args_object_init_2 obj _) F.entry_enumerate_new (new_enum1 (begins_tuple l items)) ⟨hl, ?_⟩
  have z : (s.heap.push { cls := .type "tuple_iterator", data := .fields #[.ref l, .int 0 0] }).objs.size = s.heap.objs.size + 1 := Heap.size_push ..
  show _ ∧ _
  rw [z]
  have e1 := Heap.get?_push_size (s.heap.push { cls := .type "tuple_iterator", data := .fields #[.ref l, .int 0 0] }) (o := { cls := .type "enumerate", data := .fields #[.none, .bool false, .ref s.heap.objs.size, rawInt 0, .none, .none] }) rfl
  rw [z] at e1
  exact ⟨⟨_, e1, rfl⟩, h _ e1 ⟨_, Heap.get?_push_of_some _ (Heap.get?_push_size _ rfl), rfl, rfl⟩ fun b o x => Heap.get?_push_of_some _ (Heap.get?_push_of_some _ x)⟩
def IteT (a : Addr) : It :=
  ⟨fun i H => ∃ (xs : List V) (x : V), H a = some (.tup xs) ∧ xs[i]? = some x, fun i H v H' => ∃ T x, v = .ref T ∧ H T = none ∧ H' = upd H T (.tup [.int (i : Nat), x]) ∧ ∀ xs, H a = some (.tup xs) → xs[i]? = some x, fun i H => ∃ xs : List V, H a = some (.tup xs) ∧ xs.length = i⟩
theorem tup_of {X : Cx} {pins : List (Addr × Obj)} {σ : L2.St} {H : Hp} {s : Shared} {a : Addr} {xs : List V} (I : Inv X pins σ H s) (e : H a = some (.tup xs)) : ∃ its : List Value, Vals xs its ∧ s.heap.IsTuple a its.toArray := by
  obtain ⟨_, its, r, p⟩ := (show ObjOk X.prog X.w H s.heap a (.tup xs) from I.hok a _ e)
  exact ⟨its, r, p⟩
theorem turn_enumT {P : Program} {w : World} {K : PySem.W.Frag} {elts : List Expr} {kk : Nat} {tpos : Pos} (a e it : Addr) :
    Turn P w K (.Tuple elts kk tpos) (IteT a) [e, it] e (fun i h => (∃ old, IsEnum h e it ((i : Nat) : Int) old) ∧ h.IsTupleIter it a i ∧ e ≠ it) := by
  have hmem : ∀ {b : Addr}, b ∈ [e, it] → b = e ∨ b = it := fun hb => by simpa using hb
  refine ⟨by simp, fun i h st b hb => ?_, fun i h h' st k => ?_, ?_, ?_, fun A i s Q E st h => ?_⟩
  · obtain ⟨⟨old, h1⟩, ⟨o, h2, _, h3⟩, _⟩ := st
    rcases hmem hb with q | q <;> subst q
    · exact ⟨_, h1, fun v z => nomatch z⟩
    · exact ⟨o, h2, fun v z => by rw [h3] at z; cases z⟩
  · obtain ⟨⟨old, h1⟩, h2, ne⟩ := st
    exact ⟨⟨old, k e (by simp) _ h1⟩, h2.at fun o z => k it (by simp) o z, ne⟩
  · intro X hP hw hK hc i pins s σ H E I hf st hg
    subst hP hw hK
    obtain ⟨⟨old, h1⟩, h2, ne⟩ := st
    obtain ⟨xs, x, ha, hx⟩ := hg
    obtain ⟨its, rv, tp⟩ := tup_of I ha
    obtain ⟨u, hu, ru⟩ := rv.get hx
    have nai : a ≠ it := ne_of_none ha (hf it (by simp)).1
    have nae : a ≠ e := ne_of_none ha (hf e (by simp)).1
    have D := Draws.tuple (prog := X.prog) (w := X.w) (A := X.A.in1) (by show X.A.handled = none; exact I.ok.hd hc) it a nai its.toArray
    have W := GoesN.enumFrom (elts := elts) (x1 := kk) (pos := tpos) 0 D e ne (by simp [ne, nae.symm]) (by simp)
    have hil : i < its.toArray.size := by
      have := (List.getElem?_eq_some_iff.mp hu).1
      simpa using this
    refine thn (W.goes i s (fun v s2 => ∃ x H', Inv X pins σ H' s2 ∧ RelV x v ∧ (IteT a).yld i H x H' ∧ ((∃ old, IsEnum s2.heap e it ((i + 1 : Nat) : Int) old) ∧ s2.heap.IsTupleIter it a (i + 1) ∧ e ≠ it) ∧ ∀ b ∈ [e, it], H' b = none) E hil ⟨⟨old, by simpa using h1⟩, h2, tp⟩ fun v h' tk hY hst' hk _ => ?_) fun r s1 ⟨v, hr, q⟩ => ⟨v, hr, q⟩
    obtain ⟨T, t, y, rfl, hT, hy, hTT⟩ := hY
    have ey : y = u := by
      have hy' : its.toArray[i]? = some y := hy
      rw [List.getElem?_toArray, hu] at hy'
      exact (Option.some.inj hy').symm
    subst ey
    have nT : H T = none := I.hok.fresh hT
    have new : ObjOk X.prog X.w (upd H T (.tup [.int (i : Nat), x])) h' T (.tup [.int (i : Nat), x]) :=
      ⟨by show 2 ≤ sizeLine; decide, [.int (0 + (i : Int)) t, y], .cons ⟨t, by rw [Int.zero_add]⟩ (.cons ru .nil), hTT⟩
    obtain ⟨⟨old', k1⟩, k2, _⟩ := hst'
    refine ⟨.ref T, _, I.turnedNew (t' := tk) (ch := [e, it]) hk hf hT new, rfl, ⟨T, x, rfl, nT, rfl, fun ys hy => ?_⟩, ⟨⟨old', by simpa using k1⟩, k2, ne⟩, fun b hb => ?_⟩
    · rw [ha] at hy
      cases hy
      exact hx
    · have hb' : b ≠ T := fun z => by
        subst z
        have hlt : b < s.heap.objs.size := by
          rcases hmem hb with q | q <;> subst q
          · exact Heap.lt_size h1
          · obtain ⟨o, h3, _⟩ := h2
            exact Heap.lt_size h3
        exact absurd (Nat.lt_of_lt_of_le hlt hT) (Nat.lt_irrefl _)
      rw [upd_ne hb']
      exact (hf b hb).1
  · intro X hP hw hK hc i pins s σ H E I hf st hg
    subst hP hw hK
    obtain ⟨⟨old, h1⟩, h2, ne⟩ := st
    obtain ⟨xs, ha, hx⟩ := hg
    obtain ⟨its, rv, tp⟩ := tup_of I ha
    have nai : a ≠ it := ne_of_none ha (hf it (by simp)).1
    have nae : a ≠ e := ne_of_none ha (hf e (by simp)).1
    have D := Draws.tuple (prog := X.prog) (w := X.w) (A := X.A.in1) (by show X.A.handled = none; exact I.ok.hd hc) it a nai its.toArray
    have hl := rv.length
    have hn : its.toArray.size = i := by
      rw [List.size_toArray, ← hl, hx]
    refine wpAny_pyNext_enum_endD D h1 (by rw [hn]; exact ⟨h2, tp⟩) fun h' eb => ⟨rfl, I.turnedL (t' := s.toks) (ch := [it]) (fun b o hb q => eb b o (by simpa using hb) q) fun b hb => hf b (by simp at hb; simp [hb])⟩
  · obtain ⟨⟨old, h1⟩, _⟩ := st
    exact wpAny_pyIter_enum h1 h
def iEnT (ta : TA) : TI := fun σ H R => ta σ H fun vs H1 => ∃ a xs, vs = [.ref a] ∧ H1 a = some (.tup xs) ∧ R (IteT a) H1
theorem pi_enT {X : Cx} {e : Expr} {ta : TA} {p pos tpos : Pos} {elts : List Expr} {kk : Nat} (hg : Gl X "enumerate") (hm : X.mg "enumerate" = none) (ha : PA X [e] ta) (hs : starEach [e] X.env = [(false, eval e X.env)] := by rfl) :
    PI X (.Tuple elts kk tpos) (.Call (.Name "enumerate" p) [e] [] pos) (iEnT ta) := by
  refine ⟨fun pins s σ H R I h => ?_⟩
  refine Call_ (ld_blt I hg hm boot_enumerate (PyProof.Rows.callWith_type1 (thn (ha.run pos pins s σ H _ I h) fun us s1 ⟨vs, H1, I1, r1, q1⟩ => ?_) hs rfl))
  obtain ⟨a, xs, rfl, ht, q⟩ := q1
  cases r1 with
  | cons r rr =>
    cases rr
    cases r
    obtain ⟨its, rv, tp⟩ := tup_of I1 ht
    refine call_enum_tup tp fun h' k1 k2 kk => wpAny_pyIter_enum k1 ?_
    refine ⟨s1.heap.objs.size + 1, [s1.heap.objs.size + 1, s1.heap.objs.size], _, _, H1, rfl, I1.kept (t' := s1.toks) kk, turn_enumT a _ _, ⟨⟨.none, k1⟩, k2, Nat.succ_ne_self _⟩, fun b hb => ?_, q⟩
    have hle : s1.heap.objs.size ≤ b := by
      have hb2 : b = s1.heap.objs.size + 1 ∨ b = s1.heap.objs.size := by simpa using hb
      rcases hb2 with z | z
      · rw [z]
        exact Nat.le_add_right _ _
      · rw [z]
        exact Nat.le_refl _
    exact I1.fpOk hle (I1.hok.fresh hle)
theorem itx_enT {N : Nv} {M : Mm} {a : Addr} {G1 : Hp} {ds : List PyData} (h : Dt G1 (.ref a) (.tuple ds)) : Itx N M (IteT a) G1 (enD ds) := fun G H s1 s2 _ => by
  cases h with
  | tup e r =>
    rename_i vs
    have hS := s2 _ _ (s1 _ _ e)
    refine ⟨⟨_, hS, by rw [r.length, enD_len]⟩, fun i x hx => ?_⟩
    obtain ⟨d, hd, rfl⟩ := enD_get hx
    obtain ⟨v, h1, h2⟩ := r.get hd
    refine ⟨⟨_, v, hS, h1⟩, fun u H' y => ?_⟩
    obtain ⟨T, x, rfl, nT, rfl, q⟩ := y
    have e1 : v = x := Option.some.inj (h1.symm.trans (q _ hS))
    subst e1
    have g := Gr.new (o := HO.tup [.int (i : Nat), v]) s2 nT
    exact ⟨_, g, Dt.tup upd_same (.cons (.int _) (.cons (Dt.mono (s1.trans g.g) _ h2) .nil))⟩
theorem i_enT {N : Nv} {M : Mm} {Γ : Cnt} {ta : TA} {ds : List PyData} (h : A1 N M Γ ta [.d (.tuple ds)]) : EvJ N M Γ (iEnT ta) (enD ds) := fun G H σ R s e bx k => h G H σ _ s e bx fun vs bs G1 H1 g1 b1 p1 h1 => by
  subst p1
  obtain ⟨v, rfl, h2⟩ := vals_one h1
  have h3 := h2.dt
  cases h3 with
  | tup e2 r => exact ⟨_, _, rfl, g1.s _ _ e2, k _ G1 H1 g1 b1 fun _ => itx_enT (Dt.tup e2 r)⟩
end Ag

namespace Ag
open PySem PySem.Spec PyProof.Rows L2

/-! ### for k, v in d.items(), d a dict from tuples, locked -/
theorem fz_entries {X : Cx} {pins : List (Addr × Obj)} {σ : L2.St} {H : Hp} {s : Shared} {d : Addr} {o : Obj} {kvs : List (List Key × V)} (I : Inv X pins σ H s) (h : H d = some (.frz o (.dT kvs))) :
    (d == sysModules) = false ∧ s.heap.get? d = some o ∧ ∃ (es : Array DictEntry) (ep : Nat), o.data = .dict es ep ∧ s.heap.DictRaw d es ep ∧ es.size = kvs.length ∧
      ∀ (i : Nat) (k : List Key) (v : V), kvs[i]? = some (k, v) → ∃ (hi : i < es.size) (q : Addr), es[i].key = .ref q ∧ H q = some (.tup (k.map kV)) ∧ RelV v es[i].val := by
  obtain ⟨hd, z, hs, xs, pr, o', es, ep, ho, hx, hdt, he, _⟩ := I.hok d _ h
  rw [hd] at ho
  cases ho
  have l2 : kvs.length = xs.length := Paired.length pr
  have l1 : es.size = xs.length := by rw [← Array.length_toList, he, List.length_map]
  refine ⟨hs, hd, es, ep, hdt, ⟨o, hd, hx, hdt⟩, l1.trans l2.symm, fun i k v e => ?_⟩
  have hik : i < kvs.length := (List.getElem?_eq_some_iff.mp e).1
  have hi : i < es.size := by rw [l1, ← l2]; exact hik
  obtain ⟨b, hb, e1, e2, e3⟩ := paired_get pr e
  have q : es.toList[i]? = some (entryOfKey (tupleKind (mixKind X.prog X.w)) b) := by
    rw [he, List.getElem?_map, hb]
    rfl
  have q2 : es[i] = entryOfKey (tupleKind (mixKind X.prog X.w)) b := by
    have q3 : es.toList[i]? = some es[i] := by
      rw [Array.getElem?_toList]
      exact Array.getElem?_eq_getElem hi
    rw [q] at q3
    exact (Option.some.inj q3).symm
  refine ⟨hi, b.2.1, ?_, ?_, ?_⟩
  · rw [q2]
    rfl
  · exact e2
  · rw [q2]
    exact e3
def ItiT (d : Addr) (o : Obj) (kvs : List (List Key × V)) : It :=
  ⟨fun i H => H d = some (.frz o (.dT kvs)) ∧ i < kvs.length, fun i H x H' => ∃ (T q : Addr) (k : List Key) (v : V), kvs[i]? = some (k, v) ∧ H q = some (.tup (k.map kV)) ∧ x = .ref T ∧ H T = none ∧ H' = upd H T (.tup [.ref q, v]), fun i H => H d = some (.frz o (.dT kvs)) ∧ kvs.length = i⟩
theorem turn_itemsT {P : Program} {w : World} {K : PySem.W.Frag} {kvs : List (List Key × V)} {elts : List Expr} {kk : Nat} {tpos : Pos} {d : Addr} {o : Obj} {es : Array DictEntry} {ep : Nat} (it : Addr) (hod : o.data = .dict es ep) :
    Turn P w K (.Tuple elts kk tpos) (ItiT d o kvs) [it] it (fun i h => ∃ ok ov, IsItemIter h it d i es.size ep ok ov) := by
  refine ⟨by simp, fun i h st b hb => ?_, fun i h h' st k => ?_, ?_, ?_, fun A i s Q E st h => ?_⟩
  · obtain ⟨ok, ov, e⟩ := st
    obtain rfl : b = it := by simpa using hb
    exact ⟨_, e, fun v z => nomatch z⟩
  · obtain ⟨ok, ov, e⟩ := st
    exact ⟨ok, ov, k it (by simp) _ e⟩
  · intro X hP hw hK hc i pins s σ H E I hf st hg
    subst hP hw hK
    obtain ⟨hd, hi⟩ := hg
    obtain ⟨hs, hgd, es', ep', hdt, raw, hsz, ent⟩ := fz_entries I hd
    rw [hod] at hdt
    cases hdt
    obtain ⟨⟨k, v⟩, hkv⟩ : ∃ p, kvs[i]? = some p := ⟨kvs[i], List.getElem?_eq_getElem hi⟩
    obtain ⟨hie, q, ek, hq, rv⟩ := ent i k v hkv
    have ndi : d ≠ it := ne_of_none hd (hf it (by simp)).1
    have W := GoesN.rawItems (prog := X.prog) (w := X.w) (A := X.A) (elts := elts) (x1 := kk) (pos := tpos) (I.ok.hd hc) it d ndi es ep
    have hil : it < s.heap.objs.size := by
      obtain ⟨_, _, e⟩ := st
      exact Heap.lt_size e
    refine thn (W.goes i s (fun u s2 => ∃ x H', Inv X pins σ H' s2 ∧ RelV x u ∧ (ItiT d o kvs).yld i H x H' ∧ (∃ ok ov, IsItemIter s2.heap it d (i + 1) es.size ep ok ov) ∧ ∀ b ∈ [it], H' b = none) E hie ⟨st, raw⟩ fun u h' tk hY hst' hk _ => ?_) fun r s1 ⟨v, hr, q⟩ => ⟨v, hr, q⟩
    obtain ⟨T, hi', rfl, hT, hTT⟩ := hY
    have nT : H T = none := I.hok.fresh hT
    have new : ObjOk X.prog X.w (upd H T (.tup [.ref q, v])) h' T (.tup [.ref q, v]) :=
      ⟨by show 2 ≤ sizeLine; decide, [es[i].key, es[i].val], .cons (by rw [ek]; rfl) (.cons rv .nil), hTT⟩
    refine ⟨.ref T, _, I.turnedNew (t' := tk) (ch := [it]) hk hf hT new, rfl, ⟨T, q, k, v, hkv, hq, rfl, nT, rfl⟩, hst'.1, fun b hb => ?_⟩
    obtain rfl : b = it := by simpa using hb
    rw [upd_ne (fun z => absurd (Nat.lt_of_lt_of_le hil hT) (by rw [← z]; exact Nat.lt_irrefl _))]
    exact (hf b hb).1
  · intro X hP hw hK hc i pins s σ H E I hf st hg
    subst hP hw hK
    obtain ⟨hd, hi⟩ := hg
    obtain ⟨hs, hgd, es', ep', hdt, raw, hsz, ent⟩ := fz_entries I hd
    rw [hod] at hdt
    cases hdt
    have ndi : d ≠ it := ne_of_none hd (hf it (by simp)).1
    have W := GoesN.rawItems (prog := X.prog) (w := X.w) (A := X.A) (elts := elts) (x1 := kk) (pos := tpos) (I.ok.hd hc) it d ndi es ep
    have hn : i = es.size := by rw [hsz, hi]
    subst hn
    exact W.stops s (fun s1 => Inv X pins σ H s1) E ⟨st, raw⟩ fun h' tk hk _ => I.turnedL (t' := tk) (ch := [it]) hk hf
  · obtain ⟨_, _, e⟩ := st
    exact PySem.W.kcp_self e h
def iItemsT (td : TE) : TI := fun σ H R => td σ H fun x H1 => ∃ d o kvs, x = .ref d ∧ H1 d = some (.frz o (.dT kvs)) ∧ R (ItiT d o kvs) H1
set_option maxHeartbeats 1000000 in
theorem pi_itemsT {X : Cx} {e : Expr} {td : TE} {apos cpos tpos : Pos} {elts : List Expr} {kk : Nat} (he : PE X e td) (hbase : attributeBase e "items" X.env (eval e X.env) = eval e X.env := by rfl) (hline : (apos.endLine == cpos.line) = true := by rfl) :
    PI X (.Tuple elts kk tpos) (.Call (.Attribute e "items" apos) [] [] cpos) (iItemsT td) := by
  refine ⟨fun pins s σ H R I h => ?_⟩
  refine wpAny_Call_method (T := "dict") (id := "dict.items") hbase rfl hline F.plainAttrs_dict F.slot_dict_items F.type_dict_items (thn (he.run pins s σ H _ I h) fun u s1 ⟨x, H1, I1, rx, d, o, kvs, ex, hd, q⟩ => ?_)
  subst ex
  obtain rfl : u = Value.ref d := rx
  obtain ⟨hs, hgd, es, ep, hdt, raw, hsz, ent⟩ := fz_entries I1 hd
  obtain ⟨o', ho', hx', _⟩ := id raw
  refine ⟨raw.typeIs, fun a z => ?_, ?_⟩
  · cases z
    exact ⟨_, ho', hx'.2.1⟩
  have I2 : Inv X pins σ H1 { s1 with heap := s1.heap.push { cls := .type "dict_items", data := .fields #[.ref d] } } := I1.kept (t' := s1.toks) fun b ob z => Heap.get?_push_of_some _ z
  have fin : wpAny (model X.prog X.w) X.A (pyIter (.ref s1.heap.objs.size)) (PIE X pins σ (.Tuple elts kk tpos) R) X.xe { s1 with heap := s1.heap.push { cls := .type "dict_items", data := .fields #[.ref d] } } := by
    refine wpAny_pyIter_items_raw (d := d) ⟨_, Heap.get?_push_size _ rfl, rfl, rfl⟩ (raw.at fun ob z => Heap.get?_push_of_some _ z) (pi_one (tk := s1.toks) I2 _ (turn_itemsT _ hdt) ⟨.none, .none, ?_⟩ q)
    exact Heap.get?_push_size _ rfl
  exact method_meetsIn F.slot_dict_items F.entry_dict_items rfl (PySem.evalArgs_none ⟨rfl, raw.typeIs, F.args_dict_items_1 _, _, meets_dict_items_raw d hs, ⟨es, ep, raw⟩, fin⟩)
end Ag

namespace Ag
open PySem PySem.Spec PyProof.Rows L2

/-! ### repr, where no repr is under way -/
def rRepr (K : PySem.W.Frag) : List V → Hp → VK → Prop := fun xs H Q => ∃ (x : V) (d : PyData), xs = [x] ∧ Dp K H x d ∧ d.showable = true ∧ d.hasDict = false ∧ d.depth ≤ 60 ∧ d.shown.length ≤ sizeLine ∧ Q (.str d.shown) H
theorem call_repr {X : Cx} (hG : X.A.guards = some []) (hu : X.A.units + 64 < cLine) : CallR X (.builtin "repr") (rRepr X.K) := by
  intro pins s σ H xs us Q I r h
  obtain ⟨x, d, rfl, hd, h1, h2, h3, h4, q⟩ := h
  obtain ⟨u, rfl, rx⟩ := vals1 r
  have key : ∀ (a : Addr), u = .ref a → wpAny (model X.prog X.w) X.A (call (.builtin "repr") [u]) (EP X pins σ Q) X.xe s := fun a e => by
    subst e
    obtain ⟨as, rd⟩ := Dp.reads I d x _ hd rx
    exact repr_of_reads' rd h1 (PyData.noDict_hsm h2) hG (by omega) (fun _ _ z => z) (fun h' u tk hk => ⟨.str d.shown, H, I.kept (t' := tk) hk, ⟨u, rfl⟩, q⟩) h4
  cases hd with
  | non =>
    obtain rfl : u = Value.none := rx
    rw [PyData.shown_none] at q
    exact PySem.P.repr_of_none ⟨.str _, H, I.tok _, ⟨_, rfl⟩, q⟩
  | bl b =>
    obtain rfl : u = Value.bool b := rx
    rw [PyData.shown_bool] at q
    refine PySem.P.repr_of_bool ⟨.str _, H, I.tok _, ⟨_, rfl⟩, ?_⟩
    cases b <;> exact q
  | int i =>
    obtain ⟨t, rfl⟩ := rx
    rw [PyData.shown_int] at q
    exact PySem.P.repr_of_int (of_decide_eq_true h1) ⟨.str _, H, I.tok _, ⟨_, rfl⟩, q⟩
  | str z =>
    obtain ⟨t, rfl⟩ := rx
    rw [PyData.shown_str] at q h4
    exact PySem.P.repr_of_str ⟨.str _, H, I.tok _, ⟨_, rfl⟩, q⟩ h4
  | lst hs ha => exact key _ rx
  | tup hs ha => exact key _ rx

/-! ### defs that are called where no repr is under way -/
structure FnG (P : Program) (w : World) (K : PySem.W.Frag) (mg : Str → Option Value) (base : Heap) (k : Nat) (f : Addr) (fd : FuncData) (ps : List Str) (sp : Sp) : Prop where
  len : ∀ vs H Q E, sp vs H Q E → vs.length = ps.length
  run : ∀ (A : Around) (outer : List PySem.Env) (s : Shared) (H : Hp) (args : Args) (us : List Value) (vs : List V) (Q : VK), Room k A → A.guards = some [] → Env0 P w K mg base A outer s H → BindsTo s fd args (ps.zip us) → Vals vs us → sp vs H Q E0 →
    codeAny (model P w) A (.call (.ref f) args) (CR CX0 outer P w H s Q E0) s
section
variable {P : Program} {w : World} {K : PySem.W.Frag} {mg : Str → Option Value} {base : Heap}
theorem Fun.okG {x qual : Str} {st : Stmt} {f : Addr} {fd : FuncData} {Nm ps : List Str} {k : Nat} {sp : Sp} (F : Fun K x qual st f fd) (S : FnScope Nm ps (defScope st)) (len : ∀ vs H Q E, sp vs H Q E → vs.length = ps.length)
    (hbody : ∀ (cdv : Value) (A : Around) (outer : List PySem.Env) (s : Shared) (H : Hp) (vs : List V) (Q : VK), Room k (A.deeper (envOfC qual (defScope st) s.heap.objs.size f cdv)) → A.guards = some [] → sp vs H Q E0 →
      ∃ t, PSs (cxOf CX0 P w K mg base Nm qual (defScope st) f cdv A outer s H E0).nox (defBody st) t ∧ t { nx := fun _ H' => Q .non H', rt := Q } (start Nm vs) H) : FnG P w K mg base (k + 1) f fd ps sp := by
  obtain ⟨oc, od, kV, doc, pm, an, cdv, ct, osl, rfl, lk, hcd⟩ := F.ex
  refine ⟨len, fun A outer s H args us vs Q hr hG e0 hb r hsp => ?_⟩
  have inK : K.In s.heap := e0.mod.kin.keeps fun b o e => (e0.bs b o e).1
  have lim := e0.mod.nolimit.keeps fun b o e => (e0.bs b o e).1
  refine codeAny_call_function hr.depth (inK _ _ lk) rfl S.co S.gen rfl (PySem.W.codeRec_of inK hcd) (hb _ _ _ _ ?_)
  refine wpAny_newFunctionEnv_cells S.kind (fun y hy => ?_) fun env he s1 x => ?_
  · obtain ⟨n, v⟩ := y
    rcases S.par n (List.of_mem_zip hy).1 with q | q
    · exact .inl q
    · exact .inr ⟨q, PySem.W.cellsFrom_some _ _ _ (.inl q)⟩
  · subst he
    refine ⟨lim.keeps x.toInCall.keep, codeAny_func ?_⟩
    obtain ⟨t, ht, hq⟩ := hbody cdv A outer s H vs Q (hr.deeper _) hG hsp
    have J := inv_start (CX := CX0) (E := E0) S hr.hd e0 (len _ _ _ _ hsp) r x
    refine wpAny_mono (ht.nox.run [] s1 (start Nm vs) H _ J hq) (fun fl s' hs => ?_) fun e s' hs => hs
    cases fl with
    | ret u =>
      obtain ⟨v, σ', H', J', rv, q⟩ := hs
      exact ⟨v, H', J'.os, J'.bare, J'.base, J'.hok, rv, q⟩
    | next =>
      obtain ⟨σ', H', J', q⟩ := hs
      exact ⟨.non, H', J'.os, J'.bare, J'.base, J'.hok, rfl, q⟩
    | brk => exact hs.elim fun _ z => z.elim fun _ z => z.2.elim
    | cont => exact hs.elim fun _ z => z.elim fun _ z => z.2.elim
end
/-- such a def by its name -/
structure ClG (P : Program) (w : World) (K : PySem.W.Frag) (mg : Str → Option Value) (base : Heap) (k : Nat) (x : Str) (sp : Sp) : Prop where
  ex : ∃ (f : Addr) (fd : FuncData) (ps : List Str), FnG P w K mg base k f fd ps sp ∧ mg x = some (.ref f) ∧ PySem.W.keepIn K (.ref f) = true ∧ Binds K fd ps []
section
variable {X : Cx} {k j : Nat} {x : Str} {sp : Sp} {p pos : Pos} {e : Expr} {es : List Expr} {t : TA}
theorem run_fnG {f : Addr} {fd : FuncData} {ps : List Str} {pins : List (Addr × Obj)} {σ : L2.St} {H : Hp} {s : Shared} {Q : VK} {us : List Value} {vs : List V} (F : FnG X.prog X.w X.K X.mg X.base k f fd ps sp) (hr : Room k X.A) (hG : X.A.guards = some []) (hb : Binds X.K fd ps [])
    (I : Inv X pins σ H s) (r : Vals vs us) (h : sp vs H Q E0) : wpAny (model X.prog X.w) X.A (call (.ref f) us) (EP X pins σ Q) X.xe s := by
  have hl : (us ++ []).length = ps.length := by rw [List.append_nil, ← r.length]; exact F.len _ _ _ _ h
  have hbs := hb s us I.kIn hl
  rw [List.append_nil] at hbs
  refine wpAny_call (codeAny_mono (F.run X.A X.stack s H ⟨us, []⟩ us vs Q hr hG I.env0 hbs r h) fun r s' hq => ?_)
  cases r with
  | error e => exact False.elim hq
  | ok fl =>
    cases fl with
    | ret u => exact I.after hq
    | next => exact False.elim hq
    | brk => exact False.elim hq
    | cont => exact False.elim hq
theorem pe_g (c : ClG X.prog X.w X.K X.mg X.base k x sp) (hr : Room j X.A) (hk : k ≤ j) (hG : X.A.guards = some []) (hg : Gl X x) (ha : PA X (e :: es) t)
    (hdb : (x == ("__debug__" : Str)) = false := by decide) (he : starEach (e :: es) X.env = (false, eval e X.env) :: starEach es X.env := by rfl) (hpl : (backTo pos (starEach es X.env)).any (·.1) = false := by rfl) :
    PE X (.Call (.Name x p) (e :: es) [] pos) (tCall sp [] E0 t) := by
  obtain ⟨f, fd, ps, F, hm, kp, b⟩ := c.ex
  refine ⟨fun pins s σ H Q I h => ?_⟩
  refine wpAny_Call_Name_kw (ld_glob I hg hm ?_ hdb)
  refine PySem.W.callWith_K (h₀ := X.base) I.ok.mod.kin kp ?_ he hpl
  refine thn (ha.run pos pins s σ H _ I h) fun us s1 ⟨vs, H1, I1, r1, q1⟩ => ⟨I1.kIn, ?_⟩
  have q2 : sp (vs ++ []) H1 Q E0 := q1
  rw [List.append_nil] at q2
  exact run_fnG F (hr.mono hk) hG b I1 r1 q2
end
end Ag

namespace Ag
open PySem PySem.Spec PyProof.Rows L2

/-! ### set(xs), xs a list of ints: what the loop over it finds -/
abbrev freshSet (w : World) : Obj := { cls := .type "set", dict := none, data := .set #[] 0 (.fresh 0 0 (!w.params.followText "set-order")) }
section
variable {P : Program} {w : World} {A : Around} {E : Value → Shared → Prop} {s : Shared}
/-- the making's first half: the new set, empty, is handed to its __init__ -/
def MadeSet (P : Program) (w : World) (E : Value → Shared → Prop) (s : Shared) (ns : List Int) : Result → Shared → Prop :=
  wants (fun r s2 => r = .none ∧ ∃ h' tk c, s2 = { s with heap := h', toks := tk } ∧ SetR w h' s.heap.objs.size (fun j => decide (j ∈ ns)) c ∧ c ≤ ns.length ∧ ∀ b o, s.heap.get? b = some o → h'.get? b = some o) E
theorem set_init_list {l : Addr} {items : Array Value} (ns : List Int) {B : Around} (hh : B.handled = none) (hl : s.heap.IsList l items) (hit : IntsAre items.toList ns) (hb : ns.length + 1 < scanBound) :
    wpAny (model P w) B (Builtin.«set.__init__» ⟨[.ref s.heap.objs.size, .ref l], []⟩) (fun f s2 => ∃ v, f = .done (.ret v) ∧ MadeSet P w E s ns (.ok (.ret v)) s2) E { s with heap := s.heap.push (freshSet w) } := by
  have n1 : items.size = ns.length := by
    have q := IntsAre.length hit
    rwa [Array.length_toList] at q
  have got : (s.heap.push (freshSet w)).get? s.heap.objs.size = some (freshSet w) := Heap.get?_push_size _ rfl
  obtain ⟨⟨cl, di, da, sl⟩, e1, e2, m, e3⟩ := hl
  simp only at e2 e3
  subst e2 e3
  have lt1 : l < s.heap.objs.size := Heap.lt_size e1
  have at1 : (s.heap.push (freshSet w)).get? l = some { cls := .type "list", dict := di, data := .seq items m, slots := sl } := Heap.get?_push_of_some _ e1
  have sub1 := F.sub_list_set
  have sub2 := F.sub_list_frozenset
  have other : (Value.type "list" == Value.type "dict") = false := by decide
  have lst1 : (s.heap.push (freshSet w)).IsList l items := ⟨_, at1, rfl, m, rfl⟩
  unfold Builtin.«set.__init__» noKeywords Builtin.Frozenset.updateFrom
  generalize it0 : pyIter = PI
  wp_walk
  subst it0
  refine wpAny_pyIter_list lst1 (wpAny_bind (wpAny_runValue ?_))
  have sz1 : (s.heap.push (freshSet w)).objs.size = s.heap.objs.size + 1 := Heap.size_push ..
  have ne1 : l ≠ (s.heap.push (freshSet w)).objs.size := by
    rw [sz1]
    exact Nat.ne_of_lt (Nat.lt_succ_of_lt lt1)
  have out1 : s.heap.objs.size ∉ [(s.heap.push (freshSet w)).objs.size, l] := by
    rw [sz1]
    intro z
    rcases List.mem_cons.mp z with z | z
    · exact absurd z (Nat.ne_of_lt (Nat.lt_succ_self _))
    · exact absurd (List.mem_singleton.mp z) (Nat.ne_of_gt lt1)
  have val1 : ∀ (i : Nat) (v : Value), items[i]? = some v → ∃ k t, ns[i]? = some k ∧ v = .int k t := fun i v hv => by
    have hi : i < ns.length := by rw [← n1]; exact (Array.getElem?_eq_some_iff.mp hv).1
    obtain ⟨t, e⟩ := PyProof.Rows.IntsAre.int_at hit i v (by rw [Array.getElem?_toList]; exact hv)
    have e4 : ns.getD i 0 = ns[i] := by rw [List.getD_eq_getElem?_getD, List.getElem?_eq_getElem hi]; rfl
    exact ⟨ns[i], t, List.getElem?_eq_getElem hi, by rw [e, e4]⟩
  refine set_update_ints (A := B) ((Walks.list (A := B.in1) (by simp [hh]) _ l ne1 items).toS) s.heap.objs.size out1 ns n1 hb val1 (items.size - 0) 0 _ (by omega) (Nat.zero_le _) ⟨⟨_, Heap.get?_push_size _ rfl, rfl, rfl⟩, lst1.push _⟩ ?start fun s2 c mv hc R => ?_
  case start => exact ⟨0, Nat.le_refl 0, setR_new_at (w := w) (Heap.get?_push_of_some _ got)⟩
  obtain ⟨h2, g2, d2, t2, o2⟩ := s2
  obtain rfl : g2 = s.gens := mv.gens
  obtain rfl : d2 = s.drawn := mv.drawn
  obtain rfl : o2 = s.os := mv.os
  show wpAny _ _ _ _ _ _
  refine wpAny_pure ?_
  show wpAny _ _ (ret Value.none) _ _ _
  rw [n1] at hc
  refine wpAny_pure ⟨_, rfl, rfl, h2, t2, c, rfl, R, hc, fun b o e => ?_⟩
  have b0 : b < s.heap.objs.size := Heap.lt_size e
  refine mv.heap b o (fun z => ?_) (Heap.get?_push_of_some _ (Heap.get?_push_of_some _ e))
  rcases List.mem_cons.mp z with z | z
  · exact absurd z (Nat.ne_of_lt b0)
  · have b1 : b = s.heap.objs.size + 1 := by
      rw [← sz1]
      exact List.mem_singleton.mp z
    rw [b1] at b0
    exact absurd b0 (Nat.not_lt.mpr (Nat.le_succ _))
set_option maxHeartbeats 3200000 in
theorem call_set_listI {l : Addr} {items : Array Value} (ns : List Int) {Q : Value → Shared → Prop} (hh : A.handled = none) (hl : s.heap.IsList l items) (hit : IntsAre items.toList ns) (hb : ns.length + 1 < scanBound)
    (h : ∀ (h' : Heap) (tk c : Nat), SetR w h' s.heap.objs.size (fun j => decide (j ∈ ns)) c → c ≤ ns.length → (∀ b o, s.heap.get? b = some o → h'.get? b = some o) → Q (.ref s.heap.objs.size) { s with heap := h', toks := tk }) :
    wpAny (model P w) A (call (.type "set") [.ref l]) Q E s := by
  obtain ⟨mro1, mro2, mro3⟩ := F.called_set.mro
  have set1 := F.called_set.made
  have set2 := F.called_set.sub
  refine wpAny_call (codeAny_of_tree ?_)
  show wpAny _ _ (callAny (.type "set") _) _ _ _
  refine wpAny_pure ⟨Code.quiet_builtin _ (by decide +kernel), codeAny_builtin F.entry_type_call ?_⟩
  rw [Around.under_plain (weight_type_call_type "set" [.ref l] []) rfl]
  have set3 := F.called_set.notType
  have set4 := F.called_set.canCreate
  have set5 := F.typeCall_set_1 (.ref l)
  repeat (any_goals (first | assumption | wp_step))
  refine codeAny_mono (code_set_led1 (.ref l) (E := E) (Q₁ := fun v s1 => v = .ref s.heap.objs.size ∧ s1 = { s with heap := s.heap.push (freshSet w) }) ⟨rfl, rfl⟩) fun r s1 hr => ?_
  match r, hr with
  | .error e, hr => exact hr
  | .ok (.ret v), hr =>
    obtain ⟨rfl, rfl⟩ := hr
    have ty1 : Shared.TypeIs { s with heap := s.heap.push (freshSet w) } (.ref s.heap.objs.size) "set" := ⟨_, Heap.get?_push_size _ rfl, rfl⟩
    have set6 := F.called_set.init.lookup
    have set7 := F.called_set.init.bind (.ref s.heap.objs.size)
    repeat (any_goals (first | assumption | wp_step))
    refine codeAny_mono (codeAny_call_builtin (R := MadeSet P w E s ns) F.called_set.init.plain F.entry_set_init (check_set_init_1 ty1 ?_)) fun r2 s2 hr2 => ?_
    · refine wpAny_mono (set_init_list (E := E) ns (by first | assumption | simp [hh]) hl hit hb) (fun f s3 hf => ?_) fun e s3 he => he
      obtain ⟨v, rfl, hm⟩ := hf
      exact hm
    · match r2, hr2 with
      | .error e, hr2 => exact hr2
      | .ok (.ret v2), hr2 =>
        obtain ⟨rfl, h', tk, c, rfl, R, hc, hk⟩ := hr2
        repeat (any_goals (first | assumption | wp_step))
        exact h _ _ _ R hc hk
end
end Ag

namespace Ag
open PySem PySem.Spec PyProof.Rows L2

/-! ### built-ins by values: the layer's rules in one reading each -/
def rSetI (K : PySem.W.Frag) (w : World) : List V → Hp → VK → Prop := fun xs H Q => ∃ (l : Addr) (ns : List Int), xs = [V.ref l] ∧ (SqL K H l (ns.map V.int) ∨ SqT K H l (ns.map V.int)) ∧ ns.length ≤ 1000 ∧
  ∀ (a : Addr) (out : List Int), H a = none → out.Nodup → (∀ k, k ∈ out ↔ k ∈ ns) → Q (.ref a) (upd H a (SetO w a (fun k => decide (k ∈ out)) out.length))
theorem cr_setI {X : Cx} (hc : X.calm = true) : CallR X (.type "set") (rSetI X.K X.w) := by
  intro pins s σ H xs us Q I r h
  obtain ⟨l, ns, rfl, hl, hn, q⟩ := h
  rw [Vals.ref1 r]
  have fin : ∀ (h' : Heap) (tk c : Nat), SetR X.w h' s.heap.objs.size (fun j => decide (j ∈ ns)) c → c ≤ ns.length → (∀ b o, s.heap.get? b = some o → h'.get? b = some o) → EP X pins σ Q (.ref s.heap.objs.size) { s with heap := h', toks := tk } := fun h' tk c R hc2 hk => by
    obtain ⟨o, es, ep, t, ho, hex, hd, hg, hnd, hS, hb, hf, hz, rest⟩ := R
    have nn : H s.heap.objs.size = none := I.hok.fresh (Nat.le_refl _)
    have mem : ∀ k, k ∈ es.toList.map keyOf ↔ k ∈ ns := fun k => by
      have z := hS k
      rw [← z]
      exact decide_eq_true_iff
    have R2 : SetR X.w h' s.heap.objs.size (fun k => decide (k ∈ es.toList.map keyOf)) (es.toList.map keyOf).length :=
      ⟨o, es, ep, t, ho, hex, hd, hg, hnd, fun k => decide_eq_true_iff, hb, hf, by rw [List.length_map, Array.length_toList], rest⟩
    exact ⟨.ref s.heap.objs.size, _, I.laid (t' := tk) hk (Nat.le_refl _) (setO_new R2), rfl, q _ _ nn hnd mem⟩
  rcases hl with hl | hl
  · obtain ⟨its, rv, pl, hz⟩ := I.list hl
    exact call_set_listI ns (I.ok.hd hc) pl.isList (by simpa using ints_of_vals rv) (by unfold scanBound; omega) fin
  · obtain ⟨its, rv, pl, hz⟩ := I.tuple hl
    exact call_set_tupI ns (I.ok.hd hc) pl (by simpa using ints_of_vals rv) (by unfold scanBound; omega) fin
def rLenS (w : World) : List V → Hp → VK → Prop := fun xs H Q => ∃ (a : Addr) (S : Int → Bool) (n : Nat), xs = [V.ref a] ∧ H a = some (SetO w a S n) ∧ Q (.int (n : Nat)) H
theorem cr_lenS {X : Cx} : CallR X (.builtin "len") (rLenS X.w) := by
  intro pins s σ H xs us Q I r h
  obtain ⟨a, S, n, rfl, ha, q⟩ := h
  rw [Vals.ref1 r]
  obtain ⟨o, es, ep, t, ho, hex, hd, hg, hnd, hS, hb, hf, hz, rest⟩ := setO_get I ha
  refine call_len_set ho hex hd hf (by unfold scanBound at hb; omega) ⟨.int (n : Nat), H, I.tok _, ⟨_, by rw [hz]⟩, q⟩
def rLen (K : PySem.W.Frag) (w : World) : List V → Hp → VK → Prop := fun xs H Q => (∃ p ys, xs = [.ref p] ∧ (SqL K H p ys ∨ SqT K H p ys) ∧ Q (.int ys.length) H) ∨ (rLenS w xs H Q ∨ ∃ a kvs, xs = [V.ref a] ∧ H a = some (.dK kvs) ∧ Q (.int kvs.length) H)
theorem cr_len {X : Cx} : CallR X (.builtin "len") (rLen X.K X.w) := CallR.or call_len_seq (CallR.or cr_lenS call_lenD)
def rLst (K : PySem.W.Frag) : List V → Hp → VK → Prop := fun xs H Q => (∃ p ys, xs = [.ref p] ∧ (SqL K H p ys ∨ SqT K H p ys) ∧ ∀ l, H l = none → Q (.ref l) (upd H l (.lst ys))) ∨ rListD xs H Q
theorem cr_lst {X : Cx} (hc : X.calm = true) : CallR X (.type "list") (rLst X.K) := CallR.or call_list_of (call_list_dK hc)
def rTup (K : PySem.W.Frag) : List V → Hp → VK → Prop := fun xs H Q => ∃ p ys, xs = [.ref p] ∧ ((SqL K H p ys ∧ ∀ l, H l = none → Q (.ref l) (upd H l (.tup ys))) ∨ (SqT K H p ys ∧ Q (.ref p) H))
theorem cr_tup {X : Cx} : CallR X (.type "tuple") (rTup X.K) := call_tuple_of
def rSrt (K : PySem.W.Frag) (w : World) : List V → Hp → VK → Prop := fun xs H Q => rSortedI K xs H Q ∨ rSortedSet w xs H Q
theorem cr_srt {X : Cx} (hc : X.calm = true) : CallR X (.builtin "sorted") (rSrt X.K X.w) := CallR.or cr_sortedI (cr_sortedSet hc)
def rInt : List V → Hp → VK → Prop := fun xs H Q => (∃ i, xs = [.int i] ∧ Q (.int i) H) ∨ ∃ k, xs = [.bl k] ∧ Q (.int (if k then 1 else 0)) H
theorem cr_int {X : Cx} : CallR X (.type "int") rInt := call_int1
def rAbs : List V → Hp → VK → Prop := fun xs H Q => ∃ i, xs = [.int i] ∧ Q (.int (if i < 0 then -i else i)) H
theorem cr_abs {X : Cx} : CallR X (.builtin "abs") rAbs := call_abs
def rMn (K : PySem.W.Frag) : List V → Hp → VK → Prop := fun xs H Q => rMin K xs H Q ∨ ∃ i j, xs = [.int i, .int j] ∧ Q (.int (if j < i then j else i)) H
theorem cr_mn {X : Cx} (hc : X.calm = true) : CallR X (.builtin "min") (rMn X.K) := CallR.or (cr_min hc) (call_min2 hc)
def rMx : List V → Hp → VK → Prop := fun xs H Q => ∃ i j, xs = [.int i, .int j] ∧ Q (.int (if j > i then j else i)) H
theorem cr_mx {X : Cx} (hc : X.calm = true) : CallR X (.builtin "max") rMx := call_max2 hc
def rIs (K : PySem.W.Frag) : List V → Hp → VK → Prop := fun xs H Q => rIsi K xs H Q ∨ rIsiT K xs H Q
theorem cr_is {X : Cx} : CallR X (.builtin "isinstance") (rIs X.K) := CallR.or call_isi call_isiT
/-- slices of lists and tuples -/
def rSl (K : PySem.W.Frag) : V → Option Int → Option Int → Hp → VK → Prop := fun x lo hi H Q => rSlL K x lo hi H Q ∨ rSlA K x lo hi H Q
theorem sl_any {X : Cx} : SlR X (rSl X.K) := SlR.or sl_list sl_tupA
/-- is, is not of bools -/
def rIsBl : R2 := fun x y H Q => ∃ a b : Bool, x = .bl a ∧ y = .bl b ∧ Q (.bl (decide (a = b))) H
def rNotBl : R2 := fun x y H Q => ∃ a b : Bool, x = .bl a ∧ y = .bl b ∧ Q (.bl (!decide (a = b))) H
theorem op_isB {X : Cx} : OpR X (compareOp .Is) rIsBl := op_is_bl
theorem op_notB {X : Cx} : OpR X (compareOp .IsNot) rNotBl := op_isnot_bl

/-! ### what they give -/
section
variable {N : Nv}
theorem seq_of {G H : Hp} {v : V} {c : PyData} {ds : List PyData} (s : Same G H) (hv : Hold N G v (.d c)) (hc : c = .tuple ds ∨ c = .list ds) : ∃ p ys, v = .ref p ∧ (SqL N.K H p ys ∨ SqT N.K H p ys) ∧ DtA G ys ds := by
  rcases hc with rfl | rfl
  · have hv := hv.dt
    cases hv with
    | tup e r => exact ⟨_, _, rfl, .inr (.of (s _ _ e)), r⟩
  · have hv := hv.dt
    cases hv with
    | lst e r => exact ⟨_, _, rfl, .inl (.of (s _ _ e)), r⟩
theorem rc_len {c : PyData} {ds : List PyData} (hc : c = .tuple ds ∨ c = .list ds) : RC N (rLen N.K N.w) [.d c] (fun d => d = .d (.int (ds.length : Nat))) := fun G H vs Q s h k => by
  obtain ⟨v, rfl, hv⟩ := vals_one h
  obtain ⟨p, ys, rfl, hs, hd⟩ := seq_of s hv hc
  exact .inl ⟨p, ys, rfl, hs, by rw [hd.length]; exact k _ _ G H (.refl s) rfl (Dt.int _)⟩
theorem rc_len_st {ns : List Int} : RC N (rLen N.K N.w) [.st ns] (fun d => d = .d (.int (ns.length : Nat))) := fun G H vs Q s h k => by
  obtain ⟨v, rfl, a, rfl, ha, _⟩ := vals_one h
  exact .inr (.inl ⟨a, _, _, rfl, s _ _ ha, k _ _ G H (.refl s) rfl (Dt.int _)⟩)
theorem rc_len_ks {ns : List Int} : RC N (rLen N.K N.w) [.ks ns] (fun d => d = .d (.int (ns.length : Nat))) := fun G H vs Q s h k => by
  obtain ⟨v, rfl, a, kvs, rfl, ha, e⟩ := vals_one h
  have l : kvs.length = ns.length := by
    have := congrArg List.length e
    rwa [List.length_map, List.length_map] at this
  exact .inr (.inr ⟨a, _, rfl, s _ _ ha, by rw [l]; exact k _ _ G H (.refl s) rfl (Dt.int _)⟩)
theorem rc_lst {c : PyData} {ds : List PyData} (hc : c = .tuple ds ∨ c = .list ds) : RC N (rLst N.K) [.d c] (fun d => d = .d (.list ds)) := fun G H vs Q s h k => by
  obtain ⟨v, rfl, hv⟩ := vals_one h
  obtain ⟨p, ys, rfl, hs, hd⟩ := seq_of s hv hc
  refine .inl ⟨p, ys, rfl, hs, fun l nl => ?_⟩
  have g := Gr.new (o := HO.lst ys) s nl
  exact k _ _ _ _ g rfl (Dt.lst upd_same (DtA.mono g.g _ hd))
theorem rc_lst_ks {ns : List Int} : RC N (rLst N.K) [.ks ns] (fun d => d = .d (.list (ns.map .int))) := fun G H vs Q s h k => by
  obtain ⟨v, rfl, a, kvs, rfl, ha, e⟩ := vals_one h
  refine .inr ⟨a, kvs, rfl, s _ _ ha, fun l nl => ?_⟩
  have g := Gr.new (o := HO.lst (kvs.map fun kv => kV kv.1)) s nl
  have e2 : (kvs.map fun kv => kV kv.1) = ns.map V.int := by
    have z : kvs.map (fun kv => kV kv.1) = (kvs.map (·.1)).map kV := by rw [List.map_map]; rfl
    rw [z, e, List.map_map]
    rfl
  rw [e2] at g ⊢
  exact k _ _ _ _ g rfl (Dt.lst upd_same (DtA.ofInts ns))
theorem rc_tup {c : PyData} {ds : List PyData} (hc : c = .tuple ds ∨ c = .list ds) : RC N (rTup N.K) [.d c] (fun d => d = .d (.tuple ds)) := fun G H vs Q s h k => by
  obtain ⟨v, rfl, hv⟩ := vals_one h
  rcases hc with rfl | rfl
  · have hv := hv.dt
    cases hv with
    | tup e r => exact ⟨_, _, rfl, .inr ⟨.of (s _ _ e), k _ _ G H (.refl s) rfl (Dt.tup e r)⟩⟩
  · have hv := hv.dt
    cases hv with
    | lst e r =>
      refine ⟨_, _, rfl, .inl ⟨.of (s _ _ e), fun l nl => ?_⟩⟩
      rename_i a0 xs0
      have g := Gr.new (o := HO.tup xs0) s nl
      exact k _ _ _ _ g rfl (Dt.tup upd_same (DtA.mono g.g _ r))
theorem rc_srt {ns : List Int} : RC N (rSrt N.K N.w) [.d (.list (ns.map .int))] (fun d => ∃ ns' : List Int, ns'.Perm ns ∧ ns'.Pairwise (· ≤ ·) ∧ d = .d (.list (ns'.map .int))) := fun G H vs Q s h k => by
  obtain ⟨v, rfl, hv⟩ := vals_one h
  have hv := hv.dt
  cases hv with
  | lst e r =>
    have ex := r.ints
    subst ex
    refine .inl ⟨_, ns, rfl, .of (s _ _ e), fun ns' p pm pw np => ?_⟩
    have g := Gr.new (o := HO.lst (ns'.map V.int)) s np
    exact k _ _ _ _ g ⟨ns', pm, pw, rfl⟩ (Dt.lst upd_same (DtA.ofInts ns'))
theorem rc_srt_st {ns : List Int} (hn : ns.length < 64) : RC N (rSrt N.K N.w) [.st ns] (fun d => ∃ ns' : List Int, ns'.Pairwise (· < ·) ∧ (∀ k, k ∈ ns' ↔ k ∈ ns) ∧ d = .d (.list (ns'.map .int))) := fun G H vs Q s h k => by
  obtain ⟨v, rfl, a, rfl, ha, _⟩ := vals_one h
  refine .inr ⟨a, _, _, rfl, s _ _ ha, hn, fun ns' p pw hm _ np => ?_⟩
  have g := Gr.new (o := HO.lst (ns'.map V.int)) s np
  exact k _ _ _ _ g ⟨ns', pw, fun k => by rw [hm k]; exact decide_eq_true_iff, rfl⟩ (Dt.lst upd_same (DtA.ofInts ns'))
theorem rc_set {c : PyData} {ns : List Int} (hc : c = .tuple (ns.map .int) ∨ c = .list (ns.map .int)) (hn : ns.length ≤ 1000) : RC N (rSetI N.K N.w) [.d c] (fun d => ∃ out : List Int, out.Nodup ∧ (∀ k, k ∈ out ↔ k ∈ ns) ∧ d = .st out) := fun G H vs Q s h k => by
  obtain ⟨v, rfl, hv⟩ := vals_one h
  obtain ⟨p, ys, rfl, hs, hd⟩ := seq_of s hv hc
  have ex := hd.ints
  subst ex
  refine ⟨p, ns, rfl, hs, hn, fun a out na nd hm => ?_⟩
  have g := Gr.new (o := SetO N.w a (fun k => decide (k ∈ out)) out.length) s na
  exact k _ _ _ _ g ⟨out, nd, hm, rfl⟩ ⟨a, rfl, upd_same, nd⟩
theorem rc_int {i : Int} : RC N rInt [.d (.int i)] (fun d => d = .d (.int i)) := fun G H vs Q s h k => by
  obtain ⟨v, rfl, hv⟩ := vals_one h
  rw [hv.int]
  exact .inl ⟨i, rfl, k _ _ G H (.refl s) rfl (Dt.int _)⟩
theorem rc_intB {b : Bool} : RC N rInt [.d (.bool b)] (fun d => d = .d (.int (if b then 1 else 0))) := fun G H vs Q s h k => by
  obtain ⟨v, rfl, hv⟩ := vals_one h
  rw [hv.bool]
  exact .inr ⟨b, rfl, k _ _ G H (.refl s) rfl (Dt.int _)⟩
theorem rc_abs {i : Int} : RC N rAbs [.d (.int i)] (fun d => d = .d (.int (if i < 0 then -i else i))) := fun G H vs Q s h k => by
  obtain ⟨v, rfl, hv⟩ := vals_one h
  rw [hv.int]
  exact ⟨i, rfl, k _ _ G H (.refl s) rfl (Dt.int _)⟩
theorem rc_mn2 {i j : Int} : RC N (rMn N.K) [.d (.int i), .d (.int j)] (fun d => d = .d (.int (if j < i then j else i))) := fun G H vs Q s h k => by
  obtain ⟨v, u, rfl, hv, hu⟩ := vals_two h
  rw [hv.int, hu.int]
  exact .inr ⟨i, j, rfl, k _ _ G H (.refl s) rfl (Dt.int _)⟩
theorem rc_mx2 {i j : Int} : RC N rMx [.d (.int i), .d (.int j)] (fun d => d = .d (.int (if j > i then j else i))) := fun G H vs Q s h k => by
  obtain ⟨v, u, rfl, hv, hu⟩ := vals_two h
  rw [hv.int, hu.int]
  exact ⟨i, j, rfl, k _ _ G H (.refl s) rfl (Dt.int _)⟩
theorem rc_mn {ns : List Int} (hn : 0 < ns.length) : RC N (rMn N.K) [.d (.list (ns.map .int))] (fun d => ∃ m : Int, m ∈ ns ∧ (∀ y ∈ ns, m ≤ y) ∧ d = .d (.int m)) := fun G H vs Q s h k => by
  obtain ⟨v, rfl, hv⟩ := vals_one h
  have hv := hv.dt
  cases hv with
  | lst e r =>
    have ex := r.ints
    subst ex
    exact .inl ⟨_, ns, rfl, .of (s _ _ e), hn, fun m h1 h2 => k _ _ G H (.refl s) ⟨m, h1, h2, rfl⟩ (Dt.int _)⟩
theorem rc_all {bs : List Bool} : RC N (rAll N.K) [.d (.list (bs.map .bool))] (fun d => d = .d (.bool (bs.all id))) := fun G H vs Q s h k => by
  obtain ⟨v, rfl, hv⟩ := vals_one h
  have hv := hv.dt
  cases hv with
  | lst e r =>
    have ex := r.bools
    subst ex
    exact ⟨_, bs, rfl, .of (s _ _ e), k _ _ G H (.refl s) rfl (Dt.bl _)⟩
theorem rc_repr {x : PyData} (h1 : x.showable = true) (h2 : x.hasDict = false) (h3 : x.depth ≤ 60) (h4 : x.shown.length ≤ sizeLine) : RC N (rRepr N.K) [.d x] (fun d => d = .d (.str x.shown)) := fun G H vs Q s h k => by
  obtain ⟨v, rfl, hv⟩ := vals_one h
  exact ⟨v, x, rfl, Dt.dp s x hv, h1, h2, h3, h4, k _ _ G H (.refl s) rfl (Dt.str _)⟩
/-! isinstance -/
def tyD : PyData → String
  | .none => "NoneType"
  | .bool _ => "bool"
  | .int _ => "int"
  | .str _ => "str"
  | .list _ => "list"
  | .tuple _ => "tuple"
  | .dict _ => "dict"
theorem ty_of {G H : Hp} {v : V} {x : PyData} (s : Same G H) (h : Dt G v x) : TyX N.K H v (.type (tyD x)) := by
  cases h with
  | non => exact .base .non
  | bl b => exact .base (.bl b)
  | int i => exact .base (.int i)
  | str z => exact .base (.str z)
  | lst e r => exact .base (.lst (s _ _ e))
  | tup e r => exact .base (.tup (s _ _ e))
theorem rc_is {x : PyData} {T : String} {b : Bool} (h1 : kitB (tyD x) T = some b) : RC N (rIs N.K) [.d x, .v (.ty T)] (fun d => d = .d (.bool b)) := fun G H vs Q s h k => by
  obtain ⟨v, u, rfl, hv, rfl⟩ := vals_two h
  exact .inl ⟨v, _, _, _, b, rfl, .ty T, ty_of s hv, kit_ty h1, k _ _ G H (.refl s) rfl (Dt.bl _)⟩
theorem kt_NoneType_int : kitB "NoneType" "int" = some false := by decide +kernel
theorem kt_bool_int : kitB "bool" "int" = some true := by decide +kernel
theorem kt_int_int : kitB "int" "int" = some true := by decide +kernel
theorem kt_str_int : kitB "str" "int" = some false := by decide +kernel
theorem kt_list_int : kitB "list" "int" = some false := by decide +kernel
theorem kt_tuple_int : kitB "tuple" "int" = some false := by decide +kernel
theorem kt_dict_int : kitB "dict" "int" = some false := by decide +kernel
theorem kt_NoneType_bool : kitB "NoneType" "bool" = some false := by decide +kernel
theorem kt_bool_bool : kitB "bool" "bool" = some true := by decide +kernel
theorem kt_int_bool : kitB "int" "bool" = some false := by decide +kernel
theorem kt_str_bool : kitB "str" "bool" = some false := by decide +kernel
theorem kt_list_bool : kitB "list" "bool" = some false := by decide +kernel
theorem kt_tuple_bool : kitB "tuple" "bool" = some false := by decide +kernel
theorem kt_dict_bool : kitB "dict" "bool" = some false := by decide +kernel
theorem kt_NoneType_str : kitB "NoneType" "str" = some false := by decide +kernel
theorem kt_bool_str : kitB "bool" "str" = some false := by decide +kernel
theorem kt_int_str : kitB "int" "str" = some false := by decide +kernel
theorem kt_str_str : kitB "str" "str" = some true := by decide +kernel
theorem kt_list_str : kitB "list" "str" = some false := by decide +kernel
theorem kt_tuple_str : kitB "tuple" "str" = some false := by decide +kernel
theorem kt_dict_str : kitB "dict" "str" = some false := by decide +kernel
theorem kt_NoneType_list : kitB "NoneType" "list" = some false := by decide +kernel
theorem kt_bool_list : kitB "bool" "list" = some false := by decide +kernel
theorem kt_int_list : kitB "int" "list" = some false := by decide +kernel
theorem kt_str_list : kitB "str" "list" = some false := by decide +kernel
theorem kt_list_list : kitB "list" "list" = some true := by decide +kernel
theorem kt_tuple_list : kitB "tuple" "list" = some false := by decide +kernel
theorem kt_dict_list : kitB "dict" "list" = some false := by decide +kernel
theorem kt_NoneType_tuple : kitB "NoneType" "tuple" = some false := by decide +kernel
theorem kt_bool_tuple : kitB "bool" "tuple" = some false := by decide +kernel
theorem kt_int_tuple : kitB "int" "tuple" = some false := by decide +kernel
theorem kt_str_tuple : kitB "str" "tuple" = some false := by decide +kernel
theorem kt_list_tuple : kitB "list" "tuple" = some false := by decide +kernel
theorem kt_tuple_tuple : kitB "tuple" "tuple" = some true := by decide +kernel
theorem kt_dict_tuple : kitB "dict" "tuple" = some false := by decide +kernel
theorem kit_int (x : PyData) : kitB (tyD x) "int" = some (match x with | .int _ => true | .bool _ => true | _ => false) := by cases x <;> first | exact kt_NoneType_int | exact kt_bool_int | exact kt_int_int | exact kt_str_int | exact kt_list_int | exact kt_tuple_int | exact kt_dict_int
theorem kit_bool (x : PyData) : kitB (tyD x) "bool" = some (match x with | .bool _ => true | _ => false) := by cases x <;> first | exact kt_NoneType_bool | exact kt_bool_bool | exact kt_int_bool | exact kt_str_bool | exact kt_list_bool | exact kt_tuple_bool | exact kt_dict_bool
theorem kit_str (x : PyData) : kitB (tyD x) "str" = some (match x with | .str _ => true | _ => false) := by cases x <;> first | exact kt_NoneType_str | exact kt_bool_str | exact kt_int_str | exact kt_str_str | exact kt_list_str | exact kt_tuple_str | exact kt_dict_str
theorem kit_list (x : PyData) : kitB (tyD x) "list" = some (match x with | .list _ => true | _ => false) := by cases x <;> first | exact kt_NoneType_list | exact kt_bool_list | exact kt_int_list | exact kt_str_list | exact kt_list_list | exact kt_tuple_list | exact kt_dict_list
theorem kit_tuple (x : PyData) : kitB (tyD x) "tuple" = some (match x with | .tuple _ => true | _ => false) := by cases x <;> first | exact kt_NoneType_tuple | exact kt_bool_tuple | exact kt_int_tuple | exact kt_str_tuple | exact kt_list_tuple | exact kt_tuple_tuple | exact kt_dict_tuple
def isSeqD : PyData → Bool
  | .list _ => true
  | .tuple _ => true
  | _ => false
/-- isinstance(x, (list, tuple)), the pair of classes made on the way -/
theorem e_isSeq {M : Mm} {Γ : Cnt} {ta : TE} {x : PyData} (ha : E1 N M Γ ta (.d x)) : E1 N M Γ (tCB (rIs N.K) (tCons ta (tCons (tTup (tCons (tC (.ty "list")) (tCons (tC (.ty "tuple")) tNil))) tNil))) (.d (.bool (isSeqD x))) := fun G H σ Q s e bx k =>
  ha G H σ _ s e bx fun v d G1 H1 g1 m1 p1 h1 => by
    subst p1
    refine ⟨by show 2 ≤ sizeLine; decide, fun p np => ?_⟩
    have g2 := Gr.newM (o := HO.tup [.ty "list", .ty "tuple"]) g1.s np
    have h2 : Hold N G1 v (.d x) := h1
    refine .inr ⟨v, p, [.ty "list", .ty "tuple"], _, [.type "list", .type "tuple"], isSeqD x, rfl, upd_same, .cons (.ty _) (.cons (.ty _) .nil), ty_of g2.s h2.dt, ?_, k _ _ G1 _ (g1.trans g2.any) (m1.keep g2) rfl (Dt.bl _)⟩
    refine kitAny_cons (kit_ty (kit_list x)) (fun hb => kitAny_cons (kit_ty (kit_tuple x)) (fun hb2 => ?_) (fun hb2 => ?_)) (fun hb => ?_)
    · cases x with
      | list _ => cases hb
      | tuple _ => cases hb2
      | _ => exact kitAny_nil
    · cases x with
      | tuple _ => rfl
      | _ => cases hb2
    · cases x with
      | list _ => rfl
      | _ => cases hb
end
end Ag

namespace Ag
open PySem PySem.Spec PyProof.Rows L2
/-! ### the text by places -/
def topS (i : Nat) : Stmt := PySem.Challenge.pw_agedcopy_k02_whole_how_few_states_a_log.main.body.getD i (.Pass ⟨0, 0, 0, 0⟩)
/-- what the module's names stand for -/
structure Bis (mg : Str → Option Value) : Prop where
  b_len : mg "len" = none
  b_range : mg "range" = none
  b_tuple : mg "tuple" = none
  b_list : mg "list" = none
  b_sorted : mg "sorted" = none
  b_set : mg "set" = none
  b_min : mg "min" = none
  b_max : mg "max" = none
  b_abs : mg "abs" = none
  b_int : mg "int" = none
  b_repr : mg "repr" = none
  b_all : mg "all" = none
  b_enumerate : mg "enumerate" = none
  b_zip : mg "zip" = none
  b_isinstance : mg "isinstance" = none
  b_bool : mg "bool" = none
  b_str : mg "str" = none
  g_MOST_DEEDS : ∃ u, mg "MOST_DEEDS" = some u ∧ RelV (.int 8) u
  g_MOST_STATES : ∃ u, mg "MOST_STATES" = some u ∧ RelV (.int 12) u
  g_RESET : ∃ u, mg "RESET" = some u ∧ RelV (.str "reset") u
  g_PAIR : ∃ u, mg "PAIR" = some u ∧ RelV (.str "pair") u
/-- the class Machine, made by its __init__ -/
structure ClM (P : Program) (w : World) (K : PySem.W.Frag) (mg : Str → Option Value) (base : Heap) (C : Addr) (k : Nat) (sp : Sp) : Prop where
  ex : ∃ (f : Addr) (fd : FuncData) (ps : List Str), Mk K C f ∧ FnOk P w K mg base CX0 k f fd ps sp ∧ mg "Machine" = some (.ref C) ∧ Binds K fd ps []
section
variable {X : Cx}
theorem pe_gx {v : V} {x : Str} {pos : Pos} (hg : Gl X x) (h : ∃ u, X.mg x = some u ∧ RelV v u) (hd : (x == ("__debug__" : Str)) = false := by decide) : PE X (.Name x pos) (tC v) := by
  obtain ⟨u, h1, h2⟩ := h
  exact pe_glob hg h1 h2 (by assumption)
theorem pe_mach {C : Addr} {k j : Nat} {sp : Sp} {p pos : Pos} {e : Expr} {es : List Expr} {t : TA} (c : ClM X.prog X.w X.K X.mg X.base C k sp) (hr : Room j X.A) (hk : k + 1 ≤ j) (hg : Gl X "Machine") (ha : PA X (e :: es) t)
    (hdb : (("Machine" : Str) == ("__debug__" : Str)) = false := by decide) (he : starEach (e :: es) X.env = (false, eval e X.env) :: starEach es X.env := by rfl) (hpl : (backTo pos (starEach es X.env)).any (·.1) = false := by rfl) :
    PE X (.Call (.Name "Machine" p) (e :: es) [] pos) (tMake C sp [] E0 t) := by
  obtain ⟨f, fd, ps, M, F, hm, b⟩ := c.ex
  exact pe_make M F (hr.mono hk) hg hm b .nil pass0 ha hdb he hpl
/-- a list or a tuple, walked -/
def iSeq (K : PySem.W.Frag) (tl : TE) : TI := fun σ H R => tl σ H fun x H1 => ∃ a, x = .ref a ∧ (((∃ xs, SqL K H1 a xs) ∧ R (Itl K a) H1) ∨ ((∃ xs, SqT K H1 a xs) ∧ R (Itt K a) H1))
theorem pi_seq {tg l : Expr} {tl : TE} (hl : PE X l tl) : PI X tg l (iSeq X.K tl) := by
  refine ⟨fun pins s σ H R I h => thn (hl.run pins s σ H _ I h) fun v s1 z => ?_⟩
  obtain ⟨x, H1, I1, r1, a, rfl, q⟩ := z
  obtain rfl : v = Value.ref a := r1
  have fp1 : ∀ b ∈ [s1.heap.objs.size], FpOk X pins H1 b := fun b hb => by
    rw [List.mem_singleton.mp hb]
    exact I1.fpOk (Nat.le_refl _) (I1.hok.fresh (Nat.le_refl _))
  rcases q with ⟨⟨xs, hq⟩, q⟩ | ⟨⟨xs, hq⟩, q⟩
  · obtain ⟨its, _, p, _⟩ := I1.list hq
    exact wpAny_pyIter_list p.isList ⟨_, _, _, _, H1, rfl, I1.kept (t' := s1.toks) fun b o e => Heap.get?_push_of_some _ e, turn_list a _, ⟨_, Heap.get?_push_size _ rfl, rfl, rfl⟩, fp1, q⟩
  · obtain ⟨its, _, p, _⟩ := I1.tuple hq
    exact wpAny_pyIter_tuple (show s1.heap.IsTuple a its.toArray from p) ⟨_, _, _, _, H1, rfl, I1.kept (t' := s1.toks) fun b o e => Heap.get?_push_of_some _ e, turn_tuple a _, ⟨_, Heap.get?_push_size _ rfl, rfl, rfl⟩, fp1, q⟩
end
theorem i_seq {N : Nv} {M : Mm} {Γ : Cnt} {tl : TE} {c : PyData} {ds : List PyData} (h : E1 N M Γ tl (.d c)) (hc : c = .tuple ds ∨ c = .list ds) : EvJ N M Γ (iSeq N.K tl) (ds.map Bd.d) := fun G H σ R s e bx k => h G H σ _ s e bx fun v d G1 H1 g1 b1 p1 h1 => by
  subst p1
  rcases hc with rfl | rfl
  · have h2 := h1.dt
    cases h2 with
    | tup e2 r => exact ⟨_, rfl, .inr ⟨⟨_, .of (g1.s _ _ e2)⟩, k _ G1 H1 g1 b1 fun _ => itx_tup (Dt.tup e2 r)⟩⟩
  · have h2 := h1.dt
    cases h2 with
    | lst e2 r => exact ⟨_, rfl, .inl ⟨⟨_, .of (g1.s _ _ e2)⟩, k _ G1 H1 g1 b1 fun _ => itx_lst (Dt.lst e2 r)⟩⟩
end Ag

/-! Things that change: dicts from tuples, lists that are read while they grow; a machine's fields; more expressions. -/
namespace Ag
open PySem PySem.Spec PyProof.Rows L2

/-! ### a machine's fields -/
structure Mc (N : Nv) : Prop where
  cls : Cls N.K N.C
  tb : NoAttr N.K N.C "tables"
  de : NoAttr N.K N.C "deeds"
  st : NoAttr N.K N.C "states"
section
variable {N : Nv} {M : Mm} {Γ : Cnt} {ta tb tc td ty te : TE} {ts : List (List Nat)}
theorem e_tables (m : Mc N) (h : E1 N M Γ ta (.m ts)) : E1 N M Γ (tFld N.K ta "tables") (.d (ttD ts)) := fun G H σ Q s e bx k => h G H σ _ s e bx fun v d G1 H1 g1 b1 p1 h1 => by
  subst p1
  obtain ⟨a, dx, t, rfl, h2, h3⟩ := h1
  exact ⟨a, N.C, dx, _, .ref t, rfl, g1.s _ _ h2, m.cls, m.tb, by rfl, k _ _ G1 H1 g1 b1 rfl h3⟩
theorem e_deeds (m : Mc N) (h : E1 N M Γ ta (.m ts)) : E1 N M Γ (tFld N.K ta "deeds") (.d (.int (ts.length : Nat))) := fun G H σ Q s e bx k => h G H σ _ s e bx fun v d G1 H1 g1 b1 p1 h1 => by
  subst p1
  obtain ⟨a, dx, t, rfl, h2, h3⟩ := h1
  exact ⟨a, N.C, dx, _, .int (ts.length : Nat), rfl, g1.s _ _ h2, m.cls, m.de, by rfl, k _ _ G1 H1 g1 b1 rfl (Dt.int _)⟩
theorem e_states (m : Mc N) (h : E1 N M Γ ta (.m ts)) : E1 N M Γ (tFld N.K ta "states") (.d (.int ((ts.headD []).length : Nat))) := fun G H σ Q s e bx k => h G H σ _ s e bx fun v d G1 H1 g1 b1 p1 h1 => by
  subst p1
  obtain ⟨a, dx, t, rfl, h2, h3⟩ := h1
  exact ⟨a, N.C, dx, _, .int ((ts.headD []).length : Nat), rfl, g1.s _ _ h2, m.cls, m.st, by rfl, k _ _ G1 H1 g1 b1 rfl (Dt.int _)⟩

/-! ### dicts from tuples of ints -/
def lkE (es : List (List Int × PyData)) (k : List Int) : Option PyData := (es.find? fun e => decide (e.1 = k)).map (·.2)
theorem inl_map {a b : List Int} : (a.map (fun n => (Sum.inl n : Key)) = b.map (fun n => (Sum.inl n : Key))) ↔ a = b := by
  constructor
  · intro h
    induction a generalizing b with
    | nil =>
      cases b with
      | nil => rfl
      | cons _ _ => simp at h
    | cons x a ih =>
      cases b with
      | nil => simp at h
      | cons y b =>
        simp only [List.map_cons, List.cons.injEq, Sum.inl.injEq] at h
        rw [h.1, ih h.2]
  · intro h
    rw [h]
theorem EnH.val {G : Hp} (k : List Int) : ∀ {kvs : List (List Key × V)} {es : List (List Int × PyData)}, EnH G kvs es →
    (lkE es k = none ∧ valV kvs (k.map fun n => (Sum.inl n : Key)) = none) ∨ ∃ d v, lkE es k = some d ∧ valV kvs (k.map fun n => (Sum.inl n : Key)) = some v ∧ Dt G v d
  | _, _, .nil => .inl ⟨rfl, rfl⟩
  | kv :: kvs, e :: es, .cons h r => by
    by_cases q : e.1 = k
    · refine .inr ⟨e.2, kv.2, ?_, ?_, h.2⟩
      · simp [lkE, List.find?_cons, q]
      · exact valV_pos (by rw [h.1, q])
    · have n1 : lkE (e :: es) k = lkE es k := by simp [lkE, List.find?_cons, q]
      have n2 : valV (kv :: kvs) (k.map fun n => (Sum.inl n : Key)) = valV kvs (k.map fun n => (Sum.inl n : Key)) := valV_neg fun z => q (inl_map.mp (h.1.symm.trans z))
      rw [n1, n2]
      exact EnH.val k r
theorem EnH.snoc {G : Hp} {kvs : List (List Key × V)} {es : List (List Int × PyData)} {k : List Int} {v : V} {d : PyData} (h : EnH G kvs es) (hv : Dt G v d) : EnH G (kvs ++ [(k.map (fun n => (Sum.inl n : Key)), v)]) (es ++ [(k, d)]) := paired_snoc h ⟨rfl, hv⟩
theorem EnH.length {G : Hp} {kvs : List (List Key × V)} {es : List (List Int × PyData)} (h : EnH G kvs es) : kvs.length = es.length := Paired.length h
theorem tup_ints {G : Hp} {v : V} {ns : List Int} (h : Dt G v (.tuple (ns.map .int))) : ∃ b, v = .ref b ∧ G b = some (.tup ((ns.map fun n => (Sum.inl n : Key)).map kV)) := by
  cases h with
  | tup e r =>
    have q := DtA.ints r
    subst q
    refine ⟨_, rfl, ?_⟩
    rw [e, List.map_map]
    rfl
theorem e_dnin {l : Addr} {es : List (List Int × PyData)} {j : Nat} {ns : List Int} (hR : M.R[j]? = some (l, .dt es)) (ha : E1 N M Γ td (.v (.ref l))) (hy : E1 N M Γ ty (.d (.tuple (ns.map .int)))) : E1 N M Γ (tDNotIn ty td) (.d (.bool (lkE es ns).isNone)) := fun G H σ Q s e bx k =>
  hy G H σ _ s e bx fun v d G1 H1 g1 b1 p1 h1 => ha G1 H1 σ _ g1.s (e.mono g1.g) b1 fun v2 d2 G2 H2 g2 b2 p2 h2 => by
    subst p1 p2
    obtain ⟨b, rfl, hb⟩ := tup_ints (h1.mono g2.g).dt
    obtain rfl : v2 = .ref l := h2
    obtain ⟨⟨kvs, hk, en⟩, _, _⟩ := b2.res _ (List.mem_of_getElem? hR)
    refine ⟨l, _, rfl, DGet.t hk (g2.s _ _ hb), k _ _ G2 H2 (g1.trans g2) b2 rfl ?_⟩
    rcases EnH.val ns en with ⟨q1, q2⟩ | ⟨d, v, q1, q2, _⟩
    · rw [q1, q2]
      exact Dt.bl _
    · rw [q1, q2]
      exact Dt.bl _
theorem e_dget {l : Addr} {es : List (List Int × PyData)} {j : Nat} {ns : List Int} {x : PyData} (hR : M.R[j]? = some (l, .dt es)) (ha : E1 N M Γ td (.v (.ref l))) (hy : E1 N M Γ ty (.d (.tuple (ns.map .int)))) (hx : lkE es ns = some x) : E1 N M Γ (tDGet td ty) (.d x) := fun G H σ Q s e bx k =>
  ha G H σ _ s e bx fun v d G1 H1 g1 b1 p1 h1 => hy G1 H1 σ _ g1.s (e.mono g1.g) b1 fun v2 d2 G2 H2 g2 b2 p2 h2 => by
    subst p1 p2
    obtain ⟨b, rfl, hb⟩ := tup_ints h2.dt
    obtain rfl : v = .ref l := h1
    obtain ⟨⟨kvs, hk, en⟩, _, _⟩ := b2.res _ (List.mem_of_getElem? hR)
    rcases EnH.val ns en with ⟨q1, q2⟩ | ⟨d, v, q1, q2, hv⟩
    · rw [hx] at q1
      cases q1
    · rw [hx] at q1
      cases q1
      exact ⟨l, v, rfl, by rw [← q2]; exact DGet.t hk (g2.s _ _ hb), k _ _ G2 H2 (g1.trans g2) b2 rfl hv⟩

/-! ### a list that grows, read -/
def flatD : PyData → Bool
  | .list _ => false
  | .tuple _ => false
  | .dict _ => false
  | _ => true
theorem Dt.flat {G G' : Hp} {v : V} {x : PyData} (h : Dt G v x) (f : flatD x = true) : Dt G' v x := by
  cases h with
  | non => exact .non
  | bl b => exact .bl b
  | int i => exact .int i
  | str z => exact .str z
  | lst _ _ => cases f
  | tup _ _ => cases f
/-- as if it changed no more -/
theorem e_thaw {l : Addr} {ds : List PyData} {i j : Nat} {x : PyData} (hR : M.R[j]? = some (l, .lst ds)) (hΓ : Γ[i]? = some (some (.v (.ref l)))) (h : E1 N ⟨M.B, []⟩ (Γ.set i (some (.d (.list ds)))) te (.d x)) (f : flatD x = true) : E1 N M Γ te (.d x) := fun G H σ Q s e bx k => by
  obtain ⟨⟨xs, eL, hd⟩, nL, fr⟩ := bx.res _ (List.mem_of_getElem? hR)
  have sm : Same G (upd G l (.lst xs)) := fun a o q => by
    rw [upd_ne (ne_of_none q nL)]
    exact q
  have hh : Dt (upd G l (.lst xs)) (.ref l) (.list ds) := Dt.lst upd_same (DtA.mono sm _ hd)
  have sH : Same (upd G l (.lst xs)) H := fun a o q => by
    by_cases z : a = l
    · subst z
      rw [upd_same] at q
      cases q
      exact eL
    · rw [upd_ne z] at q
      exact s _ _ q
  have env : Env N (upd G l (.lst xs)) σ (Γ.set i (some (.d (.list ds)))) := by
    refine ⟨by rw [List.length_set]; exact e.len, fun n b q => ?_⟩
    by_cases z : i = n
    · subst z
      rw [List.getElem?_set_self (List.getElem?_eq_some_iff.mp hΓ).1] at q
      cases q
      obtain ⟨v, k1, k2⟩ := e.at_ i _ hΓ
      exact ⟨v, k1, by rw [show v = .ref l from k2]; exact hh⟩
    · rw [List.getElem?_set_ne z] at q
      obtain ⟨v, k1, k2⟩ := e.at_ n _ q
      exact ⟨v, k1, k2.mono sm⟩
  have mok : Mok ⟨M.B, []⟩ (upd G l (.lst xs)) H := ⟨fun b hb => ⟨(bx.box b hb).1, by rw [upd_ne (fun z => fr (by rw [← z]; exact hb))]; exact (bx.box b hb).2⟩, fun p hp => by simp at hp⟩
  refine h _ H σ _ sH env mok fun v d G1 H1 g1 b1 p1 h1 => ?_
  subst p1
  have e1 : G1 l = some (.lst xs) := by
    rw [g1.n l (NT.lst eL)]
    exact upd_same
  obtain ⟨Gz, lk, ll⟩ : ∃ Gz : Hp, (∀ a, a ≠ l → Gz a = G1 a) ∧ Gz l = none := ⟨fun a => if a = l then none else G1 a, fun a z => if_neg z, if_pos rfl⟩
  have gg : Gr M.B G H Gz H1 := by
    refine ⟨fun a o q => ?_, g1.h, g1.d, fun a o q => ?_, fun a q => ?_, g1.t⟩
    · rw [lk a (ne_of_none q nL)]
      exact g1.g _ _ (sm _ _ q)
    · by_cases z : a = l
      · rw [z, ll] at q
        cases q
      · rw [lk a z] at q
        exact g1.s _ _ q
    · by_cases z : a = l
      · rw [z, ll, nL]
      · rw [lk a z, g1.n a q, upd_ne z]
  refine k v _ _ H1 gg ⟨fun b hb => ?_, fun p hp => ?_⟩ rfl (Dt.flat h1.dt f)
  · refine ⟨(b1.box b hb).1, ?_⟩
    rw [lk b (fun z => fr (by rw [← z]; exact hb))]
    exact (b1.box b hb).2
  · obtain ⟨k0, k1, k2⟩ := bx.res p hp
    refine ⟨RHold.mono gg.g (fun o q => g1.h _ _ k2 q) k0, ?_, k2⟩
    rw [gg.n _ (RHold.nt k0)]
    exact k1
/-- xs[i], xs a list that grows -/
theorem e_ixR {l : Addr} {ds : List PyData} {j m : Nat} {i : Int} {x : PyData} (hR : M.R[j]? = some (l, .lst ds)) (ha : E1 N M Γ ta (.v (.ref l))) (hb : E1 N M Γ tb (.d (.int i))) (hi : ixN ds.length i = some m) (hx : ds[m]? = some x) : E1 N M Γ (tOp (rIx N.K) ta tb) (.d x) := fun G H σ Q s e bx k =>
  ha G H σ _ s e bx fun v d G1 H1 g1 b1 p1 h1 => hb G1 H1 σ _ g1.s (e.mono g1.g) b1 fun v2 d2 G2 H2 g2 b2 p2 h2 => by
    subst p1 p2
    obtain rfl : v = .ref l := h1
    rw [h2.int]
    obtain ⟨⟨xs, eL, hd⟩, _, _⟩ := b2.res _ (List.mem_of_getElem? hR)
    obtain ⟨v, q1, q2⟩ := hd.get hx
    refine .inl ⟨_, xs, _, v, rfl, rfl, .of eL, ?_, k _ _ G2 H2 (g1.trans g2) b2 rfl q2⟩
    unfold atI
    rw [hd.length, hi]
    exact q1

/-! ### more -/
theorem e_tupRg {n : Nat} (h : E1 N M Γ te (.d (.int (n : Int)))) (hn : n ≤ 100000) : E1 N M Γ (tTupRg (tRg1 te)) (.d (tnD (List.range n))) := fun G H σ Q s e bx k => h G H σ _ s e bx fun v d G1 H1 g1 b1 p1 h1 => by
  subst p1
  rw [h1.int]
  refine ⟨(n : Int), rfl, RgOk.of_le (by omega) (by omega) (by omega) (by omega), fun q nq => ?_⟩
  have g := Gr.new (o := HO.tup (rgV 0 (n : Int))) g1.s nq
  refine k _ _ _ _ (g1.trans g.any) (b1.keep g) rfl (Dt.tup upd_same ?_)
  have e1 : rgV 0 (n : Int) = ((List.range n).map fun i => ((i : Nat) : Int)).map V.int := by
    unfold rgV
    rw [Int.sub_zero, Int.toNat_natCast, List.map_map]
    refine List.map_congr_left fun i _ => ?_
    show V.int (0 + (i : Int)) = V.int (i : Int)
    rw [Int.zero_add]
  have e2 : ((List.range n).map fun i => PyData.int ((i : Nat) : Int)) = ((List.range n).map fun i => ((i : Nat) : Int)).map PyData.int := by
    rw [List.map_map]
    rfl
  rw [e1, e2]
  exact DtA.ofInts _
/-- a ≤ b ≤ c -/
theorem e_chain {a b c : Int} (ha : E1 N M Γ ta (.d (.int a))) (hb : E1 N M Γ tb (.d (.int b))) (hc : E1 N M Γ tc (.d (.int c))) :
    E1 N M Γ (tChain (rI0 fun i j => .bl (decide (i ≤ j))) (rI0 fun i j => .bl (decide (i ≤ j))) ta tb tc) (.d (.bool (decide (a ≤ b) && decide (b ≤ c)))) := fun G H σ Q s e bx k =>
  ha G H σ _ s e bx fun v d G1 H1 g1 b1 p1 h1 => hb G1 H1 σ _ g1.s (e.mono g1.g) b1 fun v2 d2 G2 H2 g2 b2 p2 h2 => by
    subst p1 p2
    rw [h1.int, h2.int]
    refine ⟨a, b, rfl, rfl, decide (a ≤ b), rfl, ?_⟩
    by_cases q : a ≤ b
    · rw [if_pos (decide_eq_true q)]
      refine hc G2 H2 σ _ g2.s (e.mono (g1.g.trans g2.g)) b2 fun v3 d3 G3 H3 g3 b3 p3 h3 => ?_
      subst p3
      rw [h3.int]
      refine ⟨b, c, rfl, rfl, k _ _ G3 H3 ((g1.trans g2).trans g3) b3 rfl ?_⟩
      rw [decide_eq_true q, Bool.true_and]
      exact Dt.bl _
    · rw [if_neg (by simp [q])]
      refine k _ _ G2 H2 (g1.trans g2) b2 rfl ?_
      rw [decide_eq_false q, Bool.false_and]
      exact Dt.bl _
theorem DtA.cut {G : Hp} {xs : List V} {ds : List PyData} (h : DtA G xs ds) (lo hi : Option Int) : DtA G (cutV xs lo hi) ((ds.drop (HT.sIx ds.length 0 lo)).take (HT.sIx ds.length ds.length hi - HT.sIx ds.length 0 lo)) := by
  unfold cutV
  rw [h.length]
  exact (h.drop _).take _
theorem cut_whole {α : Type} (l : List α) (lo hi : Option Int) (h : HT.sIx l.length 0 lo = 0 ∧ HT.sIx l.length l.length hi = l.length) : (l.drop (HT.sIx l.length 0 lo)).take (HT.sIx l.length l.length hi - HT.sIx l.length 0 lo) = l := by
  rw [h.1, h.2, List.drop_zero, Nat.sub_zero, List.take_length]
def reD : PyData → List PyData → PyData
  | .tuple _, ds => .tuple ds
  | _, ds => .list ds
theorem rsl {G H : Hp} {v : V} {c : PyData} {ds : List PyData} {lo hi : Option Int} {Q : VK} (s : Same G H) (hc : c = .tuple ds ∨ c = .list ds) (h : Dt G v c)
    (k : ∀ z G' H', Gr [] G H G' H' → Dt G' z (reD c ((ds.drop (HT.sIx ds.length 0 lo)).take (HT.sIx ds.length ds.length hi - HT.sIx ds.length 0 lo))) → Q z H') : rSl N.K v lo hi H Q := by
  rcases hc with rfl | rfl
  · cases h with
    | tup e r =>
      rename_i a xs
      refine .inr ⟨a, xs, rfl, .of (s _ _ e), fun w => ?_, fun w p np => ?_⟩
      · rw [r.length] at w
        refine k _ G H (.refl s) ?_
        rw [cut_whole ds lo hi w]
        exact Dt.tup e r
      · have g := Gr.new (o := HO.tup (cutV xs lo hi)) s np
        exact k _ _ _ g (Dt.tup upd_same (DtA.cut (DtA.mono g.g _ r) lo hi))
  · cases h with
    | lst e r =>
      rename_i a xs
      refine .inl ⟨a, xs, rfl, .of (s _ _ e), fun p np => ?_⟩
      have g := Gr.new (o := HO.lst (cutV xs lo hi)) s np
      exact k _ _ _ g (Dt.lst upd_same (DtA.cut (DtA.mono g.g _ r) lo hi))
/-- t[:n], t a tuple -/
theorem e_slTo {ds : List PyData} {n : Nat} (ha : E1 N M Γ ta (.d (.tuple ds))) (hb : E1 N M Γ tb (.d (.int (n : Int)))) : E1 N M Γ (tSl (rSl N.K) ta tNoPart (tPart tb)) (.d (.tuple (ds.take n))) := fun G H σ Q s e bx k =>
  ha G H σ _ s e bx fun v d G1 H1 g1 b1 p1 h1 => hb G1 H1 σ _ g1.s (e.mono g1.g) b1 fun v2 d2 G2 H2 g2 b2 p2 h2 => by
    subst p1 p2
    refine ⟨(n : Int), h2.int, rsl g2.s (.inl rfl) (h1.mono g2.g).dt fun z G3 H3 g3 h3 => ?_⟩
    refine k z _ G3 H3 ((g1.trans g2).trans g3.any) (b2.keep g3) rfl ?_
    have e1 : (ds.drop (HT.sIx ds.length 0 none)).take (HT.sIx ds.length ds.length (some (n : Int)) - HT.sIx ds.length 0 none) = ds.take n := by
      rw [HT.sIx_none, HT.sIx_nat, List.drop_zero, Nat.sub_zero]
      by_cases q : n ≤ ds.length
      · rw [Nat.min_eq_left q]
      · rw [Nat.min_eq_right (by omega), List.take_length, List.take_of_length_le (by omega)]
    show Dt G3 z (.tuple (ds.take n))
    rw [← e1]
    exact h3
/-- xs[1:] -/
theorem e_slFrom {c : PyData} {ds : List PyData} (hc : c = .tuple ds ∨ c = .list ds) (ha : E1 N M Γ ta (.d c)) (hb : E1 N M Γ tb (.d (.int 1))) : E1 N M Γ (tSl (rSl N.K) ta (tPart tb) tNoPart) (.d (reD c (ds.drop 1))) := fun G H σ Q s e bx k =>
  ha G H σ _ s e bx fun v d G1 H1 g1 b1 p1 h1 => hb G1 H1 σ _ g1.s (e.mono g1.g) b1 fun v2 d2 G2 H2 g2 b2 p2 h2 => by
    subst p1 p2
    refine ⟨(1 : Int), h2.int, rsl g2.s hc (h1.mono g2.g).dt fun z G3 H3 g3 h3 => ?_⟩
    refine k z _ G3 H3 ((g1.trans g2).trans g3.any) (b2.keep g3) rfl ?_
    have e1 : (ds.drop (HT.sIx ds.length 0 (some (1 : Int)))).take (HT.sIx ds.length ds.length none - HT.sIx ds.length 0 (some (1 : Int))) = ds.drop 1 := by
      rw [HT.sIx_none, show (some (1 : Int)) = some ((1 : Nat) : Int) from rfl, HT.sIx_nat]
      by_cases q : 1 ≤ ds.length
      · rw [Nat.min_eq_left q, List.take_of_length_le (by rw [List.length_drop]; omega)]
      · have : ds = [] := List.eq_nil_of_length_eq_zero (by omega)
        subst this
        rfl
    rw [e1] at h3
    exact h3
theorem first_at {x : Int} : ∀ {ns : List Int}, x ∈ ns → ∃ j : Nat, ns[j]? = some x ∧ ∀ m : Nat, m < j → ns[m]? ≠ some x
  | [], hx => by cases hx
  | y :: ns, hx => by
    by_cases q : y = x
    · exact ⟨0, by simp [q], fun m h => by omega⟩
    · have hx2 : x ∈ ns := by
        rcases List.mem_cons.mp hx with z | z
        · exact absurd z.symm q
        · exact z
      obtain ⟨j, h1, h2⟩ := first_at hx2
      refine ⟨j + 1, by simpa using h1, fun m hm => ?_⟩
      cases m with
      | zero => simpa using q
      | succ m => simpa using h2 m (by omega)
/-- xs.index(x), ints -/
theorem e_index {ns : List Int} {x : Int} (ha : E1 N M Γ ta (.d (.list (ns.map .int)))) (hb : E1 N M Γ tb (.d (.int x))) (hx : x ∈ ns) : Ev N M Γ (tBM N.K "list" (rIndex N.K) ta (tCons tb tNil)) (fun d => ∃ j : Nat, d = .d (.int (j : Int)) ∧ ns[j]? = some x ∧ ∀ m, m < j → ns[m]? ≠ some x) := fun G H σ Q s e bx k =>
  ha G H σ _ s e bx fun v d G1 H1 g1 b1 p1 h1 => by
    subst p1
    have h2 := h1.dt
    cases h2 with
    | lst eL r =>
      have q := DtA.ints r
      subst q
      refine ⟨.inl ⟨rfl, _, .of (g1.s _ _ eL)⟩, hb G1 H1 σ _ g1.s (e.mono g1.g) b1 fun v2 d2 G2 H2 g2 b2 p2 h2 => ?_⟩
      subst p2
      rw [h2.int]
      obtain ⟨j, hj, e1⟩ := first_at hx
      refine ⟨_, ns.map V.int, .int x, j, .int x, rfl, rfl, .of (g2.s _ _ (g2.g _ _ eL)), rfl, ?_, by rw [List.getElem?_map, hj]; rfl, by simp [eqV], fun m z hm hz => ?_, k _ _ G2 H2 (g1.trans g2) b2 ⟨j, rfl, hj, e1⟩ (Dt.int _)⟩
      · rw [List.all_eq_true]
        intro y hy
        obtain ⟨i, _, rfl⟩ := List.mem_map.mp hy
        rfl
      · rw [List.getElem?_map] at hz
        cases q : ns[m]? with
        | none => simp [q] at hz
        | some y =>
          rw [q] at hz
          simp at hz
          subst hz
          have ne := e1 m hm
          rw [q] at ne
          simp [eqV]
          exact fun z => ne (by rw [z])
end
end Ag

/-! Statements over things that change; walks of a locked dict; dict comprehensions; making a machine; a def's entry. -/
namespace Ag
open PySem PySem.Spec PyProof.Rows L2
section
variable {F : Fx} {L : Hp} {M : Mm} {G H : Hp} {σ : L2.St} {Γ : Cnt} {D : Ends} {tu tw tz : TS} {te ta tb tk tv td ty : TE} {P : Bd → Prop} {g : TG} {tt : TT}
/-- x = [..] (it will change) -/
theorem q_newL {i : Nat} {tr : TA} {ds : List PyData} (S : Sta F L M G H σ Γ) (h : A1 F.N M Γ tr (ds.map Bd.d)) (hl : ds.length ≤ 90000) (k : ∀ p G' H', Sta F L ⟨M.B, (p, .lst ds) :: M.R⟩ G' H' (σ.set i (some (.ref p))) (Γ.set i (some (.v (.ref p)))) → tz D (σ.set i (some (.ref p))) H') : tSeq (tAsg (tLst tr) (gName i)) tz D σ H := by
  refine h G H σ _ S.s S.env S.mok fun vs bs G1 H1 g1 m1 p1 h1 => ?_
  subst p1
  have hd := HoldA.data h1
  have S1 := S.step g1 m1
  refine ⟨by rw [hd.length]; exact sz_le (by omega), fun p np => ?_⟩
  exact k p _ _ ((S1.new (r := .lst ds) np ⟨_, upd_same, hd⟩).set i (b := .v (.ref p)) rfl)
/-- x = {k: v} (it will change) -/
theorem q_newD {i : Nat} {ns : List Int} {x : PyData} (S : Sta F L M G H σ Γ) (hk : ∀ M', E1 F.N M' Γ tk (.d (.tuple (ns.map .int)))) (hv : ∀ M', E1 F.N M' Γ tv (.d x)) (k : ∀ p G' H', Sta F L ⟨M.B, (p, .dt [(ns, x)]) :: M.R⟩ G' H' (σ.set i (some (.ref p))) (Γ.set i (some (.v (.ref p)))) → tz D (σ.set i (some (.ref p))) H') : tSeq (tAsg (tDispT tk tv) (gName i)) tz D σ H := by
  intro p np
  have S1 := S.new (r := .dt []) np ⟨[], upd_same, .nil⟩
  refine hk _ _ _ σ _ S1.s S1.env S1.mok fun v d G2 H2 g2 m2 p2 h2 => ?_
  have S2 := S1.step g2 m2
  refine hv _ _ _ σ _ S2.s S2.env S2.mok fun v3 d3 G3 H3 g3 m3 p3 h3 => ?_
  have S3 := S2.step g3 m3
  subst p2 p3
  obtain ⟨b, rfl, hb⟩ := tup_ints (h2.mono g3.g).dt
  obtain ⟨⟨kvs, e, en⟩, _, _⟩ := m3.res _ (List.mem_of_getElem? (i := 0) rfl)
  cases en
  refine ⟨e, b, _, rfl, S3.s _ _ hb, ?_⟩
  exact k p _ _ ((S3.write (j := 0) (r' := .dt [(ns, x)]) rfl ⟨[(ns.map (fun n => (Sum.inl n : Key)), v3)], upd_same, .cons ⟨rfl, h3.dt⟩ .nil⟩).set i (b := .v (.ref p)) rfl)
/-- d[k] = v, k not there ahead -/
theorem q_dput {l : Addr} {es : List (List Int × PyData)} {j : Nat} {ns : List Int} (S : Sta F L M G H σ Γ) (hR : M.R[j]? = some (l, .dt es)) (ha : E1 F.N M Γ td (.v (.ref l))) (hk : E1 F.N M Γ ty (.d (.tuple (ns.map .int)))) (hv : Ev F.N M Γ tv P) (hp : ∀ d, P d → ∃ x, d = .d x) (hn : lkE es ns = none) (hz : es.length < 90000)
    (k : ∀ x G' H', P (.d x) → Sta F L ⟨M.B, M.R.set j (l, .dt (es ++ [(ns, x)]))⟩ G' H' σ Γ → tz D σ H') : tSeq (sDPut td ty tv) tz D σ H := by
  refine hv G H σ _ S.s S.env S.mok fun v d G1 H1 g1 m1 p1 h1 => ?_
  have S1 := S.step g1 m1
  refine ha G1 H1 σ _ S1.s S1.env S1.mok fun v2 d2 G2 H2 g2 m2 p2 h2 => ?_
  have S2 := S1.step g2 m2
  refine hk G2 H2 σ _ S2.s S2.env S2.mok fun v3 d3 G3 H3 g3 m3 p3 h3 => ?_
  have S3 := S2.step g3 m3
  subst p2 p3
  obtain ⟨x, rfl⟩ := hp d p1
  obtain rfl : v2 = .ref l := h2
  obtain ⟨b, rfl, hb⟩ := tup_ints h3.dt
  obtain ⟨⟨kvs, e, en⟩, _, _⟩ := m3.res _ (List.mem_of_getElem? hR)
  refine ⟨l, _, rfl, DPut.t e (S3.s _ _ hb) (by rw [en.length]; exact sz_lt (by omega)), ?_⟩
  have nv : valV kvs (ns.map fun n => (Sum.inl n : Key)) = none := by
    rcases EnH.val ns en with ⟨_, q⟩ | ⟨d, v, q, _, _⟩
    · exact q
    · rw [hn] at q
      cases q
  refine k x G3 _ p1 (S3.write hR ⟨_, upd_same, ?_⟩)
  rw [putK_new _ nv]
  exact EnH.snoc en (h1.mono (g2.g.trans g3.g)).dt
/-- a, b = xs.pop() -/
theorem q_pop {l : Addr} {ds : List PyData} {x y : PyData} {j a b : Nat} (S : Sta F L M G H σ Γ) (hR : M.R[j]? = some (l, .lst (ds ++ [.tuple [x, y]]))) (ha : E1 F.N M Γ ta (.v (.ref l)))
    (k : ∀ u v G' H', Sta F L ⟨M.B, M.R.set j (l, .lst ds)⟩ G' H' ((σ.set a (some u)).set b (some v)) ((Γ.set a (some (.d x))).set b (some (.d y))) → tz D ((σ.set a (some u)).set b (some v)) H') : tSeq (tAsg (tBM0 F.N.K "list" rPop ta) (gTup F.N.K 2 (gCons (gName a) (gCons (gName b) gNil)))) tz D σ H := by
  refine ha G H σ _ S.s S.env S.mok fun v d G1 H1 g1 m1 p1 h1 => ?_
  subst p1
  have S1 := S.step g1 m1
  obtain rfl : v = .ref l := h1
  obtain ⟨⟨xs, e, hd⟩, _, _⟩ := m1.res _ (List.mem_of_getElem? hR)
  have hl := hd.length
  rw [List.length_append] at hl
  simp at hl
  obtain ⟨w, q1, q2⟩ := hd.get (i := ds.length) (d := .tuple [x, y]) (by simp)
  refine ⟨.inl ⟨rfl, _, .of e⟩, l, xs, w, rfl, rfl, e, by rw [hl]; exact q1, ?_⟩
  have dl : DtA G1 xs.dropLast ds := by
    have := hd.take ds.length
    rw [List.take_left] at this
    rw [List.dropLast_eq_take, hl]
    exact this
  have S2 := S1.write hR (r' := .lst ds) ⟨_, upd_same, dl⟩
  cases q2 with
  | tup e2 r =>
    cases r with
    | cons a1 r =>
      cases r with
      | cons b1 r =>
        cases r
        rename_i pa u v
        exact ⟨pa, [u, v], rfl, .of (S2.s _ _ e2), rfl, u, [v], rfl, v, [], rfl, rfl, k u v G1 _ ((S2.set a (b := .d x) a1).set b (b := .d y) b1)⟩
/-- i += n -/
theorem s_aug {i : Nat} {a b : Int} (S : Sta F L M G H σ Γ) (hi : Γ[i]? = some (some (.d (.int a)))) (h : E1 F.N M Γ te (.d (.int b))) (k : ∀ v G' H', Sta F L M G' H' (σ.set i (some v)) (Γ.set i (some (.d (.int (a + b))))) → D.nx (σ.set i (some v)) H') : tAug i te (ipI fun i j => i + j) D σ H := by
  obtain ⟨v, e, hv⟩ := S.env.at_ i _ hi
  refine ⟨v, e, h G H σ _ S.s S.env S.mok fun v2 d G1 H1 g1 m1 p1 h1 => ?_⟩
  subst p1
  rw [hv.int, h1.int]
  exact ⟨a, b, rfl, rfl, k _ G1 H1 ((S.step g1 m1).set i (b := .d (.int (a + b))) (Dt.int _))⟩
/-- a, b = x, y -/
theorem s_par {i j : Nat} {x y : Bd} (S : Sta F L M G H σ Γ) {tr : TA} (h : A1 F.N M Γ tr [x, y]) (k : ∀ u v G' H', Sta F L M G' H' ((σ.set i (some u)).set j (some v)) ((Γ.set i (some x)).set j (some y)) → D.nx ((σ.set i (some u)).set j (some v)) H') : tPar i j tr D σ H := by
  refine h G H σ _ S.s S.env S.mok fun vs bs G1 H1 g1 m1 p1 h1 => ?_
  subst p1
  obtain ⟨v, u, rfl, q1, q2⟩ := vals_two h1
  exact ⟨v, u, rfl, k v u G1 H1 (((S.step g1 m1).set i q1).set j q2)⟩
/-- d, x, y = {k: v}, e1, e2; d will change -/
theorem q_par3D {i j l : Nat} {ns : List Int} {x y z : PyData} (S : Sta F L M G H σ Γ) (hk : ∀ M', E1 F.N M' Γ tk (.d (.tuple (ns.map .int)))) (hv : ∀ M', E1 F.N M' Γ tv (.d x)) (ha : ∀ M', E1 F.N M' Γ ta (.d y)) (hb : ∀ M', E1 F.N M' Γ tb (.d z))
    (k : ∀ p u v G' H', Sta F L ⟨M.B, (p, .dt [(ns, x)]) :: M.R⟩ G' H' (((σ.set i (some (.ref p))).set j (some u)).set l (some v)) (((Γ.set i (some (.v (.ref p)))).set j (some (.d y))).set l (some (.d z))) → tz D (((σ.set i (some (.ref p))).set j (some u)).set l (some v)) H') :
    tSeq (tPar3 i j l (tCons (tDispT tk tv) (tCons ta (tCons tb tNil)))) tz D σ H := by
  intro p np
  have S1 := S.new (r := .dt []) np ⟨[], upd_same, .nil⟩
  refine hk _ _ _ σ _ S1.s S1.env S1.mok fun v d G2 H2 g2 m2 p2 h2 => ?_
  have S2 := S1.step g2 m2
  refine hv _ _ _ σ _ S2.s S2.env S2.mok fun v3 d3 G3 H3 g3 m3 p3 h3 => ?_
  have S3 := S2.step g3 m3
  subst p2 p3
  obtain ⟨b, rfl, hb0⟩ := tup_ints (h2.mono g3.g).dt
  obtain ⟨⟨kvs, e, en⟩, _, _⟩ := m3.res _ (List.mem_of_getElem? (i := 0) rfl)
  cases en
  refine ⟨e, b, _, rfl, S3.s _ _ hb0, ?_⟩
  have S4 := S3.write (j := 0) (r' := .dt [(ns, x)]) rfl ⟨[(ns.map (fun n => (Sum.inl n : Key)), v3)], upd_same, .cons ⟨rfl, h3.dt⟩ .nil⟩
  refine ha _ _ _ σ _ S4.s S4.env S4.mok fun v5 d5 G5 H5 g5 m5 p5 h5 => ?_
  have S5 := S4.step g5 m5
  refine hb _ _ _ σ _ S5.s S5.env S5.mok fun v6 d6 G6 H6 g6 m6 p6 h6 => ?_
  have S6 := S5.step g6 m6
  subst p5 p6
  exact ⟨_, _, _, rfl, k p v5 v6 G6 H6 (((S6.set i (b := .v (.ref p)) rfl).set j (b := .d y) (h5.mono g6.g)).set l (b := .d z) h6)⟩
/-- a, b = e, []; b will change -/
theorem q_tupNil {i j : Nat} (S : Sta F L M G H σ Γ) (h : Ev F.N M Γ te P) (hp : ∀ d, P d → ∃ x, d = .d x)
    (k : ∀ x u p G' H', P (.d x) → Sta F L ⟨M.B, (p, .lst []) :: M.R⟩ G' H' ((σ.set i (some u)).set j (some (.ref p))) ((Γ.set i (some (.d x))).set j (some (.v (.ref p)))) → tz D ((σ.set i (some u)).set j (some (.ref p))) H') :
    tSeq (tAsg (tTup (tCons te (tCons (tLst tNil) tNil))) (gTup F.N.K 2 (gCons (gName i) (gCons (gName j) gNil)))) tz D σ H := by
  refine h G H σ _ S.s S.env S.mok fun v d G1 H1 g1 m1 p1 h1 => ?_
  obtain ⟨x, rfl⟩ := hp d p1
  have S1 := S.step g1 m1
  refine ⟨Nat.zero_le _, fun p np => ⟨(show 2 ≤ sizeLine from by decide), fun q nq => ?_⟩⟩
  have S2 := S1.new (r := .lst []) np ⟨[], upd_same, .nil⟩
  have S3 := S2.pure (Gr.newM (o := .tup [v, .ref p]) S2.s nq)
  refine ⟨q, _, rfl, .of upd_same, rfl, v, _, rfl, _, _, rfl, rfl, k x v p _ _ p1 ((S3.set i (b := .d x) h1).set j (b := .v (.ref p)) rfl)⟩
end

/-! ### a dict is walked: it is locked -/
section
variable {N : Nv} {M : Mm} {Γ : Cnt} {ta tb td te : TE} {P : Bd → Prop}
theorem set_mem_ne {R : List (Addr × Rc)} (nd : (R.map (·.1)).Nodup) {j : Nat} {l : Addr} {r r' : Rc} (hR : R[j]? = some (l, r)) {p : Addr × Rc} (hp : p ∈ R.set j (l, r')) : p = (l, r') ∨ (p ∈ R ∧ p.1 ≠ l) := by
  obtain ⟨i, hi⟩ := List.mem_iff_getElem?.mp hp
  by_cases q : j = i
  · subst q
    rw [List.getElem?_set_self (List.getElem?_eq_some_iff.mp hR).1] at hi
    exact .inl (Option.some.inj hi).symm
  · rw [List.getElem?_set_ne q] at hi
    exact .inr ⟨List.mem_of_getElem? hi, fun z => q (nd_at nd hR hi z.symm)⟩
theorem ev_lock {l : Addr} {es : List (List Int × PyData)} {j : Nat} (nd : (M.R.map (·.1)).Nodup) (hR : M.R[j]? = some (l, .dt es)) (h : ∀ o kvs, Ev N ⟨M.B, M.R.set j (l, .fz o kvs es)⟩ Γ te P) : Ev N M Γ (tLockE te) P := fun G H σ Q s e bx k => by
  obtain ⟨⟨kvs, hk, en⟩, nL, fr⟩ := bx.res _ (List.mem_of_getElem? hR)
  refine ⟨l, .dT kvs, hk, trivial, fun od => ?_⟩
  have s1 : Same G (upd H l (.frz od (.dT kvs))) := fun a o q => by
    rw [upd_ne (ne_of_none q nL)]
    exact s _ _ q
  have m1 : Mok ⟨M.B, M.R.set j (l, .fz od kvs es)⟩ G (upd H l (.frz od (.dT kvs))) := by
    refine ⟨fun b hb => ?_, fun p hp => ?_⟩
    · obtain ⟨⟨x, y, z, e⟩, n⟩ := bx.box b hb
      exact ⟨⟨x, y, z, by rw [upd_ne (fun q => fr (by rw [← q]; exact hb))]; exact e⟩, n⟩
    · rcases set_mem_ne nd hR hp with rfl | ⟨q, ne⟩
      · exact ⟨⟨upd_same, en⟩, nL, fr⟩
      · obtain ⟨k0, k1, k2⟩ := bx.res p q
        exact ⟨RHold.mono (Same.refl _) (fun o z => by rw [upd_ne ne]; exact z) k0, k1, k2⟩
  refine h od kvs G _ σ _ s1 e m1 fun v d G1 H1 g1 b1 p1 h1 => ?_
  have fz : H1 l = some (.frz od (.dT kvs)) := g1.h _ _ fr upd_same
  have n1 : G1 l = none := by
    rw [g1.n l ⟨_, upd_same, fun _ h => nomatch h⟩]
    exact nL
  refine ⟨fz, k v d G1 (upd H1 l (.dT kvs)) ?_ ?_ p1 h1⟩
  · refine ⟨g1.g, fun a o ha q => ?_, fun a q => ?_, fun a o q => ?_, fun a q => ?_, fun a q => ?_⟩
    · by_cases z : a = l
      · subst z
        rw [upd_same]
        rw [hk] at q
        exact q
      · rw [upd_ne z]
        exact g1.h _ _ ha (by rw [upd_ne z]; exact q)
    · by_cases z : a = l
      · subst z
        rw [upd_same]
        simp
      · rw [upd_ne z]
        exact g1.d _ (by rw [upd_ne z]; exact q)
    · rw [upd_ne (ne_of_none q n1)]
      exact g1.s _ _ q
    · by_cases z : a = l
      · rw [z, n1, nL]
      · obtain ⟨u, e1, e2⟩ := q
        exact g1.n _ ⟨u, by rw [upd_ne z]; exact e1, e2⟩
    · by_cases z : a = l
      · subst z
        exact ⟨_, upd_same, fun _ h => nomatch h⟩
      · obtain ⟨u, e1, e2⟩ := q
        obtain ⟨u', e3, e4⟩ := g1.t a ⟨u, by rw [upd_ne z]; exact e1, e2⟩
        exact ⟨u', by rw [upd_ne z]; exact e3, e4⟩
  · refine ⟨fun b hb => ?_, fun p hp => ?_⟩
    · obtain ⟨⟨x, y, z, e⟩, n⟩ := b1.box b hb
      exact ⟨⟨x, y, z, by rw [upd_ne (fun q => fr (by rw [← q]; exact hb))]; exact e⟩, n⟩
    · by_cases z : p.1 = l
      · obtain ⟨i, hi⟩ := List.mem_iff_getElem?.mp hp
        have ij := nd_at nd hR hi z.symm
        subst ij
        rw [hR] at hi
        cases hi
        obtain ⟨⟨_, en1⟩, _, _⟩ := b1.res (l, .fz od kvs es) (List.mem_of_getElem? (i := j) (List.getElem?_set_self (List.getElem?_eq_some_iff.mp hR).1))
        exact ⟨⟨kvs, upd_same, en1⟩, n1, fr⟩
      · obtain ⟨i, hi⟩ := List.mem_iff_getElem?.mp hp
        have ne : j ≠ i := fun q => by
          subst q
          rw [hR] at hi
          cases hi
          exact z rfl
        obtain ⟨k0, k1, k2⟩ := b1.res p (List.mem_of_getElem? (i := i) (by rw [List.getElem?_set_ne ne]; exact hi))
        exact ⟨RHold.mono (Same.refl _) (fun o y => by rw [upd_ne z]; exact y) k0, k1, k2⟩
/-- a tuple that stands there is known from now on -/
theorem Gr.know {G H : Hp} {q : Addr} {xs : List V} (s : Same G H) (e : H q = some (.tup xs)) : Gr [] G H (upd G q (.tup xs)) H := by
  have z : ∀ o, G q = some o → o = .tup xs := fun o g => by
    rw [s _ _ g] at e
    exact Option.some.inj e
  refine ⟨fun a o g => ?_, fun a o _ h => h, fun a h => h, fun a o g => ?_, fun a nt => ?_, fun a h => h⟩
  · by_cases y : a = q
    · subst y
      rw [upd_same, z o g]
    · rw [upd_ne y]
      exact g
  · by_cases y : a = q
    · subst y
      rw [upd_same] at g
      cases g
      exact e
    · rw [upd_ne y] at g
      exact s _ _ g
  · by_cases y : a = q
    · subst y
      obtain ⟨u, e1, e2⟩ := nt
      rw [e] at e1
      cases e1
      exact absurd rfl (e2 xs)
    · exact upd_ne y
theorem dt_keys {G : Hp} {q : Addr} {ns : List Int} (e : G q = some (.tup ((ns.map fun n => (Sum.inl n : Key)).map kV))) : Dt G (.ref q) (.tuple (ns.map .int)) := by
  rw [List.map_map] at e
  exact Dt.tup e (DtA.ofInts ns)
/-- its keys -/
theorem i_keys {l : Addr} {o : Obj} {kvs : List (List Key × V)} {es : List (List Int × PyData)} {j : Nat} (hR : M.R[j]? = some (l, .fz o kvs es)) (ha : E1 N M Γ td (.v (.ref l))) : EvI N M Γ (iKeys td) (es.map fun e => .d (.tuple (e.1.map .int))) := fun G H σ R s e bx k => ha G H σ _ s e bx fun v d G1 H1 g1 b1 p1 h1 => by
  subst p1
  obtain rfl : v = .ref l := h1
  obtain ⟨⟨hk, en⟩, _, _⟩ := b1.res _ (List.mem_of_getElem? hR)
  refine ⟨l, o, rfl, .inr ⟨kvs, hk, k _ G1 H1 g1 b1 fun G H s1 s2 m => ?_⟩⟩
  obtain ⟨⟨hk2, _⟩, _, _⟩ := m.res _ (List.mem_of_getElem? hR)
  refine ⟨⟨hk2, by rw [List.length_map, en.length]; exact Nat.le_refl _⟩, fun i x hx => ?_⟩
  rw [List.getElem?_map] at hx
  cases q : es[i]? with
  | none =>
    rw [q] at hx
    cases hx
  | some e1 =>
    rw [q] at hx
    have hx := (Option.some.inj hx).symm
    subst hx
    have hi : i < kvs.length := by
      rw [en.length]
      exact (List.getElem?_eq_some_iff.mp q).1
    refine ⟨⟨hk2, hi⟩, fun u H' y => ?_⟩
    obtain ⟨rfl, kk, v, qa, e3, rfl, e4⟩ := y
    obtain ⟨kv, e5, e6, e7⟩ := paired_get en e3
    rw [q] at e5
    cases e5
    have e6 : kk = e1.1.map (fun n => (Sum.inl n : Key)) := e6
    subst e6
    exact ⟨_, Gr.know s2 e4, dt_keys upd_same⟩
/-- its keys with what stands there -/
theorem i_itemsT {l : Addr} {o : Obj} {kvs : List (List Key × V)} {es : List (List Int × PyData)} {j : Nat} (hR : M.R[j]? = some (l, .fz o kvs es)) (ha : E1 N M Γ td (.v (.ref l))) : EvI N M Γ (iItemsT td) (es.map fun e => .d (.tuple [.tuple (e.1.map .int), e.2])) := fun G H σ R s e bx k => ha G H σ _ s e bx fun v d G1 H1 g1 b1 p1 h1 => by
  subst p1
  obtain rfl : v = .ref l := h1
  obtain ⟨⟨hk, en⟩, _, _⟩ := b1.res _ (List.mem_of_getElem? hR)
  refine ⟨l, o, kvs, rfl, hk, k _ G1 H1 g1 b1 fun G H s1 s2 m => ?_⟩
  obtain ⟨⟨hk2, en2⟩, _, _⟩ := m.res _ (List.mem_of_getElem? hR)
  refine ⟨⟨hk2, by rw [List.length_map, en.length]⟩, fun i x hx => ?_⟩
  rw [List.getElem?_map] at hx
  cases q : es[i]? with
  | none =>
    rw [q] at hx
    cases hx
  | some e1 =>
    rw [q] at hx
    have hx := (Option.some.inj hx).symm
    subst hx
    have hi : i < kvs.length := by
      rw [en.length]
      exact (List.getElem?_eq_some_iff.mp q).1
    refine ⟨⟨hk2, hi⟩, fun u H' y => ?_⟩
    obtain ⟨T, qa, kk, v, e3, e4, rfl, nT, rfl⟩ := y
    obtain ⟨kv, e5, e6, e7⟩ := paired_get en2 e3
    rw [q] at e5
    cases e5
    have e6 : kk = e1.1.map (fun n => (Sum.inl n : Key)) := e6
    subst e6
    have g2 := Gr.know s2 e4
    have g3 := Gr.new (o := HO.tup [.ref qa, v]) g2.s nT
    exact ⟨_, g2.trans g3, Dt.tup upd_same (.cons (Dt.mono g3.g _ (dt_keys upd_same)) (.cons (Dt.mono (g2.g.trans g3.g) _ e7) .nil))⟩
end
end Ag

/-! Dict comprehensions; making a machine; a def's entry and its end. -/
namespace Ag
open PySem PySem.Spec PyProof.Rows L2

/-! ### {k: v for x in ..} -/
def ddS (acc : List Int) (k : Int) : List Int := if k ∈ acc then acc else acc ++ [k]
/-- each once, as they come -/
def ddK (l : List Int) : List Int := l.foldl ddS []
theorem ddK_snoc (l : List Int) (k : Int) : ddK (l ++ [k]) = ddS (ddK l) k := by
  unfold ddK
  rw [List.foldl_append]
  rfl
theorem ddS_len (acc : List Int) (k : Int) : (ddS acc k).length ≤ acc.length + 1 := by
  unfold ddS
  by_cases h : k ∈ acc
  · rw [if_pos h]
    omega
  · rw [if_neg h, List.length_append]
    simp
theorem putK_keys {kvs : List (Key × V)} {acc : List Int} (h : kvs.map (·.1) = acc.map (fun n => (Sum.inl n : Key))) (k : Int) (z : V) : (putK kvs (.inl k) z).map (·.1) = (ddS acc k).map (fun n => (Sum.inl n : Key)) := by
  have hm : ((kvs.any fun kv => decide (kv.1 = (Sum.inl k : Key))) = true) ↔ k ∈ acc := by
    rw [List.any_eq_true]
    constructor
    · rintro ⟨p, hp, e⟩
      have e := of_decide_eq_true e
      have : (Sum.inl k : Key) ∈ kvs.map (·.1) := List.mem_map.mpr ⟨p, hp, e⟩
      rw [h] at this
      obtain ⟨n, hn, e2⟩ := List.mem_map.mp this
      cases e2
      exact hn
    · intro hk
      have : (Sum.inl k : Key) ∈ kvs.map (·.1) := by
        rw [h]
        exact List.mem_map.mpr ⟨k, hk, rfl⟩
      obtain ⟨p, hp, e⟩ := List.mem_map.mp this
      exact ⟨p, hp, decide_eq_true e⟩
  unfold putK ddS
  by_cases q : k ∈ acc
  · rw [if_pos (hm.mpr q), if_pos q, List.map_map, ← h]
    refine List.map_congr_left fun kv _ => ?_
    show (if kv.1 = Sum.inl k then (kv.1, z) else kv).1 = kv.1
    split <;> rfl
  · rw [if_neg (fun e => q (hm.mp e)), if_neg q, List.map_append, List.map_append, h]
    rfl
section
variable {N : Nv} {M : Mm} {Γ : Cnt}
theorem e_dc {wi : TI} {g : TG} {tk tv : TE} {vs : List Nat} {xs : List Bd} (Γx : Bd → Cnt) (m : Bd → Int) (h : EvI N M Γ wi xs) (hl : xs.length ≤ 90000)
    (hg : ∀ x ∈ xs, GT N vs g x (wipeG Γ vs) (Γx x)) (hk : ∀ x ∈ xs, E1 N M (Γx x) tk (.d (.int (m x)))) (hv : ∀ x ∈ xs, ∃ y, E1 N M (Γx x) tv y) :
    E1 N M Γ (tDc wi g tYes tk tv vs) (.ks (ddK (xs.map m))) := fun G H σ Q s e bx k => by
  refine h G H σ _ s e bx fun J G1 H1 g1 m1 hJ => fun D nD => ?_
  let W : Nat → Hp → Prop := fun i H' => ∃ G' kvs, Gr M.B G1 H1 G' H' ∧ Mok M G' H' ∧ G' D = none ∧ H' D = some (.dK kvs) ∧ kvs.map (·.1) = (ddK ((xs.take i).map m)).map (fun n => (Sum.inl n : Key)) ∧ kvs.length ≤ i ∧ i ≤ xs.length
  have fr : D ∉ M.B := fun q => by
    obtain ⟨⟨_, _, _, z⟩, _⟩ := m1.box D q
    rw [nD] at z
    cases z
  have frR : ∀ p ∈ M.R, p.1 ≠ D := fun p hp q => by
    have z := RHold.ne (m1.res p hp).1
    rw [q] at z
    exact z nD
  have ntD : ∀ {H : Hp} {kvs : List (Key × V)}, H D = some (.dK kvs) → NT H D := fun e => ⟨_, e, fun _ h => nomatch h⟩
  refine ⟨fun i m H' => m = xs.length - i ∧ W i H', ⟨_, rfl, G1, [], (Gr.newM g1.s nD).any, m1.keep (Gr.newM g1.s nD), ?_, upd_same, rfl, Nat.le_refl _, Nat.zero_le _⟩, ?_⟩
  · cases q : G1 D with
    | none => rfl
    | some o =>
      rw [g1.s _ _ q] at nD
      cases nD
  · rintro i _ H' ⟨rfl, G', kvs, g2, m2, gD, hD, hz, hzl, hi⟩
    obtain ⟨stop, go⟩ := hJ G' H' g2.g g2.s m2
    by_cases hlt : i < xs.length
    · have hx : xs[i]? = some xs[i] := List.getElem?_eq_getElem hlt
      have hm : xs[i] ∈ xs := List.getElem_mem hlt
      obtain ⟨gi, yi⟩ := go i _ hx
      refine .inr ⟨gi, W (i + 1), fun H2 w => ⟨_, by omega, rfl, w⟩, fun u H2 y => ?_⟩
      obtain ⟨G2, g3, hu⟩ := yi u H2 y
      have m3 := m2.keep g3
      have nGD : ∀ {G H G' H' : Hp} {B : List Addr}, Gr B G H G' H' → G D = none → NT H D → G' D = none := fun g a b => by rw [g.n D b]; exact a
      have n2 : G2 D = none := nGD g3 gD (ntD hD)
      have hD2 : H2 D = some (.dK kvs) := g3.same _ _ hD
      have env2 : Env N G2 (wipe σ vs) (wipeG Γ vs) := (e.mono ((g1.g.trans g2.g).trans g3.g)).wipe vs
      refine hg _ hm G2 H2 _ u _ g3.s env2 hu fun σ2 e2 hw => ⟨hw.trans (wipe_wipe σ vs), ?_⟩
      show tk σ2 H2 _
      refine hk _ hm G2 H2 σ2 _ g3.s e2 m3 fun v d G3 H3 g4 m4 p4 h4 => ?_
      obtain ⟨yb, hy⟩ := hv _ hm
      refine hy G3 H3 σ2 _ g4.s (e2.mono g4.g) m4 fun v5 d5 G5 H5 g5 m5 p5 h5 => ?_
      subst p4
      rw [h4.int]
      have n5 : G5 D = none := nGD (g4.trans g5) n2 (ntD hD2)
      have hD5 : H5 D = some (.dK kvs) := (g4.trans g5).h _ _ fr hD2
      refine ⟨kvs, .inl (m xs[i]), rfl, hD5, sz_lt (by omega), G5, _, ((((g2.trans g3.any).trans g4).trans g5).step (Gr.wr g5.s n5 (fun _ h => nomatch h)) (fun x hx => .inr (by
          simp at hx
          subst hx
          exact nD))), ?_, n5, upd_same, ?_, ?_, hlt⟩
      · refine ⟨fun b hb => ?_, fun p hp => ?_⟩
        · obtain ⟨⟨a1, a2, a3, z⟩, n⟩ := m5.box b hb
          exact ⟨⟨a1, a2, a3, by rw [upd_ne (fun q => fr (by rw [← q]; exact hb))]; exact z⟩, n⟩
        · obtain ⟨r, n, nb⟩ := m5.res p hp
          exact ⟨RHold.mono (Same.refl _) (fun o z => by rw [upd_ne (frR p hp)]; exact z) r, n, nb⟩
      · rw [List.take_add_one, hx]
        show _ = (ddK ((xs.take i ++ [xs[i]]).map m)).map _
        rw [List.map_append]
        show _ = (ddK ((xs.take i).map m ++ [m xs[i]])).map _
        rw [ddK_snoc]
        exact putK_keys hz _ _
      · have q1 := congrArg List.length (putK_keys hz (m xs[i]) v5)
        have q2 := congrArg List.length hz
        have q3 := ddS_len (ddK ((xs.take i).map m)) (m xs[i])
        simp only [List.length_map] at q1 q2
        omega
    · have hil : i = xs.length := by omega
      have sm : Same G' (upd G' D (.dK kvs)) := fun a o q => by rw [upd_ne (ne_of_none q gD)]; exact q
      refine .inl ⟨hil ▸ stop, k _ _ (upd G' D (.dK kvs)) H' (g1.trans (g2.freeze nD gD hD)) ?_ rfl ⟨D, kvs, rfl, upd_same, ?_⟩⟩
      · refine ⟨fun b hb => ?_, fun p hp => ?_⟩
        · obtain ⟨z, n⟩ := m2.box b hb
          exact ⟨z, by rw [upd_ne (fun q => fr (by rw [← q]; exact hb))]; exact n⟩
        · obtain ⟨r, n, nb⟩ := m2.res p hp
          exact ⟨RHold.mono sm (fun o z => z) r, by rw [upd_ne (frR p hp)]; exact n, nb⟩
      · rw [hil, List.take_length] at hz
        exact hz
end

/-! ### a def's entry and its end -/
def Ret (F : Fx) (P : Bd → Prop) (Q : VK) : Prop := ∀ v d G' H', Gr F.B0 F.G0 F.H0 G' H' → (∀ b ∈ F.B0, BoxAt H' b) → P d → Hold F.N G' v d → Q v H'
theorem s_retF {F : Fx} {L : Hp} {M : Mm} {G H : Hp} {σ : L2.St} {Γ : Cnt} {D : Ends} {te : TE} {P' P : Bd → Prop} (S : Sta F L M G H σ Γ) (h : Ev F.N M Γ te P') (i : ∀ d, P' d → P d) (k : Ret F P D.rt) (hB : ∀ b ∈ F.B0, b ∈ M.B) : tRet te D σ H :=
  s_ret S h fun v d G' H' p S' hv => k v d G' H' S'.gr (fun b hb => (S'.mok.box b (hB b hb)).1) (i d p) hv
abbrev Rlt := List Bd → List Addr → (Bd → Prop) → Prop
def Walk (N : Nv) (R : TS) (Rl : Rlt) (k : Nat) : Prop := ∀ bs B P, Rl bs B P → ∀ (G H : Hp) (σ : L2.St) (D : Ends), Sta ⟨N, B, G, H⟩ G ⟨B, []⟩ G H σ (bs.map some ++ List.replicate k none) → Ret ⟨N, B, G, H⟩ P D.rt → R D σ H
theorem env_start {N : Nv} {G : Hp} (k : Nat) : ∀ {vs : List V} {bs : List Bd}, HoldA N G vs bs → Env N G (vs.map some ++ List.replicate k none) (bs.map some ++ List.replicate k none)
  | _, _, .nil => ⟨by simp, fun i b h => by
      rw [List.map_nil, List.nil_append, List.getElem?_replicate] at h
      split at h <;> cases h⟩
  | v :: vs, b :: bs, .cons a r => by
    have ih := env_start k r
    refine ⟨by
      have := ih.len
      simp only [List.map_cons, List.cons_append, List.length_cons]
      omega, fun i c h => ?_⟩
    cases i with
    | zero =>
      simp only [List.map_cons, List.cons_append, List.getElem?_cons_zero] at h ⊢
      cases h
      exact ⟨v, rfl, a⟩
    | succ i =>
      simp only [List.map_cons, List.cons_append, List.getElem?_cons_succ] at h ⊢
      exact ih.at_ i c h
theorem sta_start {N : Nv} {G H : Hp} {B : List Addr} {bs : List Bd} {vs : List V} (k : Nat) (s : Same G H) (h : HoldA N G vs bs) (hb : ∀ b ∈ B, BoxAt H b ∧ G b = none) : Sta ⟨N, B, G, H⟩ G ⟨B, []⟩ G H (vs.map some ++ List.replicate k none) (bs.map some ++ List.replicate k none) :=
  ⟨.refl s, Same.refl _, env_start k h, ⟨hb, fun p hp => by simp at hp⟩, fun b hb => .inl hb, fun p hp => by simp at hp, .nil⟩
section
variable {P : Program} {N : Nv} {mg : Str → Option Value} {base : Heap} {x qual : Str} {st : Stmt} {f : Addr} {fd : FuncData} {Nm ps : List Str} {k m : Nat} {Rl : Rlt} {R : TS}
theorem fn_ok (F : Fun N.K x qual st f fd) (S : FnScope Nm ps (defScope st)) (hl : ∀ bs B P, Rl bs B P → bs.length = ps.length) (hm : Nm.length - ps.length = m)
    (hD : ∀ (cdv : Value) (A : Around) (outer : List PySem.Env) (s : Shared) (H : Hp) (E : XK), Room k (A.deeper (envOfC qual (defScope st) s.heap.objs.size f cdv)) → PSs (cxOf CX0 P N.w N.K mg base Nm qual (defScope st) f cdv A outer s H E).nox (defBody st) R) (hW : Walk N R Rl m) :
    FnOk P N.w N.K mg base CX0 (k + 1) f fd ps (Spc N Rl) := by
  have len : ∀ vs H Q E, Spc N Rl vs H Q E → vs.length = ps.length := fun vs H Q E h => by
    obtain ⟨G, bs, B, P', _, ha, _, rl, _⟩ := h
    exact (HoldA.length ha).trans (hl _ _ _ rl)
  refine F.ok S len fun cdv A outer s H vs Q E hr hsp => ⟨R, hD cdv A outer s H E hr, ?_⟩
  have hv := len _ _ _ _ hsp
  obtain ⟨G, bs, B, P', s0, ha, hb, rl, kk⟩ := hsp
  have e : L2.start Nm vs = vs.map some ++ List.replicate m none := by
    unfold L2.start
    rw [hv, hm]
  rw [e]
  exact hW bs B P' rl G H _ _ (sta_start m s0 ha hb) fun v d G' H' g hb' p h => kk v d G' H' g hb' p h
theorem fn_okG (F : Fun N.K x qual st f fd) (S : FnScope Nm ps (defScope st)) (hl : ∀ bs B P, Rl bs B P → bs.length = ps.length) (hm : Nm.length - ps.length = m)
    (hD : ∀ (cdv : Value) (A : Around) (outer : List PySem.Env) (s : Shared) (H : Hp) (E : XK), A.guards = some [] → Room k (A.deeper (envOfC qual (defScope st) s.heap.objs.size f cdv)) → PSs (cxOf CX0 P N.w N.K mg base Nm qual (defScope st) f cdv A outer s H E).nox (defBody st) R) (hW : Walk N R Rl m) :
    FnG P N.w N.K mg base (k + 1) f fd ps (Spc N Rl) := by
  have len : ∀ vs H Q E, Spc N Rl vs H Q E → vs.length = ps.length := fun vs H Q E h => by
    obtain ⟨G, bs, B, P', _, ha, _, rl, _⟩ := h
    exact (HoldA.length ha).trans (hl _ _ _ rl)
  refine Ag.Fun.okG F S len fun cdv A outer s H vs Q hr hG hsp => ⟨R, hD cdv A outer s H E0 hG hr, ?_⟩
  have hv := len _ _ _ _ hsp
  obtain ⟨G, bs, B, P', s0, ha, hb, rl, kk⟩ := hsp
  have e : L2.start Nm vs = vs.map some ++ List.replicate m none := by
    unfold L2.start
    rw [hv, hm]
  rw [e]
  exact hW bs B P' rl G H _ _ (sta_start m s0 ha hb) fun v d G' H' g hb' p h => kk v d G' H' g hb' p h
end

/-! ### a def that gives a dict -/
abbrev RltD := List Bd → (List (List Int × PyData) → Prop) → Prop
def SpcD (N : Nv) (Rl : RltD) : Sp := fun vs H Q _ => ∃ (G : Hp) (bs : List Bd) (P : List (List Int × PyData) → Prop), Same G H ∧ HoldA N G vs bs ∧ Rl bs P ∧ ∀ p es G' H', Gr [] G H G' H' → H p = none → G' p = none → P es → RHold G' H' p (.dt es) → Q (.ref p) H'
def WalkD (N : Nv) (R : TS) (Rl : RltD) (k : Nat) : Prop := ∀ bs P, Rl bs P → ∀ (G H : Hp) (σ : L2.St) (D : Ends), Sta ⟨N, [], G, H⟩ G ⟨[], []⟩ G H σ (bs.map some ++ List.replicate k none) →
  (∀ p es G' H', Gr [] G H G' H' → H p = none → G' p = none → P es → RHold G' H' p (.dt es) → D.rt (.ref p) H') → R D σ H
theorem fn_okD {P : Program} {N : Nv} {mg : Str → Option Value} {base : Heap} {x qual : Str} {st : Stmt} {f : Addr} {fd : FuncData} {Nm ps : List Str} {k m : Nat} {Rl : RltD} {R : TS}
    (F : Fun N.K x qual st f fd) (S : FnScope Nm ps (defScope st)) (hl : ∀ bs P, Rl bs P → bs.length = ps.length) (hm : Nm.length - ps.length = m)
    (hD : ∀ (cdv : Value) (A : Around) (outer : List PySem.Env) (s : Shared) (H : Hp) (E : XK), Room k (A.deeper (envOfC qual (defScope st) s.heap.objs.size f cdv)) → PSs (cxOf CX0 P N.w N.K mg base Nm qual (defScope st) f cdv A outer s H E).nox (defBody st) R) (hW : WalkD N R Rl m) :
    FnOk P N.w N.K mg base CX0 (k + 1) f fd ps (SpcD N Rl) := by
  have len : ∀ vs H Q E, SpcD N Rl vs H Q E → vs.length = ps.length := fun vs H Q E h => by
    obtain ⟨G, bs, P', _, ha, rl, _⟩ := h
    exact (HoldA.length ha).trans (hl _ _ rl)
  refine F.ok S len fun cdv A outer s H vs Q E hr hsp => ⟨R, hD cdv A outer s H E hr, ?_⟩
  have hv := len _ _ _ _ hsp
  obtain ⟨G, bs, P', s0, ha, rl, kk⟩ := hsp
  have e : L2.start Nm vs = vs.map some ++ List.replicate m none := by
    unfold L2.start
    rw [hv, hm]
  rw [e]
  exact hW bs P' rl G H _ _ (sta_start m s0 ha (fun b hb => by simp at hb)) kk
theorem q_callD {F : Fx} {L : Hp} {M : Mm} {G H : Hp} {σ : L2.St} {Γ : Cnt} {D : Ends} {tz : TS} {ta : TA} {Rl : RltD} {bs : List Bd} {P : List (List Int × PyData) → Prop} {i : Nat} (S : Sta F L M G H σ Γ) (h : A1 F.N M Γ ta bs) (hr : Rl bs P)
    (k : ∀ p es G' H', P es → Sta F L ⟨M.B, (p, .dt es) :: M.R⟩ G' H' (σ.set i (some (.ref p))) (Γ.set i (some (.v (.ref p)))) → tz D (σ.set i (some (.ref p))) H') : tSeq (tAsg (tCall (SpcD F.N Rl) [] E0 ta) (gName i)) tz D σ H := by
  refine h G H σ _ S.s S.env S.mok fun vs bs' G1 H1 g1 m1 p1 h1 => ?_
  subst p1
  have S1 := S.step g1 m1
  rw [List.append_nil]
  refine ⟨G1, _, P, S1.s, h1, hr, fun p es G2 H2 g2 np n2 pe rh => ?_⟩
  have S2 := S1.pure g2
  refine k p es G2 H2 pe (Sta.set (M := ⟨M.B, (p, .dt es) :: M.R⟩) (b := .v (.ref p)) ⟨S2.gr, S2.low, S2.env, ⟨S2.mok.box, fun q hq => ?_⟩, S2.bm, fun q hq => ?_, ?_⟩ i rfl)
  · rcases List.mem_cons.mp hq with z | z
    · subst z
      refine ⟨rh, n2, fun y => ?_⟩
      obtain ⟨⟨_, _, _, z⟩, _⟩ := m1.box p y
      rw [np] at z
      cases z
    · exact S2.mok.res q z
  · rcases List.mem_cons.mp hq with z | z
    · subst z
      cases e : F.H0 p with
      | none => rfl
      | some u => exact absurd np (S1.gr.d p (by rw [e]; simp))
    · exact S2.rm q z
  · show (p :: M.R.map (·.1)).Nodup
    refine List.nodup_cons.mpr ⟨fun z => ?_, S2.nd⟩
    obtain ⟨q, hq, e⟩ := List.mem_map.mp z
    have := RHold.ne (m1.res q hq).1
    rw [e] at this
    exact this np

/-! ### a machine is made -/
def SpI (N : Nv) (Rl : List Bd → List (List Nat) → Prop) : Sp := fun vs H Q _ => ∃ (G H0 : Hp) (x dx : Addr) (vs' : List V) (bs : List Bd) (ts : List (List Nat)), vs = .ref x :: vs' ∧ H = upd (upd H0 dx (.own x)) x (.ins N.C dx []) ∧ H0 x = none ∧ H0 dx = none ∧ dx ≠ x ∧ Same G H0 ∧ HoldA N G vs' bs ∧ Rl bs ts ∧
  ∀ G' H', Gr [] G H0 G' H' → Hold N G' (.ref x) (.m ts) → Q .non H'
theorem e_make {N : Nv} {M : Mm} {Γ : Cnt} {ta : TA} {bs : List Bd} {ts : List (List Nat)} {Rl : List Bd → List (List Nat) → Prop} (h : A1 N M Γ ta bs) (hr : Rl bs ts) : E1 N M Γ (tMake N.C (SpI N Rl) [] E0 ta) (.m ts) := fun G H σ Q s e bx k =>
  h G H σ _ s e bx fun vs bs' G1 H1 g1 m1 p1 h1 => by
    subst p1
    intro x dx nx nd ne
    rw [List.append_nil]
    exact ⟨G1, H1, x, dx, vs, _, ts, rfl, rfl, nx, nd, ne, g1.s, h1, hr, fun G' H' g hh => ⟨rfl, k _ _ G' H' (g1.trans g.any) (m1.keep g) rfl hh⟩⟩
/-- the object's fields, as data -/
def putFD (f : Str) (v : PyData) : List (Str × PyData) → List (Str × PyData)
  | [] => [(f, v)]
  | (g, x) :: r => if g = f then (g, v) :: r else (g, x) :: putFD f v r
theorem FsH.put {G : Hp} {f : Str} {v : V} {d : PyData} (h : Dt G v d) : ∀ {kvs : List (Str × V)} {fs : List (Str × PyData)}, FsH G kvs fs → FsH G (putF f v kvs) (putFD f d fs)
  | _, _, .nil => .cons ⟨rfl, h⟩ .nil
  | (g, x) :: r, (g2, y) :: r2, .cons a t => by
    obtain ⟨a1, a2⟩ := a
    have a1 : g = g2 := a1
    subst a1
    unfold putF putFD
    by_cases q : g = f
    · rw [if_pos q, if_pos q]
      exact .cons ⟨rfl, h⟩ t
    · rw [if_neg q, if_neg q]
      exact .cons ⟨rfl, a2⟩ (FsH.put h t)
theorem FsH.look {G : Hp} {f : Str} {d : PyData} : ∀ {kvs : List (Str × V)} {fs : List (Str × PyData)}, FsH G kvs fs → fs.lookup f = some d → ∃ v, kvs.lookup f = some v ∧ Dt G v d
  | _, _, .nil, h => by cases h
  | (g, x) :: r, (g2, y) :: r2, .cons a t, h => by
    obtain ⟨a1, a2⟩ := a
    have a1 : g = g2 := a1
    subst a1
    rw [List.lookup_cons] at h ⊢
    cases q : f == g with
    | true =>
      rw [q] at h
      cases h
      exact ⟨x, rfl, a2⟩
    | false =>
      rw [q] at h
      exact FsH.look t h
section
variable {F : Fx} {L : Hp} {M : Mm} {G H : Hp} {σ : L2.St} {Γ : Cnt} {D : Ends} {tz : TS} {ta tv : TE} {x dx : Addr} {fs : List (Str × PyData)} {j : Nat} {f : Str} {d : PyData}
theorem s_fld (S : Sta F L M G H σ Γ) (hC : Cls F.N.K F.N.C) (hn : NoAttr F.N.K F.N.C f) (hR : M.R[j]? = some (x, .ob F.N.C dx fs)) (hv : E1 F.N M Γ tv (.d d)) (ha : E1 F.N M Γ ta (.v (.ref x))) (hz : fs.length < 900)
    (k : ∀ G' H', Sta F L ⟨M.B, M.R.set j (x, .ob F.N.C dx (putFD f d fs))⟩ G' H' σ Γ → D.nx σ H') : sFld F.N.K ta tv f D σ H := by
  refine hv G H σ _ S.s S.env S.mok fun v b G1 H1 g1 m1 p1 h1 => ?_
  have S1 := S.step g1 m1
  refine ha G1 H1 σ _ S1.s S1.env S1.mok fun v2 b2 G2 H2 g2 m2 p2 h2 => ?_
  have S2 := S1.step g2 m2
  subst p1 p2
  obtain rfl : v2 = .ref x := h2
  obtain ⟨⟨kvs, e, hf⟩, _, _⟩ := m2.res _ (List.mem_of_getElem? hR)
  have hl : kvs.length = fs.length := Paired.length hf
  refine ⟨x, _, dx, kvs, rfl, e, hC, hn, by omega, k G2 _ (S2.write hR ⟨_, upd_same, FsH.put (h1.mono g2.g).dt hf⟩)⟩
theorem q_fld (S : Sta F L M G H σ Γ) (hC : Cls F.N.K F.N.C) (hn : NoAttr F.N.K F.N.C f) (hR : M.R[j]? = some (x, .ob F.N.C dx fs)) (hv : E1 F.N M Γ tv (.d d)) (ha : E1 F.N M Γ ta (.v (.ref x))) (hz : fs.length < 900)
    (k : ∀ G' H', Sta F L ⟨M.B, M.R.set j (x, .ob F.N.C dx (putFD f d fs))⟩ G' H' σ Γ → tz D σ H') : tSeq (sFld F.N.K ta tv f) tz D σ H := s_fld (D := { D with nx := tz D }) S hC hn hR hv ha hz k
theorem e_fldR {N : Nv} (hC : Cls N.K N.C) (hn : NoAttr N.K N.C f) (hR : M.R[j]? = some (x, .ob N.C dx fs)) (ha : E1 N M Γ ta (.v (.ref x))) (hd : fs.lookup f = some d) : E1 N M Γ (tFld N.K ta f) (.d d) := fun G H σ Q s e bx k => ha G H σ _ s e bx fun v b G1 H1 g1 m1 p1 h1 => by
  subst p1
  obtain rfl : v = .ref x := h1
  obtain ⟨⟨kvs, e, hf⟩, _, _⟩ := m1.res _ (List.mem_of_getElem? hR)
  obtain ⟨v, h1, h2⟩ := FsH.look hf hd
  exact ⟨x, _, dx, kvs, v, rfl, e, hC, hn, h1, k _ _ G1 H1 g1 m1 rfl h2⟩
end
end Ag

/-! for: what is known of the names is the same at each turn. -/
namespace Ag
open PySem PySem.Spec PyProof.Rows L2
section
variable {F : Fx} {L : Hp} {M : Mm} {G H : Hp} {σ : L2.St} {Γ : Cnt} {D : Ends} {tb tz : TS} {wi : TI} {xs : List Bd}
def Nx (F : Fx) (L : Hp) (Q : Nat → Mm → Prop) (Γ : Cnt) (i : Nat) : L2.St → Hp → Prop := fun σ H => ∃ M G, Q (i + 1) M ∧ Sta F L M G H σ Γ
theorem nxt_of {Q : Nat → Mm → Prop} {i : Nat} : Nxt F L (fun i M' Γ' => Γ' = Γ ∧ Q i M') i = Nx F L Q Γ i := by
  funext σ H
  apply propext
  constructor
  · rintro ⟨M, G, Γ', ⟨rfl, q⟩, S⟩
    exact ⟨M, G, q, S⟩
  · rintro ⟨M, G, q, S⟩
    exact ⟨M, G, Γ, ⟨rfl, q⟩, S⟩
theorem s_for1 {a : Nat} (S : Sta F L M G H σ Γ) (h : EvJ F.N M Γ wi xs) (Q : Nat → Mm → Prop) (h0 : Q 0 M)
    (hs : ∀ i x M' L' G' H' σ', xs[i]? = some x → Q i M' → Sta F L' M' G' H' σ' (Γ.set a (some x)) → tb { D with nx := Nx F L' Q Γ i, ct := Nx F L' Q Γ i, bk := D.nx } σ' H')
    (hd : ∀ M' G' H' σ', Q xs.length M' → Sta F L M' G' H' σ' Γ → D.nx σ' H') : tFor wi (gName a) tb D σ H := by
  refine s_forN S h (fun i M' Γ' => Γ' = Γ ∧ Q i M') ⟨rfl, h0⟩ (fun i x M' Γ' L' G' H' σ' hx pv _ S' => ?_) fun M' Γ' G' H' σ' pv S' => ?_
  · obtain ⟨rfl, q⟩ := pv
    rw [nxt_of]
    exact hs i x M' L' G' H' σ' hx q S'
  · obtain ⟨rfl, q⟩ := pv
    exact hd M' G' H' σ' q S'
theorem q_for1 {a : Nat} (S : Sta F L M G H σ Γ) (h : EvJ F.N M Γ wi xs) (Q : Nat → Mm → Prop) (h0 : Q 0 M)
    (hs : ∀ i x M' L' G' H' σ', xs[i]? = some x → Q i M' → Sta F L' M' G' H' σ' (Γ.set a (some x)) → tb { D with nx := Nx F L' Q Γ i, ct := Nx F L' Q Γ i, bk := tz D } σ' H')
    (hd : ∀ M' G' H' σ', Q xs.length M' → Sta F L M' G' H' σ' Γ → tz D σ' H') : tSeq (tFor wi (gName a) tb) tz D σ H := s_for1 (D := { D with nx := tz D }) S h Q h0 hs hd
def two (a b : Nat) (x : Bd) (Γ : Cnt) : Cnt := match x with
  | .d (.tuple [p, q]) => (Γ.set a (some (.d p))).set b (some (.d q))
  | _ => Γ
theorem s_for2 {a b : Nat} (S : Sta F L M G H σ Γ) (h : EvJ F.N M Γ wi xs) (hp : ∀ x ∈ xs, ∃ p q, x = .d (.tuple [p, q])) (Q : Nat → Mm → Prop) (h0 : Q 0 M)
    (hs : ∀ i p q M' L' G' H' σ', xs[i]? = some (.d (.tuple [p, q])) → Q i M' → Sta F L' M' G' H' σ' ((Γ.set a (some (.d p))).set b (some (.d q))) → tb { D with nx := Nx F L' Q Γ i, ct := Nx F L' Q Γ i, bk := D.nx } σ' H')
    (hd : ∀ M' G' H' σ', Q xs.length M' → Sta F L M' G' H' σ' Γ → D.nx σ' H') : tFor wi (gTup F.N.K 2 (gCons (gName a) (gCons (gName b) gNil))) tb D σ H := by
  refine s_for (vs := [a, b]) S h (fun i M' Γ' => Γ' = Γ ∧ Q i M') (fun _ x Γ' => two a b x Γ') ⟨rfl, h0⟩ (fun i x M' Γ' hx _ => ?_) (fun i x M' Γ' L' G' H' σ' hx pv _ S' => ?_) fun M' Γ' G' H' σ' pv S' => ?_
  · obtain ⟨p, q, rfl⟩ := hp x (List.mem_of_getElem? hx)
    exact g_two
  · obtain ⟨rfl, q⟩ := pv
    rw [nxt_of]
    obtain ⟨p, q2, rfl⟩ := hp x (List.mem_of_getElem? hx)
    exact hs i p q2 M' L' G' H' σ' hx q S'
  · obtain ⟨rfl, q⟩ := pv
    exact hd M' G' H' σ' q S'
theorem q_for2 {a b : Nat} (S : Sta F L M G H σ Γ) (h : EvJ F.N M Γ wi xs) (hp : ∀ x ∈ xs, ∃ p q, x = .d (.tuple [p, q])) (Q : Nat → Mm → Prop) (h0 : Q 0 M)
    (hs : ∀ i p q M' L' G' H' σ', xs[i]? = some (.d (.tuple [p, q])) → Q i M' → Sta F L' M' G' H' σ' ((Γ.set a (some (.d p))).set b (some (.d q))) → tb { D with nx := Nx F L' Q Γ i, ct := Nx F L' Q Γ i, bk := tz D } σ' H')
    (hd : ∀ M' G' H' σ', Q xs.length M' → Sta F L M' G' H' σ' Γ → tz D σ' H') : tSeq (tFor wi (gTup F.N.K 2 (gCons (gName a) (gCons (gName b) gNil))) tb) tz D σ H := s_for2 (D := { D with nx := tz D }) S h hp Q h0 hs hd
/-- a comprehension over data that are kept or not, one name -/
theorem e_lc1 {N : Nv} {a : Nat} {tt : TT} {te : TE} {ds : List PyData} (f : PyData → Bool) (m : PyData → PyData) (h : EvI N M Γ wi (ds.map Bd.d)) (hl : ds.length ≤ 90000)
    (ht : ∀ x ∈ ds, EvT N M ((Γ.set a none).set a (some (.d x))) tt (f x)) (he : ∀ x ∈ ds, f x = true → E1 N M ((Γ.set a none).set a (some (.d x))) te (.d (m x))) : E1 N M Γ (tLc wi (gName a) tt te [a]) (.d (.list ((ds.filter f).map m))) := by
  refine (e_lc (fun x => (Γ.set a none).set a (some x)) (fun x => match x with | .d y => f y | _ => false) (fun x => match x with | .d y => m y | _ => .none) h (by rw [List.length_map]; exact hl) (fun x _ => g_name) (fun x hx => ?_) fun x hx hf => ?_).to ?_
  · obtain ⟨y, hy, rfl⟩ := List.mem_map.mp hx
    exact ht y hy
  · obtain ⟨y, hy, rfl⟩ := List.mem_map.mp hx
    exact he y hy hf
  · rw [List.filter_map, List.map_map]
    rfl
/-- .. of pairs, two names -/
theorem e_lc2 {N : Nv} {a b : Nat} {tt : TT} {te : TE} {ds : List (PyData × PyData)} (f : PyData × PyData → Bool) (m : PyData × PyData → PyData) (h : EvI N M Γ wi (ds.map fun p => Bd.d (.tuple [p.1, p.2]))) (hl : ds.length ≤ 90000)
    (ht : ∀ x ∈ ds, EvT N M (((wipeG Γ [a, b]).set a (some (.d x.1))).set b (some (.d x.2))) tt (f x)) (he : ∀ x ∈ ds, f x = true → E1 N M (((wipeG Γ [a, b]).set a (some (.d x.1))).set b (some (.d x.2))) te (.d (m x))) : E1 N M Γ (tLc wi (gTup N.K 2 (gCons (gName a) (gCons (gName b) gNil))) tt te [a, b]) (.d (.list ((ds.filter f).map m))) := by
  refine (e_lc (fun x => two a b x (wipeG Γ [a, b])) (fun x => match x with | .d (.tuple [p, q]) => f (p, q) | _ => false) (fun x => match x with | .d (.tuple [p, q]) => m (p, q) | _ => .none) h (by rw [List.length_map]; exact hl) (fun x hx => ?_) (fun x hx => ?_) fun x hx hf => ?_).to ?_
  · obtain ⟨y, hy, rfl⟩ := List.mem_map.mp hx
    exact g_two
  · obtain ⟨y, hy, rfl⟩ := List.mem_map.mp hx
    exact ht y hy
  · obtain ⟨y, hy, rfl⟩ := List.mem_map.mp hx
    exact he y hy hf
  · rw [List.filter_map, List.map_map]
    rfl
end
end Ag

/-! The text's defs: slots, readings, derivations (printed by wip/gen.py). -/
namespace Ag
open PySem PySem.Spec PyProof.Rows L2

/-! is_integer -/
abbrev s_is_integer : Stmt := topS 6
abbrev n_is_integer : List Str := ["value"]
theorem sc_is_integer : FnScope n_is_integer ["value"] (defScope s_is_integer) := ⟨rfl, rfl, rfl, by decide +kernel, rfl, by decide +kernel, by decide +kernel⟩
def R_is_integer (N : Nv) : TS := (tRet (tAndV (tCB (rIs N.K) (tCons (tVar 0) (tCons (tC (.ty "int")) tNil))) (tNotV (tCB (rIs N.K) (tCons (tVar 0) (tCons (tC (.ty "bool")) tNil))))))
set_option maxHeartbeats 4000000 in
theorem D_is_integer {P : Program} {w : World} {K : PySem.W.Frag} {mg : Str → Option Value} {base : Heap} {f : Addr} {cdv : Value} {A : Around} {outer : List PySem.Env} {s : Shared} {H : Hp} {E : XK} (N : Nv) (eK : N.K = K) (eW : N.w = w) (B : Bis mg)
    (hr : Room 0 (A.deeper (envOfC "is_integer" (defScope s_is_integer) s.heap.objs.size f cdv))) :
    PSs (cxOf CX0 P w K mg base n_is_integer "is_integer" (defScope s_is_integer) f cdv A outer s H E).nox (defBody s_is_integer) (R_is_integer N) := by
  subst eK eW
  have hu1 := hu_of hr
  have hu64 := hr.units
  have hu65 : (A.deeper (envOfC "is_integer" (defScope s_is_integer) s.heap.objs.size f cdv)).units + 65 < cLine := by
    have := hr.un
    omega
  exact (pss_one (ps_ret (pe_and (pe_callB cr_is (by rfl) B.b_isinstance (by decide +kernel) (pa_cons (pv 0) (pa_cons (pe_bltn (by rfl) B.b_int (by decide +kernel) rfl) pa_nil))) (pe_one (pe_not (pe_callB cr_is (by rfl) B.b_isinstance (by decide +kernel) (pa_cons (pv 0) (pa_cons (pe_bltn (by rfl) B.b_bool (by decide +kernel) rfl) pa_nil))))))))

/-! is_number -/
abbrev s_is_number : Stmt := topS 7
abbrev n_is_number : List Str := ["value"]
theorem sc_is_number : FnScope n_is_number ["value"] (defScope s_is_number) := ⟨rfl, rfl, rfl, by decide +kernel, rfl, by decide +kernel, by decide +kernel⟩
def R_is_number (N : Nv) (q_is_integer : Sp) : TS := (tRet (tAndV (tCall q_is_integer [] E0 (tCons (tVar 0) tNil)) (tOp (rI0 fun i j => .bl (decide (j ≤ i))) (tVar 0) (tC (.int 0)))))
set_option maxHeartbeats 4000000 in
theorem D_is_number {P : Program} {w : World} {K : PySem.W.Frag} {mg : Str → Option Value} {base : Heap} {f : Addr} {cdv : Value} {A : Around} {outer : List PySem.Env} {s : Shared} {H : Hp} {E : XK} (N : Nv) (eK : N.K = K) (eW : N.w = w) {q_is_integer : Sp} (B : Bis mg) (c_is_integer : Cl P w K mg base 1 "is_integer" q_is_integer)
    (hr : Room 1 (A.deeper (envOfC "is_number" (defScope s_is_number) s.heap.objs.size f cdv))) :
    PSs (cxOf CX0 P w K mg base n_is_number "is_number" (defScope s_is_number) f cdv A outer s H E).nox (defBody s_is_number) (R_is_number N q_is_integer) := by
  subst eK eW
  have hu1 := hu_of hr
  have hu64 := hr.units
  have hu65 : (A.deeper (envOfC "is_number" (defScope s_is_number) s.heap.objs.size f cdv)).units + 65 < cLine := by
    have := hr.un
    omega
  exact (pss_one (ps_ret (pe_and (pe_f c_is_integer hr (by decide) (by rfl) (pa_cons (pv 0) pa_nil)) (pe_one (pe_cmpR op_ge (pv 0) pe_int (nomark _))))))

/-! is_below -/
abbrev s_is_below : Stmt := topS 8
abbrev n_is_below : List Str := ["value", "most"]
theorem sc_is_below : FnScope n_is_below ["value", "most"] (defScope s_is_below) := ⟨rfl, rfl, rfl, by decide +kernel, rfl, by decide +kernel, by decide +kernel⟩
def R_is_below (N : Nv) (q_is_number : Sp) : TS := (tRet (tAndV (tCall q_is_number [] E0 (tCons (tVar 0) tNil)) (tOp (rI0 fun i j => .bl (decide (i < j))) (tVar 0) (tVar 1))))
set_option maxHeartbeats 4000000 in
theorem D_is_below {P : Program} {w : World} {K : PySem.W.Frag} {mg : Str → Option Value} {base : Heap} {f : Addr} {cdv : Value} {A : Around} {outer : List PySem.Env} {s : Shared} {H : Hp} {E : XK} (N : Nv) (eK : N.K = K) (eW : N.w = w) {q_is_number : Sp} (B : Bis mg) (c_is_number : Cl P w K mg base 2 "is_number" q_is_number)
    (hr : Room 2 (A.deeper (envOfC "is_below" (defScope s_is_below) s.heap.objs.size f cdv))) :
    PSs (cxOf CX0 P w K mg base n_is_below "is_below" (defScope s_is_below) f cdv A outer s H E).nox (defBody s_is_below) (R_is_below N q_is_number) := by
  subst eK eW
  have hu1 := hu_of hr
  have hu64 := hr.units
  have hu65 : (A.deeper (envOfC "is_below" (defScope s_is_below) s.heap.objs.size f cdv)).units + 65 < cLine := by
    have := hr.un
    omega
  exact (pss_one (ps_ret (pe_and (pe_f c_is_number hr (by decide) (by rfl) (pa_cons (pv 0) pa_nil)) (pe_one (pe_cmpR op_lt (pv 0) (pv 1) (nomark _))))))

/-! is_sequence -/
abbrev s_is_sequence : Stmt := topS 9
abbrev n_is_sequence : List Str := ["value"]
theorem sc_is_sequence : FnScope n_is_sequence ["value"] (defScope s_is_sequence) := ⟨rfl, rfl, rfl, by decide +kernel, rfl, by decide +kernel, by decide +kernel⟩
def R_is_sequence (N : Nv) : TS := (tRet (tCB (rIs N.K) (tCons (tVar 0) (tCons (tTup (tCons (tC (.ty "list")) (tCons (tC (.ty "tuple")) tNil))) tNil))))
set_option maxHeartbeats 4000000 in
theorem D_is_sequence {P : Program} {w : World} {K : PySem.W.Frag} {mg : Str → Option Value} {base : Heap} {f : Addr} {cdv : Value} {A : Around} {outer : List PySem.Env} {s : Shared} {H : Hp} {E : XK} (N : Nv) (eK : N.K = K) (eW : N.w = w) (B : Bis mg)
    (hr : Room 0 (A.deeper (envOfC "is_sequence" (defScope s_is_sequence) s.heap.objs.size f cdv))) :
    PSs (cxOf CX0 P w K mg base n_is_sequence "is_sequence" (defScope s_is_sequence) f cdv A outer s H E).nox (defBody s_is_sequence) (R_is_sequence N) := by
  subst eK eW
  have hu1 := hu_of hr
  have hu64 := hr.units
  have hu65 : (A.deeper (envOfC "is_sequence" (defScope s_is_sequence) s.heap.objs.size f cdv)).units + 65 < cLine := by
    have := hr.un
    omega
  exact (pss_one (ps_ret (pe_callB cr_is (by rfl) B.b_isinstance (by decide +kernel) (pa_cons (pv 0) (pa_cons (pe_tup (pa_cons (pe_bltn (by rfl) B.b_list (by decide +kernel) rfl) (pa_cons (pe_bltn (by rfl) B.b_tuple (by decide +kernel) rfl) pa_nil))) pa_nil)))))

/-! is_text -/
abbrev s_is_text : Stmt := topS 10
abbrev n_is_text : List Str := ["value"]
theorem sc_is_text : FnScope n_is_text ["value"] (defScope s_is_text) := ⟨rfl, rfl, rfl, by decide +kernel, rfl, by decide +kernel, by decide +kernel⟩
def R_is_text (N : Nv) : TS := (tRet (tCB (rIs N.K) (tCons (tVar 0) (tCons (tC (.ty "str")) tNil))))
set_option maxHeartbeats 4000000 in
theorem D_is_text {P : Program} {w : World} {K : PySem.W.Frag} {mg : Str → Option Value} {base : Heap} {f : Addr} {cdv : Value} {A : Around} {outer : List PySem.Env} {s : Shared} {H : Hp} {E : XK} (N : Nv) (eK : N.K = K) (eW : N.w = w) (B : Bis mg)
    (hr : Room 0 (A.deeper (envOfC "is_text" (defScope s_is_text) s.heap.objs.size f cdv))) :
    PSs (cxOf CX0 P w K mg base n_is_text "is_text" (defScope s_is_text) f cdv A outer s H E).nox (defBody s_is_text) (R_is_text N) := by
  subst eK eW
  have hu1 := hu_of hr
  have hu64 := hr.units
  have hu65 : (A.deeper (envOfC "is_text" (defScope s_is_text) s.heap.objs.size f cdv)).units + 65 < cLine := by
    have := hr.un
    omega
  exact (pss_one (ps_ret (pe_callB cr_is (by rfl) B.b_isinstance (by decide +kernel) (pa_cons (pv 0) (pa_cons (pe_bltn (by rfl) B.b_str (by decide +kernel) rfl) pa_nil)))))

/-! is_ascending -/
abbrev s_is_ascending : Stmt := topS 11
abbrev n_is_ascending : List Str := ["value", "most", "one", "other", "number"]
theorem sc_is_ascending : FnScope n_is_ascending ["value", "most"] (defScope s_is_ascending) := ⟨rfl, rfl, rfl, by decide +kernel, rfl, by decide +kernel, by decide +kernel⟩
def R_is_ascending (N : Nv) (q_is_sequence : Sp) (q_is_below : Sp) : TS := (tSeq (tIfS (tOr (tNot (tB (tCall q_is_sequence [] E0 (tCons (tVar 0) tNil)))) (tOr (tTest (tOp (rEqD N.K) (tCB (rLen N.K N.w) (tCons (tVar 0) tNil)) (tC (.int 0)))) (tNot (tB (tCB (rAll N.K) (tCons (tLc (iSeq N.K (tVar 0)) (gName 4) tYes (tCall q_is_below [] E0 (tCons (tVar 4) (tCons (tVar 1) tNil))) [4]) tNil)))))) (tRet (tC (.bl false))) tNext)
  (tRet (tCB (rAll N.K) (tCons (tLc (RZ.iZipA N.K (tCons (tVar 0) (tCons (tSl (rSl N.K) (tVar 0) (tPart (tC (.int 1))) tNoPart) tNil))) (gTup N.K 2 (gCons (gName 2) (gCons (gName 3) gNil))) tYes (tOp (rI0 fun i j => .bl (decide (i < j))) (tVar 2) (tVar 3)) [2, 3]) tNil))))
set_option maxHeartbeats 4000000 in
theorem D_is_ascending {P : Program} {w : World} {K : PySem.W.Frag} {mg : Str → Option Value} {base : Heap} {f : Addr} {cdv : Value} {A : Around} {outer : List PySem.Env} {s : Shared} {H : Hp} {E : XK} (N : Nv) (eK : N.K = K) (eW : N.w = w) {q_is_sequence : Sp} {q_is_below : Sp} (B : Bis mg) (c_is_sequence : Cl P w K mg base 1 "is_sequence" q_is_sequence) (c_is_below : Cl P w K mg base 3 "is_below" q_is_below)
    (hr : Room 3 (A.deeper (envOfC "is_ascending" (defScope s_is_ascending) s.heap.objs.size f cdv))) :
    PSs (cxOf CX0 P w K mg base n_is_ascending "is_ascending" (defScope s_is_ascending) f cdv A outer s H E).nox (defBody s_is_ascending) (R_is_ascending N q_is_sequence q_is_below) := by
  subst eK eW
  have hu1 := hu_of hr
  have hu64 := hr.units
  have hu65 : (A.deeper (envOfC "is_ascending" (defScope s_is_ascending) s.heap.objs.size f cdv)).units + 65 < cLine := by
    have := hr.un
    omega
  exact (pss_cons (ps_if (PW.pt (pw_or (pt_not (pt_val (pe_f c_is_sequence hr (by decide) (by rfl) (pa_cons (pv 0) pa_nil)))) (pw_or (pt_cmpR (op_eqD hu64) (pe_callB cr_len (by rfl) B.b_len (by decide +kernel) (pa_cons (pv 0) pa_nil)) pe_int (nomark _)) (pw_or1 (pt_not (pt_val (pe_callB (cr_all rfl) (by rfl) B.b_all (by decide +kernel) (pa_cons (pe_lc (own := [("number", 4)]) (g := (gName 4)) (tt := tYes) rfl sc_is_ascending.nd  (pi_seq (pv 0)) (blkOk_by (by kernel_rfl)) (fun _ _ _ _ _ => (pg_name (i := 4) sc_is_ascending.nd rfl (Or.inl rfl))) (fun _ _ _ _ _ => pts_nil) (fun _ _ _ _ _ => (pe_f c_is_below hr (by decide) (by rfl) (pa_cons (pv 4) (pa_cons (pv 1) pa_nil))))) pa_nil)))))))) (pss_one (ps_ret pe_bl)) pss_nil)
  (pss_one (ps_ret (pe_callB (cr_all rfl) (by rfl) B.b_all (by decide +kernel) (pa_cons (pe_lc (own := [("one", 2), ("other", 3)]) (g := (gTup N.K 2 (gCons (gName 2) (gCons (gName 3) gNil)))) (tt := tYes) rfl sc_is_ascending.nd  (RZ.pi_zipA (by rfl) B.b_zip (pa_cons (pv 0) (pa_cons (pe_slice sl_any (pv 0) (po_some pe_int) po_none) pa_nil))) (blkOk_by (by kernel_rfl)) (fun _ _ _ _ _ => (pg_tup rfl (pgs_cons (pg_name (i := 2) sc_is_ascending.nd rfl (Or.inl rfl)) (pgs_cons (pg_name (i := 3) sc_is_ascending.nd rfl (Or.inl rfl)) pgs_nil)))) (fun _ _ _ _ _ => pts_nil) (fun _ _ _ _ _ => (pe_cmpR op_lt (pv 2) (pv 3) (nomark _)))) pa_nil)))))

/-! is_table -/
abbrev s_is_table : Stmt := topS 13
abbrev n_is_table : List Str := ["value", "states", "state"]
theorem sc_is_table : FnScope n_is_table ["value", "states"] (defScope s_is_table) := ⟨rfl, rfl, rfl, by decide +kernel, rfl, by decide +kernel, by decide +kernel⟩
def R_is_table (N : Nv) (q_is_sequence : Sp) (q_is_below : Sp) : TS := (tRet (tAndV (tCall q_is_sequence [] E0 (tCons (tVar 0) tNil)) (tAndV (tOp (rEqD N.K) (tCB (rLen N.K N.w) (tCons (tVar 0) tNil)) (tVar 1)) (tCB (rAll N.K) (tCons (tLc (iSeq N.K (tVar 0)) (gName 2) tYes (tCall q_is_below [] E0 (tCons (tVar 2) (tCons (tVar 1) tNil))) [2]) tNil)))))
set_option maxHeartbeats 4000000 in
theorem D_is_table {P : Program} {w : World} {K : PySem.W.Frag} {mg : Str → Option Value} {base : Heap} {f : Addr} {cdv : Value} {A : Around} {outer : List PySem.Env} {s : Shared} {H : Hp} {E : XK} (N : Nv) (eK : N.K = K) (eW : N.w = w) {q_is_sequence : Sp} {q_is_below : Sp} (B : Bis mg) (c_is_sequence : Cl P w K mg base 1 "is_sequence" q_is_sequence) (c_is_below : Cl P w K mg base 3 "is_below" q_is_below)
    (hr : Room 3 (A.deeper (envOfC "is_table" (defScope s_is_table) s.heap.objs.size f cdv))) :
    PSs (cxOf CX0 P w K mg base n_is_table "is_table" (defScope s_is_table) f cdv A outer s H E).nox (defBody s_is_table) (R_is_table N q_is_sequence q_is_below) := by
  subst eK eW
  have hu1 := hu_of hr
  have hu64 := hr.units
  have hu65 : (A.deeper (envOfC "is_table" (defScope s_is_table) s.heap.objs.size f cdv)).units + 65 < cLine := by
    have := hr.un
    omega
  exact (pss_one (ps_ret (pe_and (pe_f c_is_sequence hr (by decide) (by rfl) (pa_cons (pv 0) pa_nil)) (pe_and (pe_cmpR (op_eqD hu64) (pe_callB cr_len (by rfl) B.b_len (by decide +kernel) (pa_cons (pv 0) pa_nil)) (pv 1) (nomark _)) (pe_one (pe_callB (cr_all rfl) (by rfl) B.b_all (by decide +kernel) (pa_cons (pe_lc (own := [("state", 2)]) (g := (gName 2)) (tt := tYes) rfl sc_is_table.nd  (pi_seq (pv 0)) (blkOk_by (by kernel_rfl)) (fun _ _ _ _ _ => (pg_name (i := 2) sc_is_table.nd rfl (Or.inl rfl))) (fun _ _ _ _ _ => pts_nil) (fun _ _ _ _ _ => (pe_f c_is_below hr (by decide) (by rfl) (pa_cons (pv 2) (pa_cons (pv 1) pa_nil))))) pa_nil)))))))

/-! check_tables -/
abbrev s_check_tables : Stmt := topS 14
abbrev n_check_tables : List Str := ["tables", "states", "at", "table"]
theorem sc_check_tables : FnScope n_check_tables ["tables"] (defScope s_check_tables) := ⟨rfl, rfl, rfl, by decide +kernel, rfl, by decide +kernel, by decide +kernel⟩
def R_check_tables (N : Nv) (q_is_sequence : Sp) (q_is_table : Sp) : TS := (tSeq (tIfS (tOr (tNot (tB (tCall q_is_sequence [] E0 (tCons (tVar 0) tNil)))) (tNot (tTest (tChain (rI0 fun i j => .bl (decide (i ≤ j))) (rI0 fun i j => .bl (decide (i ≤ j))) (tC (.int 1)) (tCB (rLen N.K N.w) (tCons (tVar 0) tNil)) (tC (.int 8)))))) (tNever) tNext)
  (tSeq (tAsg (tIf (tB (tCall q_is_sequence [] E0 (tCons (tOp (rIx N.K) (tVar 0) (tC (.int 0))) tNil))) (tCB (rLen N.K N.w) (tCons (tOp (rIx N.K) (tVar 0) (tC (.int 0))) tNil)) (tC (.int 0))) (gName 1))
  (tSeq (tFor (iEnum N.K (tCons (tVar 0) tNil)) (gTup N.K 2 (gCons (gName 2) (gCons (gName 3) gNil))) (tIfS (tOr (tNot (tTest (tChain (rI0 fun i j => .bl (decide (i ≤ j))) (rI0 fun i j => .bl (decide (i ≤ j))) (tC (.int 1)) (tVar 1) (tC (.int 12))))) (tNot (tB (tCall q_is_table [] E0 (tCons (tVar 3) (tCons (tVar 1) tNil)))))) (tNever) tNext))
  (tRet (tCB (rTup N.K) (tCons (tLc (iSeq N.K (tVar 0)) (gName 3) tYes (tCB (rTup N.K) (tCons (tVar 3) tNil)) [3]) tNil))))))
set_option maxHeartbeats 4000000 in
theorem D_check_tables {P : Program} {w : World} {K : PySem.W.Frag} {mg : Str → Option Value} {base : Heap} {f : Addr} {cdv : Value} {A : Around} {outer : List PySem.Env} {s : Shared} {H : Hp} {E : XK} (N : Nv) (eK : N.K = K) (eW : N.w = w) {q_is_sequence : Sp} {q_is_table : Sp} (B : Bis mg) (c_is_sequence : Cl P w K mg base 1 "is_sequence" q_is_sequence) (c_is_table : Cl P w K mg base 4 "is_table" q_is_table)
    (hr : Room 4 (A.deeper (envOfC "check_tables" (defScope s_check_tables) s.heap.objs.size f cdv))) :
    PSs (cxOf CX0 P w K mg base n_check_tables "check_tables" (defScope s_check_tables) f cdv A outer s H E).nox (defBody s_check_tables) (R_check_tables N q_is_sequence q_is_table) := by
  subst eK eW
  have hu1 := hu_of hr
  have hu64 := hr.units
  have hu65 : (A.deeper (envOfC "check_tables" (defScope s_check_tables) s.heap.objs.size f cdv)).units + 65 < cLine := by
    have := hr.un
    omega
  exact (pss_cons (ps_if (PW.pt (pw_or (pt_not (pt_val (pe_f c_is_sequence hr (by decide) (by rfl) (pa_cons (pv 0) pa_nil)))) (pw_or1 (pt_not (pt_chain op_le op_le pe_int (pe_callB cr_len (by rfl) B.b_len (by decide +kernel) (pa_cons (pv 0) pa_nil)) (pe_gx (by rfl) B.g_MOST_DEEDS)))))) (pss_one (ps_never)) pss_nil)
  (pss_cons (ps_set (i := 1) sc_check_tables.nd rfl (Or.inl rfl) (pe_ifExp (pt_val (pe_f c_is_sequence hr (by decide) (by rfl) (pa_cons (pe_ix ix_seq (pv 0) pe_int (fun _ _ => rfl)) pa_nil))) (pe_callB cr_len (by rfl) B.b_len (by decide +kernel) (pa_cons (pe_ix ix_seq (pv 0) pe_int (fun _ _ => rfl)) pa_nil)) pe_int))
  (pss_cons (ps_for PassesOwn.never rfl (pi_enum (by rfl) B.b_enumerate (pa_cons (pv 0) pa_nil)) (pg_tup rfl (pgs_cons (pg_name (i := 2) sc_check_tables.nd rfl (Or.inl rfl)) (pgs_cons (pg_name (i := 3) sc_check_tables.nd rfl (Or.inl rfl)) pgs_nil))) (pss_one (ps_if (PW.pt (pw_or (pt_not (pt_chain op_le op_le pe_int (pv 1) (pe_gx (by rfl) B.g_MOST_STATES))) (pw_or1 (pt_not (pt_val (pe_f c_is_table hr (by decide) (by rfl) (pa_cons (pv 3) (pa_cons (pv 1) pa_nil)))))))) (pss_one (ps_never)) pss_nil)))
  (pss_one (ps_ret (pe_callTy cr_tup (by rfl) B.b_tuple (by decide +kernel) (pa_cons (pe_lc (own := [("table", 3)]) (g := (gName 3)) (tt := tYes) rfl sc_check_tables.nd  (pi_seq (pv 0)) (blkOk_by (by kernel_rfl)) (fun _ _ _ _ _ => (pg_name (i := 3) sc_check_tables.nd rfl (Or.inl rfl))) (fun _ _ _ _ _ => pts_nil) (fun _ _ _ _ _ => (pe_callTy cr_tup (by rfl) B.b_tuple (by decide +kernel) (pa_cons (pv 3) pa_nil)))) pa_nil)))))))

/-! Machine.__init__ -/
abbrev s_Machine_init : Stmt := inClass (topS 15) 0
abbrev n_Machine_init : List Str := ["self", "tables"]
theorem sc_Machine_init : FnScope n_Machine_init ["self", "tables"] (defScope s_Machine_init) := ⟨rfl, rfl, rfl, by decide +kernel, rfl, by decide +kernel, by decide +kernel⟩
def R_Machine_init (N : Nv) (q_check_tables : Sp) : TS := (tSeq (sFld N.K (tVar 0) (tCall q_check_tables [] E0 (tCons (tVar 1) tNil)) "tables")
  (tSeq (sFld N.K (tVar 0) (tCB (rLen N.K N.w) (tCons (tFld N.K (tVar 0) "tables") tNil)) "deeds")
  (sFld N.K (tVar 0) (tCB (rLen N.K N.w) (tCons (tOp (rIx N.K) (tFld N.K (tVar 0) "tables") (tC (.int 0))) tNil)) "states")))
set_option maxHeartbeats 4000000 in
theorem D_Machine_init {P : Program} {w : World} {K : PySem.W.Frag} {mg : Str → Option Value} {base : Heap} {f : Addr} {cdv : Value} {A : Around} {outer : List PySem.Env} {s : Shared} {H : Hp} {E : XK} (N : Nv) (eK : N.K = K) (eW : N.w = w) {q_check_tables : Sp} (B : Bis mg) (c_check_tables : Cl P w K mg base 5 "check_tables" q_check_tables)
    (hr : Room 5 (A.deeper (envOfC "Machine.__init__" (defScope s_Machine_init) s.heap.objs.size f cdv))) :
    PSs (cxOf CX0 P w K mg base n_Machine_init "Machine.__init__" (defScope s_Machine_init) f cdv A outer s H E).nox (defBody s_Machine_init) (R_Machine_init N q_check_tables) := by
  subst eK eW
  have hu1 := hu_of hr
  have hu64 := hr.units
  have hu65 : (A.deeper (envOfC "Machine.__init__" (defScope s_Machine_init) s.heap.objs.size f cdv)).units + 65 < cLine := by
    have := hr.un
    omega
  exact (pss_cons (ps_fld (pv 0) (pe_f c_check_tables hr (by decide) (by rfl) (pa_cons (pv 1) pa_nil)) rfl)
  (pss_cons (ps_fld (pv 0) (pe_callB cr_len (by rfl) B.b_len (by decide +kernel) (pa_cons (pe_fld (pv 0) rfl) pa_nil)) rfl)
  (pss_one (ps_fld (pv 0) (pe_callB cr_len (by rfl) B.b_len (by decide +kernel) (pa_cons (pe_ix ix_seq (pe_fld (pv 0) rfl) pe_int (fun _ _ => rfl)) pa_nil)) rfl))))

/-! behind -/
abbrev s_behind : Stmt := topS 16
abbrev n_behind : List Str := ["tables", "state", "log", "deed"]
theorem sc_behind : FnScope n_behind ["tables", "state", "log"] (defScope s_behind) := ⟨rfl, rfl, rfl, by decide +kernel, rfl, by decide +kernel, by decide +kernel⟩
def R_behind (N : Nv) : TS := (tSeq (tFor (iSeq N.K (tVar 2)) (gName 3) (tAsg (tOp (rIx N.K) (tOp (rIx N.K) (tVar 0) (tVar 3)) (tVar 1)) (gName 1)))
  (tRet (tVar 1)))
set_option maxHeartbeats 4000000 in
theorem D_behind {P : Program} {w : World} {K : PySem.W.Frag} {mg : Str → Option Value} {base : Heap} {f : Addr} {cdv : Value} {A : Around} {outer : List PySem.Env} {s : Shared} {H : Hp} {E : XK} (N : Nv) (eK : N.K = K) (eW : N.w = w) (B : Bis mg)
    (hr : Room 0 (A.deeper (envOfC "behind" (defScope s_behind) s.heap.objs.size f cdv))) :
    PSs (cxOf CX0 P w K mg base n_behind "behind" (defScope s_behind) f cdv A outer s H E).nox (defBody s_behind) (R_behind N) := by
  subst eK eW
  have hu1 := hu_of hr
  have hu64 := hr.units
  have hu65 : (A.deeper (envOfC "behind" (defScope s_behind) s.heap.objs.size f cdv)).units + 65 < cLine := by
    have := hr.un
    omega
  exact (pss_cons (ps_for PassesOwn.never rfl (pi_seq (pv 2)) (pg_name (i := 3) sc_behind.nd rfl (Or.inl rfl)) (pss_one (ps_set (i := 1) sc_behind.nd rfl (Or.inl rfl) (pe_ix ix_seq (pe_ix ix_seq (pv 0) (pv 3) (fun _ _ => rfl)) (pv 1) (fun _ _ => rfl)))))
  (pss_one (ps_ret (pv 1))))

/-! lots_met -/
abbrev s_lots_met : Stmt := topS 20
abbrev n_lots_met : List Str := ["machine", "every", "found", "waiting", "at", "lot", "deed", "table", "later", "state"]
theorem sc_lots_met : FnScope n_lots_met ["machine"] (defScope s_lots_met) := ⟨rfl, rfl, rfl, by decide +kernel, rfl, by decide +kernel, by decide +kernel⟩
def R_lots_met (N : Nv) : TS := (tSeq (tAsg (tTupRg (tRg1 (tFld N.K (tVar 0) "states"))) (gName 1))
  (tSeq (tAsg (tDispT (tVar 1) (tTup tNil)) (gName 2))
  (tSeq (tAsg (tLst (tCons (tVar 1) tNil)) (gName 3))
  (tSeq (tAsg (tC (.int 0)) (gName 4))
  (tSeq (tWhile (tTest (tOp (rI0 fun i j => .bl (decide (i < j))) (tVar 4) (tCB (rLen N.K N.w) (tCons (tVar 3) tNil)))) (tSeq (tAsg (tOp (rIx N.K) (tVar 3) (tVar 4)) (gName 5))
  (tSeq (tFor (iEnT (tCons (tFld N.K (tVar 0) "tables") tNil)) (gTup N.K 2 (gCons (gName 6) (gCons (gName 7) gNil))) (tSeq (tAsg (tCB (rTup N.K) (tCons (tCB (rSrt N.K N.w) (tCons (tCB (rLst N.K) (tCons (tDc (iSeq N.K (tVar 5)) (gName 9) tYes (tOp (rIx N.K) (tVar 7) (tVar 9)) (tC (.bl true)) [9]) tNil)) tNil)) tNil)) (gName 8))
  (tIfS (tB (tDNotIn (tVar 8) (tVar 2))) (tSeq (sDPut (tVar 2) (tVar 8) (tOp (rCatA N.K) (tDGet (tVar 2) (tVar 5)) (tTup (tCons (tVar 6) tNil))))
  (tDrop (tBM N.K "list" rAppend (tVar 3) (tCons (tVar 8) tNil)))) tNext)))
  (tAug 4 (tC (.int 1)) (ipI fun i j => i + j)))))
  (tRet (tVar 2)))))))
set_option maxHeartbeats 4000000 in
theorem D_lots_met {P : Program} {w : World} {K : PySem.W.Frag} {mg : Str → Option Value} {base : Heap} {f : Addr} {cdv : Value} {A : Around} {outer : List PySem.Env} {s : Shared} {H : Hp} {E : XK} (N : Nv) (eK : N.K = K) (eW : N.w = w) (B : Bis mg)
    (hr : Room 0 (A.deeper (envOfC "lots_met" (defScope s_lots_met) s.heap.objs.size f cdv))) :
    PSs (cxOf CX0 P w K mg base n_lots_met "lots_met" (defScope s_lots_met) f cdv A outer s H E).nox (defBody s_lots_met) (R_lots_met N) := by
  subst eK eW
  have hu1 := hu_of hr
  have hu64 := hr.units
  have hu65 : (A.deeper (envOfC "lots_met" (defScope s_lots_met) s.heap.objs.size f cdv)).units + 65 < cLine := by
    have := hr.un
    omega
  exact (pss_cons (ps_set (i := 1) sc_lots_met.nd rfl (Or.inl rfl) (pe_tupRg rfl (by rfl) B.b_tuple (prg_1 (by rfl) B.b_range (pe_fld (pv 0) rfl))))
  (pss_cons (ps_set (i := 2) sc_lots_met.nd rfl (Or.inl rfl) (pe_dispT hu1 (pv 1) (pe_tup pa_nil)))
  (pss_cons (ps_set (i := 3) sc_lots_met.nd rfl (Or.inl rfl) (pe_lst (pa_cons (pv 1) pa_nil)))
  (pss_cons (ps_set (i := 4) sc_lots_met.nd rfl (Or.inl rfl) pe_int)
  (pss_cons (ps_while PassesOwn.never (pt_cmpR op_lt (pv 4) (pe_callB cr_len (by rfl) B.b_len (by decide +kernel) (pa_cons (pv 3) pa_nil)) (nomark _)) (pss_cons (ps_set (i := 5) sc_lots_met.nd rfl (Or.inl rfl) (pe_ix ix_seq (pv 3) (pv 4) (fun _ _ => rfl)))
  (pss_cons (ps_for PassesOwn.never rfl (pi_enT (by rfl) B.b_enumerate (pa_cons (pe_fld (pv 0) rfl) pa_nil)) (pg_tup rfl (pgs_cons (pg_name (i := 6) sc_lots_met.nd rfl (Or.inl rfl)) (pgs_cons (pg_name (i := 7) sc_lots_met.nd rfl (Or.inr rfl)) pgs_nil))) (pss_cons (ps_set (i := 8) sc_lots_met.nd rfl (Or.inl rfl) (pe_callTy cr_tup (by rfl) B.b_tuple (by decide +kernel) (pa_cons (pe_callB (cr_srt rfl) (by rfl) B.b_sorted (by decide +kernel) (pa_cons (pe_callTy (cr_lst rfl) (by rfl) B.b_list (by decide +kernel) (pa_cons (pe_dc (own := [("state", 9)]) (g := (gName 9)) (tt := tYes) rfl sc_lots_met.nd (pi_seq (pv 5)) (blkOk_by (by kernel_rfl)) (fun _ _ _ _ _ => (pg_name (i := 9) sc_lots_met.nd rfl (Or.inl rfl))) (fun _ _ _ _ _ => pts_nil) (fun _ _ _ _ _ => (pe_ix ix_seq (pv 7) (pv 9) (fun _ _ => rfl))) (fun _ _ _ _ _ => pe_bl)) pa_nil)) pa_nil)) pa_nil)))
  (pss_one (ps_if (pt_cmp (pc_dnotin hu1 (pv 8) (pv 2))) (pss_cons (ps_dput hu1 (pv 2) (pv 8) (pe_op op_catA (pe_dget hu1 (pv 2) (pv 5) (fun _ _ => rfl)) (pe_tup (pa_cons (pv 6) pa_nil))) rfl)
  (pss_one (ps_expr (pe_bm PySem.F.plainAttrs_list PySem.F.slot_list_append PySem.F.type_list_append mt_append (pv 3) (pa_cons (pv 8) pa_nil))))) pss_nil))))
  (pss_one (ps_aug (i := 4) sc_lots_met.nd rfl (Or.inl rfl) pe_int ip_add)))))
  (pss_one (ps_ret (pv 2))))))))

/-! narrowest -/
abbrev s_narrowest : Stmt := topS 21
abbrev n_narrowest : List Str := ["machine", "met", "least", "lot", "log"]
theorem sc_narrowest : FnScope n_narrowest ["machine"] (defScope s_narrowest) := ⟨rfl, rfl, rfl, by decide +kernel, rfl, by decide +kernel, by decide +kernel⟩
def R_narrowest (N : Nv) (q_lots_met : Sp) : TS := (tSeq (tAsg (tCall q_lots_met [] E0 (tCons (tVar 0) tNil)) (gName 1))
  (tSeq (tAsg (tCB (rMn N.K) (tCons (tLockE (tLc (iKeys (tVar 1)) (gName 3) tYes (tCB (rLen N.K N.w) (tCons (tVar 3) tNil)) [3])) tNil)) (gName 2))
  (tRet (tTup (tCons (tVar 2) (tCons (tOp (rIx N.K) (tLockE (tLc (iItemsT (tVar 1)) (gTup N.K 2 (gCons (gName 3) (gCons (gName 4) gNil))) (tTest (tOp (rEqD N.K) (tCB (rLen N.K N.w) (tCons (tVar 3) tNil)) (tVar 2))) (tVar 4) [3, 4])) (tC (.int 0))) tNil))))))
set_option maxHeartbeats 4000000 in
theorem D_narrowest {P : Program} {w : World} {K : PySem.W.Frag} {mg : Str → Option Value} {base : Heap} {f : Addr} {cdv : Value} {A : Around} {outer : List PySem.Env} {s : Shared} {H : Hp} {E : XK} (N : Nv) (eK : N.K = K) (eW : N.w = w) {q_lots_met : Sp} (B : Bis mg) (c_lots_met : Cl P w K mg base 1 "lots_met" q_lots_met)
    (hr : Room 1 (A.deeper (envOfC "narrowest" (defScope s_narrowest) s.heap.objs.size f cdv))) :
    PSs (cxOf CX0 P w K mg base n_narrowest "narrowest" (defScope s_narrowest) f cdv A outer s H E).nox (defBody s_narrowest) (R_narrowest N q_lots_met) := by
  subst eK eW
  have hu1 := hu_of hr
  have hu64 := hr.units
  have hu65 : (A.deeper (envOfC "narrowest" (defScope s_narrowest) s.heap.objs.size f cdv)).units + 65 < cLine := by
    have := hr.un
    omega
  exact (pss_cons (ps_set (i := 1) sc_narrowest.nd rfl (Or.inl rfl) (pe_f c_lots_met hr (by decide) (by rfl) (pa_cons (pv 0) pa_nil)))
  (pss_cons (ps_set (i := 2) sc_narrowest.nd rfl (Or.inr rfl) (pe_callB (cr_mn rfl) (by rfl) B.b_min (by decide +kernel) (pa_cons (pe_lock (pe_lc (own := [("lot", 3)]) (g := (gName 3)) (tt := tYes) rfl sc_narrowest.nd  (pi_keys (pv 1)) (blkOk_by (by kernel_rfl)) (fun _ _ _ _ _ => (pg_name (i := 3) sc_narrowest.nd rfl (Or.inl rfl))) (fun _ _ _ _ _ => pts_nil) (fun _ _ _ _ _ => (pe_callB cr_len (by rfl) B.b_len (by decide +kernel) (pa_cons (pv 3) pa_nil))))) pa_nil)))
  (pss_one (ps_ret (pe_tup (pa_cons (pv 2) (pa_cons (pe_ix ix_seq (pe_lock (pe_lc (own := [("lot", 3), ("log", 4)]) (g := (gTup N.K 2 (gCons (gName 3) (gCons (gName 4) gNil)))) (tt := (tTest (tOp (rEqD N.K) (tCB (rLen N.K N.w) (tCons (tVar 3) tNil)) (tVar 2)))) rfl sc_narrowest.nd  (pi_itemsT (pv 1)) (blkOk_by (by kernel_rfl)) (fun _ _ _ _ _ => (pg_tup rfl (pgs_cons (pg_name (i := 3) sc_narrowest.nd rfl (Or.inl rfl)) (pgs_cons (pg_name (i := 4) sc_narrowest.nd rfl (Or.inl rfl)) pgs_nil)))) (fun _ _ _ _ _ => (pts_one (pt_cmpR (op_eqD hu64) (pe_callB cr_len (by rfl) B.b_len (by decide +kernel) (pa_cons (pv 3) pa_nil)) (pv 2) (nomark _)))) (fun _ _ _ _ _ => (pv 4)))) pe_int (fun _ _ => rfl)) pa_nil)))))))

/-! width -/
abbrev s_width : Stmt := topS 22
abbrev n_width : List Str := ["machine"]
theorem sc_width : FnScope n_width ["machine"] (defScope s_width) := ⟨rfl, rfl, rfl, by decide +kernel, rfl, by decide +kernel, by decide +kernel⟩
def R_width (N : Nv) (q_narrowest : Sp) : TS := (tRet (tOp (rIx N.K) (tCall q_narrowest [] E0 (tCons (tVar 0) tNil)) (tC (.int 0))))
set_option maxHeartbeats 4000000 in
theorem D_width {P : Program} {w : World} {K : PySem.W.Frag} {mg : Str → Option Value} {base : Heap} {f : Addr} {cdv : Value} {A : Around} {outer : List PySem.Env} {s : Shared} {H : Hp} {E : XK} (N : Nv) (eK : N.K = K) (eW : N.w = w) {q_narrowest : Sp} (B : Bis mg) (c_narrowest : Cl P w K mg base 2 "narrowest" q_narrowest)
    (hr : Room 2 (A.deeper (envOfC "width" (defScope s_width) s.heap.objs.size f cdv))) :
    PSs (cxOf CX0 P w K mg base n_width "width" (defScope s_width) f cdv A outer s H E).nox (defBody s_width) (R_width N q_narrowest) := by
  subst eK eW
  have hu1 := hu_of hr
  have hu64 := hr.units
  have hu65 : (A.deeper (envOfC "width" (defScope s_width) s.heap.objs.size f cdv)).units + 65 < cLine := by
    have := hr.un
    omega
  exact (pss_one (ps_ret (pe_ix ix_seq (pe_f c_narrowest hr (by decide) (by rfl) (pa_cons (pv 0) pa_nil)) pe_int (fun _ _ => rfl))))

/-! width_log -/
abbrev s_width_log : Stmt := topS 23
abbrev n_width_log : List Str := ["machine"]
theorem sc_width_log : FnScope n_width_log ["machine"] (defScope s_width_log) := ⟨rfl, rfl, rfl, by decide +kernel, rfl, by decide +kernel, by decide +kernel⟩
def R_width_log (N : Nv) (q_narrowest : Sp) : TS := (tRet (tOp (rIx N.K) (tCall q_narrowest [] E0 (tCons (tVar 0) tNil)) (tC (.int 1))))
set_option maxHeartbeats 4000000 in
theorem D_width_log {P : Program} {w : World} {K : PySem.W.Frag} {mg : Str → Option Value} {base : Heap} {f : Addr} {cdv : Value} {A : Around} {outer : List PySem.Env} {s : Shared} {H : Hp} {E : XK} (N : Nv) (eK : N.K = K) (eW : N.w = w) {q_narrowest : Sp} (B : Bis mg) (c_narrowest : Cl P w K mg base 2 "narrowest" q_narrowest)
    (hr : Room 2 (A.deeper (envOfC "width_log" (defScope s_width_log) s.heap.objs.size f cdv))) :
    PSs (cxOf CX0 P w K mg base n_width_log "width_log" (defScope s_width_log) f cdv A outer s H E).nox (defBody s_width_log) (R_width_log N q_narrowest) := by
  subst eK eW
  have hu1 := hu_of hr
  have hu64 := hr.units
  have hu65 : (A.deeper (envOfC "width_log" (defScope s_width_log) s.heap.objs.size f cdv)).units + 65 < cLine := by
    have := hr.un
    omega
  exact (pss_one (ps_ret (pe_ix ix_seq (pe_f c_narrowest hr (by decide) (by rfl) (pa_cons (pv 0) pa_nil)) pe_int (fun _ _ => rfl))))

/-! is_ever_met -/
abbrev s_is_ever_met : Stmt := topS 24
abbrev n_is_ever_met : List Str := ["machine", "one", "other", "met", "waiting", "table", "here", "there", "pair"]
theorem sc_is_ever_met : FnScope n_is_ever_met ["machine", "one", "other"] (defScope s_is_ever_met) := ⟨rfl, rfl, rfl, by decide +kernel, rfl, by decide +kernel, by decide +kernel⟩
def R_is_ever_met (N : Nv) : TS := (tSeq (tAsg (tDispT (tTup (tCons (tVar 1) (tCons (tVar 2) tNil))) (tC (.bl true))) (gName 3))
  (tSeq (tAsg (tLst (tCons (tTup (tCons (tVar 1) (tCons (tVar 2) tNil))) tNil)) (gName 4))
  (tSeq (tWhile (tTest (tOp (rI0 fun i j => .bl (decide (j < i))) (tCB (rLen N.K N.w) (tCons (tVar 4) tNil)) (tC (.int 0)))) (tSeq (tAsg (tBM0 N.K "list" rPop (tVar 4)) (gTup N.K 2 (gCons (gName 6) (gCons (gName 7) gNil))))
  (tSeq (tIfS (tTest (tOp (rEqD N.K) (tVar 6) (tVar 7))) (tRet (tC (.bl true))) tNext)
  (tFor (iSeq N.K (tFld N.K (tVar 0) "tables")) (gName 5) (tSeq (tAsg (tTup (tCons (tOp (rIx N.K) (tVar 5) (tVar 6)) (tCons (tOp (rIx N.K) (tVar 5) (tVar 7)) tNil))) (gName 8))
  (tIfS (tB (tDNotIn (tVar 8) (tVar 3))) (tSeq (sDPut (tVar 3) (tVar 8) (tC (.bl true)))
  (tDrop (tBM N.K "list" rAppend (tVar 4) (tCons (tVar 8) tNil)))) tNext))))))
  (tRet (tC (.bl false))))))
set_option maxHeartbeats 4000000 in
theorem D_is_ever_met {P : Program} {w : World} {K : PySem.W.Frag} {mg : Str → Option Value} {base : Heap} {f : Addr} {cdv : Value} {A : Around} {outer : List PySem.Env} {s : Shared} {H : Hp} {E : XK} (N : Nv) (eK : N.K = K) (eW : N.w = w) (B : Bis mg)
    (hr : Room 0 (A.deeper (envOfC "is_ever_met" (defScope s_is_ever_met) s.heap.objs.size f cdv))) :
    PSs (cxOf CX0 P w K mg base n_is_ever_met "is_ever_met" (defScope s_is_ever_met) f cdv A outer s H E).nox (defBody s_is_ever_met) (R_is_ever_met N) := by
  subst eK eW
  have hu1 := hu_of hr
  have hu64 := hr.units
  have hu65 : (A.deeper (envOfC "is_ever_met" (defScope s_is_ever_met) s.heap.objs.size f cdv)).units + 65 < cLine := by
    have := hr.un
    omega
  exact (pss_cons (ps_set (i := 3) sc_is_ever_met.nd rfl (Or.inl rfl) (pe_dispT hu1 (pe_tup (pa_cons (pv 1) (pa_cons (pv 2) pa_nil))) pe_bl))
  (pss_cons (ps_set (i := 4) sc_is_ever_met.nd rfl (Or.inl rfl) (pe_lst (pa_cons (pe_tup (pa_cons (pv 1) (pa_cons (pv 2) pa_nil))) pa_nil)))
  (pss_cons (ps_while PassesOwn.never (pt_cmpR op_gt (pe_callB cr_len (by rfl) B.b_len (by decide +kernel) (pa_cons (pv 4) pa_nil)) pe_int (nomark _)) (pss_cons (ps_asg (pe_bm0 PySem.F.plainAttrs_list PySem.F.slot_list_pop PySem.F.type_list_pop mt_pop (pv 4)) (pg_tup rfl (pgs_cons (pg_name (i := 6) sc_is_ever_met.nd rfl (Or.inl rfl)) (pgs_cons (pg_name (i := 7) sc_is_ever_met.nd rfl (Or.inl rfl)) pgs_nil))))
  (pss_cons (ps_if (pt_cmpR (op_eqD hu64) (pv 6) (pv 7) (nomark _)) (pss_one (ps_ret pe_bl)) pss_nil)
  (pss_one (ps_for PassesOwn.never rfl (pi_seq (pe_fld (pv 0) rfl)) (pg_name (i := 5) sc_is_ever_met.nd rfl (Or.inl rfl)) (pss_cons (ps_set (i := 8) sc_is_ever_met.nd rfl (Or.inl rfl) (pe_tup (pa_cons (pe_ix ix_seq (pv 5) (pv 6) (fun _ _ => rfl)) (pa_cons (pe_ix ix_seq (pv 5) (pv 7) (fun _ _ => rfl)) pa_nil))))
  (pss_one (ps_if (pt_cmp (pc_dnotin hu1 (pv 8) (pv 3))) (pss_cons (ps_dput hu1 (pv 3) (pv 8) pe_bl rfl)
  (pss_one (ps_expr (pe_bm PySem.F.plainAttrs_list PySem.F.slot_list_append PySem.F.type_list_append mt_append (pv 4) (pa_cons (pv 8) pa_nil))))) pss_nil))))))))
  (pss_one (ps_ret pe_bl)))))

/-! reset_paper -/
abbrev s_reset_paper : Stmt := topS 25
abbrev n_reset_paper : List Str := ["machine", "one", "other"]
theorem sc_reset_paper : FnScope n_reset_paper ["machine"] (defScope s_reset_paper) := ⟨rfl, rfl, rfl, by decide +kernel, rfl, by decide +kernel, by decide +kernel⟩
def R_reset_paper (N : Nv) (q_is_ever_met : Sp) (q_width_log : Sp) : TS := (tSeq (tFor (iRng1 (tCons (tFld N.K (tVar 0) "states") tNil)) (gName 1) (tFor (iRng2 (tCons (tOp (rI0 fun i j => .int (i + j)) (tVar 1) (tC (.int 1))) (tCons (tFld N.K (tVar 0) "states") tNil))) (gName 2) (tIfS (tNot (tB (tCall q_is_ever_met [] E0 (tCons (tVar 0) (tCons (tVar 1) (tCons (tVar 2) tNil)))))) (tRet (tTup (tCons (tC (.str "pair")) (tCons (tTup (tCons (tVar 1) (tCons (tVar 2) tNil))) tNil)))) tNext)))
  (tRet (tTup (tCons (tC (.str "reset")) (tCons (tCall q_width_log [] E0 (tCons (tVar 0) tNil)) tNil)))))
set_option maxHeartbeats 4000000 in
theorem D_reset_paper {P : Program} {w : World} {K : PySem.W.Frag} {mg : Str → Option Value} {base : Heap} {f : Addr} {cdv : Value} {A : Around} {outer : List PySem.Env} {s : Shared} {H : Hp} {E : XK} (N : Nv) (eK : N.K = K) (eW : N.w = w) {q_is_ever_met : Sp} {q_width_log : Sp} (B : Bis mg) (c_is_ever_met : Cl P w K mg base 1 "is_ever_met" q_is_ever_met) (c_width_log : Cl P w K mg base 3 "width_log" q_width_log)
    (hr : Room 3 (A.deeper (envOfC "reset_paper" (defScope s_reset_paper) s.heap.objs.size f cdv))) :
    PSs (cxOf CX0 P w K mg base n_reset_paper "reset_paper" (defScope s_reset_paper) f cdv A outer s H E).nox (defBody s_reset_paper) (R_reset_paper N q_is_ever_met q_width_log) := by
  subst eK eW
  have hu1 := hu_of hr
  have hu64 := hr.units
  have hu65 : (A.deeper (envOfC "reset_paper" (defScope s_reset_paper) s.heap.objs.size f cdv)).units + 65 < cLine := by
    have := hr.un
    omega
  exact (pss_cons (ps_for PassesOwn.never rfl (pi_range1 (by rfl) B.b_range (pa_cons (pe_fld (pv 0) rfl) pa_nil)) (pg_name (i := 1) sc_reset_paper.nd rfl (Or.inl rfl)) (pss_one (ps_for PassesOwn.never rfl (pi_range2 (by rfl) B.b_range (pa_cons (pe_op op_add (pv 1) pe_int) (pa_cons (pe_fld (pv 0) rfl) pa_nil))) (pg_name (i := 2) sc_reset_paper.nd rfl (Or.inl rfl)) (pss_one (ps_if (pt_not (pt_val (pe_f c_is_ever_met hr (by decide) (by rfl) (pa_cons (pv 0) (pa_cons (pv 1) (pa_cons (pv 2) pa_nil)))))) (pss_one (ps_ret (pe_tup (pa_cons (pe_gx (by rfl) B.g_PAIR) (pa_cons (pe_tup (pa_cons (pv 1) (pa_cons (pv 2) pa_nil))) pa_nil))))) pss_nil)))))
  (pss_one (ps_ret (pe_tup (pa_cons (pe_gx (by rfl) B.g_RESET) (pa_cons (pe_f c_width_log hr (by decide) (by rfl) (pa_cons (pv 0) pa_nil)) pa_nil))))))

/-! reset_holds -/
abbrev s_reset_holds : Stmt := topS 26
abbrev n_reset_holds : List Str := ["machine", "value", "deed", "state"]
theorem sc_reset_holds : FnScope n_reset_holds ["machine", "value"] (defScope s_reset_holds) := ⟨rfl, rfl, rfl, by decide +kernel, rfl, by decide +kernel, by decide +kernel⟩
def R_reset_holds (N : Nv) (q_is_sequence : Sp) (q_is_text : Sp) (q_is_below : Sp) (q_behind : Sp) (q_is_ascending : Sp) (q_is_ever_met : Sp) : TS := (tSeq (tIfS (tOr (tNot (tB (tCall q_is_sequence [] E0 (tCons (tVar 1) tNil)))) (tOr (tTest (tOp (rNeD N.K) (tCB (rLen N.K N.w) (tCons (tVar 1) tNil)) (tC (.int 2)))) (tOr (tNot (tB (tCall q_is_text [] E0 (tCons (tOp (rIx N.K) (tVar 1) (tC (.int 0))) tNil)))) (tNot (tB (tCall q_is_sequence [] E0 (tCons (tOp (rIx N.K) (tVar 1) (tC (.int 1))) tNil))))))) (tRet (tC (.bl false))) tNext)
  (tSeq (tIfS (tTest (tOp (rEqD N.K) (tOp (rIx N.K) (tVar 1) (tC (.int 0))) (tC (.str "reset")))) (tSeq (tIfS (tNot (tB (tCB (rAll N.K) (tCons (tLc (iSeq N.K (tOp (rIx N.K) (tVar 1) (tC (.int 1)))) (gName 2) tYes (tCall q_is_below [] E0 (tCons (tVar 2) (tCons (tFld N.K (tVar 0) "deeds") tNil))) [2]) tNil)))) (tRet (tC (.bl false))) tNext)
  (tRet (tOp (rEqD N.K) (tCB (rLen N.K N.w) (tCons (tDc (iRng1 (tCons (tFld N.K (tVar 0) "states") tNil)) (gName 3) tYes (tCall q_behind [] E0 (tCons (tFld N.K (tVar 0) "tables") (tCons (tVar 3) (tCons (tOp (rIx N.K) (tVar 1) (tC (.int 1))) tNil)))) (tC (.bl true)) [3]) tNil)) (tC (.int 1))))) tNext)
  (tSeq (tIfS (tOr (tTest (tOp (rNeD N.K) (tOp (rIx N.K) (tVar 1) (tC (.int 0))) (tC (.str "pair")))) (tOr (tTest (tOp (rNeD N.K) (tCB (rLen N.K N.w) (tCons (tOp (rIx N.K) (tVar 1) (tC (.int 1))) tNil)) (tC (.int 2)))) (tNot (tB (tCall q_is_ascending [] E0 (tCons (tOp (rIx N.K) (tVar 1) (tC (.int 1))) (tCons (tFld N.K (tVar 0) "states") tNil))))))) (tRet (tC (.bl false))) tNext)
  (tRet (tNotV (tCall q_is_ever_met [] E0 (tCons (tVar 0) (tCons (tOp (rIx N.K) (tOp (rIx N.K) (tVar 1) (tC (.int 1))) (tC (.int 0))) (tCons (tOp (rIx N.K) (tOp (rIx N.K) (tVar 1) (tC (.int 1))) (tC (.int 1))) tNil)))))))))
set_option maxHeartbeats 4000000 in
theorem D_reset_holds {P : Program} {w : World} {K : PySem.W.Frag} {mg : Str → Option Value} {base : Heap} {f : Addr} {cdv : Value} {A : Around} {outer : List PySem.Env} {s : Shared} {H : Hp} {E : XK} (N : Nv) (eK : N.K = K) (eW : N.w = w) {q_is_sequence : Sp} {q_is_text : Sp} {q_is_below : Sp} {q_behind : Sp} {q_is_ascending : Sp} {q_is_ever_met : Sp} (B : Bis mg) (c_is_sequence : Cl P w K mg base 1 "is_sequence" q_is_sequence) (c_is_text : Cl P w K mg base 1 "is_text" q_is_text) (c_is_below : Cl P w K mg base 3 "is_below" q_is_below) (c_behind : Cl P w K mg base 1 "behind" q_behind) (c_is_ascending : Cl P w K mg base 4 "is_ascending" q_is_ascending) (c_is_ever_met : Cl P w K mg base 1 "is_ever_met" q_is_ever_met)
    (hr : Room 4 (A.deeper (envOfC "reset_holds" (defScope s_reset_holds) s.heap.objs.size f cdv))) :
    PSs (cxOf CX0 P w K mg base n_reset_holds "reset_holds" (defScope s_reset_holds) f cdv A outer s H E).nox (defBody s_reset_holds) (R_reset_holds N q_is_sequence q_is_text q_is_below q_behind q_is_ascending q_is_ever_met) := by
  subst eK eW
  have hu1 := hu_of hr
  have hu64 := hr.units
  have hu65 : (A.deeper (envOfC "reset_holds" (defScope s_reset_holds) s.heap.objs.size f cdv)).units + 65 < cLine := by
    have := hr.un
    omega
  exact (pss_cons (ps_if (PW.pt (pw_or (pt_not (pt_val (pe_f c_is_sequence hr (by decide) (by rfl) (pa_cons (pv 1) pa_nil)))) (pw_or (pt_cmpR (op_neD hu64) (pe_callB cr_len (by rfl) B.b_len (by decide +kernel) (pa_cons (pv 1) pa_nil)) pe_int (nomark _)) (pw_or (pt_not (pt_val (pe_f c_is_text hr (by decide) (by rfl) (pa_cons (pe_ix ix_seq (pv 1) pe_int (fun _ _ => rfl)) pa_nil)))) (pw_or1 (pt_not (pt_val (pe_f c_is_sequence hr (by decide) (by rfl) (pa_cons (pe_ix ix_seq (pv 1) pe_int (fun _ _ => rfl)) pa_nil))))))))) (pss_one (ps_ret pe_bl)) pss_nil)
  (pss_cons (ps_if (pt_cmpR (op_eqD hu64) (pe_ix ix_seq (pv 1) pe_int (fun _ _ => rfl)) (pe_gx (by rfl) B.g_RESET) (nomark _)) (pss_cons (ps_if (pt_not (pt_val (pe_callB (cr_all rfl) (by rfl) B.b_all (by decide +kernel) (pa_cons (pe_lc (own := [("deed", 2)]) (g := (gName 2)) (tt := tYes) rfl sc_reset_holds.nd  (pi_seq (pe_ix ix_seq (pv 1) pe_int (fun _ _ => rfl))) (blkOk_by (by kernel_rfl)) (fun _ _ _ _ _ => (pg_name (i := 2) sc_reset_holds.nd rfl (Or.inl rfl))) (fun _ _ _ _ _ => pts_nil) (fun _ _ _ _ _ => (pe_f c_is_below hr (by decide) (by rfl) (pa_cons (pv 2) (pa_cons (pe_fld (pv 0) rfl) pa_nil))))) pa_nil)))) (pss_one (ps_ret pe_bl)) pss_nil)
  (pss_one (ps_ret (pe_cmpR (op_eqD hu64) (pe_callB cr_len (by rfl) B.b_len (by decide +kernel) (pa_cons (pe_dc (own := [("state", 3)]) (g := (gName 3)) (tt := tYes) rfl sc_reset_holds.nd (pi_range1 (by rfl) B.b_range (pa_cons (pe_fld (pv 0) rfl) pa_nil)) (blkOk_by (by kernel_rfl)) (fun _ _ _ _ _ => (pg_name (i := 3) sc_reset_holds.nd rfl (Or.inl rfl))) (fun _ _ _ _ _ => pts_nil) (fun _ _ _ _ _ => (pe_f c_behind hr (by decide) (by rfl) (pa_cons (pe_fld (pv 0) rfl) (pa_cons (pv 3) (pa_cons (pe_ix ix_seq (pv 1) pe_int (fun _ _ => rfl)) pa_nil))))) (fun _ _ _ _ _ => pe_bl)) pa_nil)) pe_int (nomark _))))) pss_nil)
  (pss_cons (ps_if (PW.pt (pw_or (pt_cmpR (op_neD hu64) (pe_ix ix_seq (pv 1) pe_int (fun _ _ => rfl)) (pe_gx (by rfl) B.g_PAIR) (nomark _)) (pw_or (pt_cmpR (op_neD hu64) (pe_callB cr_len (by rfl) B.b_len (by decide +kernel) (pa_cons (pe_ix ix_seq (pv 1) pe_int (fun _ _ => rfl)) pa_nil)) pe_int (nomark _)) (pw_or1 (pt_not (pt_val (pe_f c_is_ascending hr (by decide) (by rfl) (pa_cons (pe_ix ix_seq (pv 1) pe_int (fun _ _ => rfl)) (pa_cons (pe_fld (pv 0) rfl) pa_nil))))))))) (pss_one (ps_ret pe_bl)) pss_nil)
  (pss_one (ps_ret (pe_not (pe_f c_is_ever_met hr (by decide) (by rfl) (pa_cons (pv 0) (pa_cons (pe_ix ix_seq (pe_ix ix_seq (pv 1) pe_int (fun _ _ => rfl)) pe_int (fun _ _ => rfl)) (pa_cons (pe_ix ix_seq (pe_ix ix_seq (pv 1) pe_int (fun _ _ => rfl)) pe_int (fun _ _ => rfl)) pa_nil))))))))))

/-! _law_box -/
abbrev s__law_box : Stmt := topS 28
abbrev n__law_box : List Str := ["_law_script", "_law_k", "_law_cell"]
theorem sc__law_box : FnScope n__law_box ["_law_script", "_law_k"] (defScope s__law_box) := ⟨rfl, rfl, rfl, by decide +kernel, rfl, by decide +kernel, by decide +kernel⟩
def R__law_box (N : Nv) : TS := (tSeq (tAsg (tOp (rI0 fun i j => .int (i + j)) (tOp (rI CMul fun i j => .int (i * j)) (tC (.int 9319)) (tVar 1)) (tC (.int 389))) (gName 2))
  (tSeq (tIfS (tTest (tOp (rI0 fun i j => .bl (decide (i < j))) (tVar 1) (tCB (rLen N.K N.w) (tCons (tVar 0) tNil)))) (tAsg (tCB (rAbs) (tCons (tOp (rIx N.K) (tVar 0) (tVar 1)) tNil)) (gName 2)) (tIfS (tTest (tOp (rI0 fun i j => .bl (decide (j < i))) (tCB (rLen N.K N.w) (tCons (tVar 0) tNil)) (tC (.int 0)))) (tAsg (tOp (rI0 fun i j => .int (i + j)) (tVar 2) (tOp (rI CMul fun i j => .int (i * j)) (tOp (rI (fun _ j => 0 < j) fun i j => .int (i % j)) (tCB (rInt) (tCons (tCB (rAbs) (tCons (tOp (rIx N.K) (tVar 0) (tOp (rI (fun _ j => 0 < j) fun i j => .int (i % j)) (tCB (rInt) (tCons (tVar 1) tNil)) (tCB (rLen N.K N.w) (tCons (tVar 0) tNil)))) tNil)) tNil)) (tC (.int 2147483477))) (tC (.int 45307)))) (gName 2)) tNext))
  (tRet (tLst (tCons (tOp (rIx N.K) (tLst (tCons (tC (.int 0)) (tCons (tVar 2) tNil))) (tCB (rInt) (tCons (tOp (rI0 fun i j => .bl (decide (j ≤ i))) (tVar 2) (tOp (rI CPow fun i j => .int (i ^ j.toNat)) (tC (.int 10)) (tC (.int 18)))) tNil))) (tCons (tOp (rI0 fun i j => .int (i + j)) (tOp (rI (fun _ j => 0 < j) fun i j => .int (i % j)) (tCB (rInt) (tCons (tOp (rI0 fun i j => .int (i + j)) (tOp (rI CMul fun i j => .int (i * j)) (tOp (rI (fun _ j => 0 < j) fun i j => .int (i % j)) (tCB (rInt) (tCons (tVar 2) tNil)) (tC (.int 2147483477))) (tC (.int 36551))) (tOp (rI CMul fun i j => .int (i * j)) (tC (.int 31013)) (tVar 1))) tNil)) (tC (.int 2147483477))) (tC (.int 1))) (tCons (tC (.int 0)) tNil)))))))
set_option maxHeartbeats 4000000 in
theorem D__law_box {P : Program} {w : World} {K : PySem.W.Frag} {mg : Str → Option Value} {base : Heap} {f : Addr} {cdv : Value} {A : Around} {outer : List PySem.Env} {s : Shared} {H : Hp} {E : XK} (N : Nv) (eK : N.K = K) (eW : N.w = w) (B : Bis mg)
    (hr : Room 0 (A.deeper (envOfC "_law_box" (defScope s__law_box) s.heap.objs.size f cdv))) :
    PSs (cxOf CX0 P w K mg base n__law_box "_law_box" (defScope s__law_box) f cdv A outer s H E).nox (defBody s__law_box) (R__law_box N) := by
  subst eK eW
  have hu1 := hu_of hr
  have hu64 := hr.units
  have hu65 : (A.deeper (envOfC "_law_box" (defScope s__law_box) s.heap.objs.size f cdv)).units + 65 < cLine := by
    have := hr.un
    omega
  exact (pss_cons (ps_set (i := 2) sc__law_box.nd rfl (Or.inl rfl) (pe_op op_add (pe_op op_mul pe_int (pv 1)) pe_int))
  (pss_cons (ps_if (pt_cmpR op_lt (pv 1) (pe_callB cr_len (by rfl) B.b_len (by decide +kernel) (pa_cons (pv 0) pa_nil)) (nomark _)) (pss_one (ps_set (i := 2) sc__law_box.nd rfl (Or.inl rfl) (pe_callB cr_abs (by rfl) B.b_abs (by decide +kernel) (pa_cons (pe_ix ix_seq (pv 0) (pv 1) (fun _ _ => rfl)) pa_nil)))) (pss_one (ps_if (pt_cmpR op_gt (pe_callB cr_len (by rfl) B.b_len (by decide +kernel) (pa_cons (pv 0) pa_nil)) pe_int (nomark _)) (pss_one (ps_set (i := 2) sc__law_box.nd rfl (Or.inl rfl) (pe_op op_add (pv 2) (pe_op op_mul (pe_op op_mod (pe_callTy cr_int (by rfl) B.b_int (by decide +kernel) (pa_cons (pe_callB cr_abs (by rfl) B.b_abs (by decide +kernel) (pa_cons (pe_ix ix_seq (pv 0) (pe_op op_mod (pe_callTy cr_int (by rfl) B.b_int (by decide +kernel) (pa_cons (pv 1) pa_nil)) (pe_callB cr_len (by rfl) B.b_len (by decide +kernel) (pa_cons (pv 0) pa_nil))) (fun _ _ => rfl)) pa_nil)) pa_nil)) pe_int) pe_int)))) pss_nil)))
  (pss_one (ps_ret (pe_lst (pa_cons (pe_ix ix_seq (pe_lst (pa_cons pe_int (pa_cons (pv 2) pa_nil))) (pe_callTy cr_int (by rfl) B.b_int (by decide +kernel) (pa_cons (pe_cmpR op_ge (pv 2) (pe_op op_pow pe_int pe_int) (nomark _)) pa_nil)) (fun _ _ => rfl)) (pa_cons (pe_op op_add (pe_op op_mod (pe_callTy cr_int (by rfl) B.b_int (by decide +kernel) (pa_cons (pe_op op_add (pe_op op_mul (pe_op op_mod (pe_callTy cr_int (by rfl) B.b_int (by decide +kernel) (pa_cons (pv 2) pa_nil)) pe_int) pe_int) (pe_op op_mul pe_int (pv 1))) pa_nil)) pe_int) pe_int) (pa_cons pe_int pa_nil))))))))

/-! _law_take -/
abbrev s__law_take : Stmt := topS 29
abbrev n__law_take : List Str := ["_law_box_here", "_law_many", "_law_raw", "_law_digit"]
theorem sc__law_take : FnScope n__law_take ["_law_box_here", "_law_many"] (defScope s__law_take) := ⟨rfl, rfl, rfl, by decide +kernel, rfl, by decide +kernel, by decide +kernel⟩
def R__law_take (N : Nv) : TS := (tSeq (tIfS (tTest (tOp (rI0 fun i j => .bl (decide (j < i))) (tOp (rIx N.K) (tVar 0) (tC (.int 0))) (tC (.int 0)))) (tSeq (tAsg (tOp (rI (fun _ j => 0 < j) fun i j => .int (i % j)) (tCB (rInt) (tCons (tOp (rIx N.K) (tVar 0) (tC (.int 0))) tNil)) (tVar 1)) (gName 3))
  (tSeq (tAsg (tOp (rI CDiv fun i j => .int (i / j)) (tOp (rIx N.K) (tVar 0) (tC (.int 0))) (tVar 1)) (gSub (tVar 0) (tC (.int 0)) rSetL))
  (tRet (tVar 3)))) tNext)
  (tSeq (tAsg (tOp (rI0 fun i j => .int (i + j)) (tOp (rIx N.K) (tVar 0) (tC (.int 2))) (tC (.int 1))) (gSub (tVar 0) (tC (.int 2)) rSetL))
  (tSeq (tAsg (tOp (rI (fun _ j => 0 < j) fun i j => .int (i % j)) (tCB (rInt) (tCons (tOp (rI0 fun i j => .int (i + j)) (tOp (rI CMul fun i j => .int (i * j)) (tOp (rI0 fun i j => .int (i + j)) (tOp (rIx N.K) (tVar 0) (tC (.int 1))) (tOp (rI CMul fun i j => .int (i * j)) (tC (.int 63029)) (tOp (rIx N.K) (tVar 0) (tC (.int 2))))) (tC (.int 58369))) (tC (.int 47))) tNil)) (tC (.int 2147483423))) (gName 2))
  (tSeq (tAsg (tOp (rI0 fun i j => .int (i + j)) (tOp (rI (fun _ j => 0 < j) fun i j => .int (i % j)) (tCB (rInt) (tCons (tOp (rI0 fun i j => .int (i + j)) (tOp (rI CMul fun i j => .int (i * j)) (tVar 2) (tC (.int 43177))) (tC (.int 18013))) tNil)) (tC (.int 2147483477))) (tC (.int 1))) (gSub (tVar 0) (tC (.int 1)) rSetL))
  (tRet (tOp (rI (fun _ j => 0 < j) fun i j => .int (i % j)) (tCB (rInt) (tCons (tOp (rI CDiv fun i j => .int (i / j)) (tOp (rI0 fun i j => .int (i + j)) (tOp (rI CMul fun i j => .int (i * j)) (tVar 2) (tC (.int 2147483629))) (tOp (rIx N.K) (tVar 0) (tC (.int 1)))) (tC (.int 8191))) tNil)) (tVar 1)))))))
set_option maxHeartbeats 4000000 in
theorem D__law_take {P : Program} {w : World} {K : PySem.W.Frag} {mg : Str → Option Value} {base : Heap} {f : Addr} {cdv : Value} {A : Around} {outer : List PySem.Env} {s : Shared} {H : Hp} {E : XK} (N : Nv) (eK : N.K = K) (eW : N.w = w) (B : Bis mg)
    (hr : Room 0 (A.deeper (envOfC "_law_take" (defScope s__law_take) s.heap.objs.size f cdv))) :
    PSs (cxOf CX0 P w K mg base n__law_take "_law_take" (defScope s__law_take) f cdv A outer s H E).nox (defBody s__law_take) (R__law_take N) := by
  subst eK eW
  have hu1 := hu_of hr
  have hu64 := hr.units
  have hu65 : (A.deeper (envOfC "_law_take" (defScope s__law_take) s.heap.objs.size f cdv)).units + 65 < cLine := by
    have := hr.un
    omega
  exact (pss_cons (ps_if (pt_cmpR op_gt (pe_ix ix_seq (pv 0) pe_int (fun _ _ => rfl)) pe_int (nomark _)) (pss_cons (ps_set (i := 3) sc__law_take.nd rfl (Or.inl rfl) (pe_op op_mod (pe_callTy cr_int (by rfl) B.b_int (by decide +kernel) (pa_cons (pe_ix ix_seq (pv 0) pe_int (fun _ _ => rfl)) pa_nil)) (pv 1)))
  (pss_cons (ps_asg (pe_op op_fdiv (pe_ix ix_seq (pv 0) pe_int (fun _ _ => rfl)) (pv 1)) (pg_sub (pv 0) pe_int set_list))
  (pss_one (ps_ret (pv 3))))) pss_nil)
  (pss_cons (ps_asg (pe_op op_add (pe_ix ix_seq (pv 0) pe_int (fun _ _ => rfl)) pe_int) (pg_sub (pv 0) pe_int set_list))
  (pss_cons (ps_set (i := 2) sc__law_take.nd rfl (Or.inl rfl) (pe_op op_mod (pe_callTy cr_int (by rfl) B.b_int (by decide +kernel) (pa_cons (pe_op op_add (pe_op op_mul (pe_op op_add (pe_ix ix_seq (pv 0) pe_int (fun _ _ => rfl)) (pe_op op_mul pe_int (pe_ix ix_seq (pv 0) pe_int (fun _ _ => rfl)))) pe_int) pe_int) pa_nil)) pe_int))
  (pss_cons (ps_asg (pe_op op_add (pe_op op_mod (pe_callTy cr_int (by rfl) B.b_int (by decide +kernel) (pa_cons (pe_op op_add (pe_op op_mul (pv 2) pe_int) pe_int) pa_nil)) pe_int) pe_int) (pg_sub (pv 0) pe_int set_list))
  (pss_one (ps_ret (pe_op op_mod (pe_callTy cr_int (by rfl) B.b_int (by decide +kernel) (pa_cons (pe_op op_fdiv (pe_op op_add (pe_op op_mul (pv 2) pe_int) (pe_ix ix_seq (pv 0) pe_int (fun _ _ => rfl))) pe_int) pa_nil)) (pv 1))))))))

/-! _law_pick -/
abbrev s__law_pick : Stmt := topS 30
abbrev n__law_pick : List Str := ["_law_box_here", "_law_some"]
theorem sc__law_pick : FnScope n__law_pick ["_law_box_here", "_law_some"] (defScope s__law_pick) := ⟨rfl, rfl, rfl, by decide +kernel, rfl, by decide +kernel, by decide +kernel⟩
def R__law_pick (N : Nv) (q__law_take : Sp) : TS := (tRet (tOp (rIx N.K) (tVar 1) (tCall q__law_take [] E0 (tCons (tVar 0) (tCons (tCB (rLen N.K N.w) (tCons (tVar 1) tNil)) tNil)))))
set_option maxHeartbeats 4000000 in
theorem D__law_pick {P : Program} {w : World} {K : PySem.W.Frag} {mg : Str → Option Value} {base : Heap} {f : Addr} {cdv : Value} {A : Around} {outer : List PySem.Env} {s : Shared} {H : Hp} {E : XK} (N : Nv) (eK : N.K = K) (eW : N.w = w) {q__law_take : Sp} (B : Bis mg) (c__law_take : Cl P w K mg base 1 "_law_take" q__law_take)
    (hr : Room 1 (A.deeper (envOfC "_law_pick" (defScope s__law_pick) s.heap.objs.size f cdv))) :
    PSs (cxOf CX0 P w K mg base n__law_pick "_law_pick" (defScope s__law_pick) f cdv A outer s H E).nox (defBody s__law_pick) (R__law_pick N q__law_take) := by
  subst eK eW
  have hu1 := hu_of hr
  have hu64 := hr.units
  have hu65 : (A.deeper (envOfC "_law_pick" (defScope s__law_pick) s.heap.objs.size f cdv)).units + 65 < cLine := by
    have := hr.un
    omega
  exact (pss_one (ps_ret (pe_ix ix_seq (pv 1) (pe_f c__law_take hr (by decide) (by rfl) (pa_cons (pv 0) (pa_cons (pe_callB cr_len (by rfl) B.b_len (by decide +kernel) (pa_cons (pv 1) pa_nil)) pa_nil))) (fun _ _ => rfl))))

/-! _law_tables -/
abbrev s__law_tables : Stmt := topS 31
abbrev n__law_tables : List Str := ["_law_box_here", "_law_sizes", "_law_kinds", "_law_deed", "_law_many", "_law_found", "_law_table", "_law_style", "_law_by", "_law_state"]
theorem sc__law_tables : FnScope n__law_tables ["_law_box_here", "_law_sizes", "_law_kinds"] (defScope s__law_tables) := ⟨rfl, rfl, rfl, by decide +kernel, rfl, by decide +kernel, by decide +kernel⟩
def R__law_tables (N : Nv) (q__law_pick : Sp) (q__law_take : Sp) : TS := (tSeq (tAsg (tTup (tCons (tCall q__law_pick [] E0 (tCons (tVar 0) (tCons (tVar 1) tNil))) (tCons (tLst tNil) tNil))) (gTup N.K 2 (gCons (gName 4) (gCons (gName 5) gNil))))
  (tSeq (tFor (iRng1 (tCons (tCall q__law_pick [] E0 (tCons (tVar 0) (tCons (tVar 2) tNil))) tNil)) (gName 3) (tSeq (tAsg (tTup (tCons (tCall q__law_take [] E0 (tCons (tVar 0) (tCons (tC (.int 6)) tNil))) (tCons (tCall q__law_take [] E0 (tCons (tVar 0) (tCons (tVar 4) tNil))) tNil))) (gTup N.K 2 (gCons (gName 7) (gCons (gName 8) gNil))))
  (tSeq (tAsg (tLc (iRng1 (tCons (tVar 4) tNil)) (gName 9) tYes (tCall q__law_take [] E0 (tCons (tVar 0) (tCons (tVar 4) tNil))) [9]) (gName 6))
  (tSeq (tIfS (tTest (tOp (rEqD N.K) (tVar 7) (tC (.int 0)))) (tAsg (tLc (iRng1 (tCons (tVar 4) tNil)) (gName 9) tYes (tOp (rI (fun _ j => 0 < j) fun i j => .int (i % j)) (tCB (rInt) (tCons (tOp (rI0 fun i j => .int (i + j)) (tVar 9) (tVar 8)) tNil)) (tVar 4)) [9]) (gName 6)) tNext)
  (tSeq (tIfS (tTest (tOp (rEqD N.K) (tVar 7) (tC (.int 1)))) (tAsg (tLc (iRng1 (tCons (tVar 4) tNil)) (gName 9) tYes (tCB (rMn N.K) (tCons (tOp (rI0 fun i j => .int (i - j)) (tVar 4) (tC (.int 1))) (tCons (tOp (rI0 fun i j => .int (i + j)) (tVar 9) (tC (.int 1))) tNil))) [9]) (gName 6)) tNext)
  (tSeq (tIfS (tTest (tOp (rEqD N.K) (tVar 7) (tC (.int 2)))) (tAsg (tOp rRep (tLst (tCons (tVar 8) tNil)) (tVar 4)) (gName 6)) tNext)
  (tSeq (tIfS (tTest (tOp (rEqD N.K) (tVar 7) (tC (.int 3)))) (tAsg (tLc (iRng1 (tCons (tVar 4) tNil)) (gName 9) tYes (tCB (rMx) (tCons (tVar 9) (tCons (tVar 8) tNil))) [9]) (gName 6)) tNext)
  (tDrop (tBM N.K "list" rAppend (tVar 5) (tCons (tCB (rTup N.K) (tCons (tVar 6) tNil)) tNil))))))))))
  (tRet (tVar 5))))
set_option maxHeartbeats 4000000 in
theorem D__law_tables {P : Program} {w : World} {K : PySem.W.Frag} {mg : Str → Option Value} {base : Heap} {f : Addr} {cdv : Value} {A : Around} {outer : List PySem.Env} {s : Shared} {H : Hp} {E : XK} (N : Nv) (eK : N.K = K) (eW : N.w = w) {q__law_pick : Sp} {q__law_take : Sp} (B : Bis mg) (c__law_pick : Cl P w K mg base 2 "_law_pick" q__law_pick) (c__law_take : Cl P w K mg base 1 "_law_take" q__law_take)
    (hr : Room 2 (A.deeper (envOfC "_law_tables" (defScope s__law_tables) s.heap.objs.size f cdv))) :
    PSs (cxOf CX0 P w K mg base n__law_tables "_law_tables" (defScope s__law_tables) f cdv A outer s H E).nox (defBody s__law_tables) (R__law_tables N q__law_pick q__law_take) := by
  subst eK eW
  have hu1 := hu_of hr
  have hu64 := hr.units
  have hu65 : (A.deeper (envOfC "_law_tables" (defScope s__law_tables) s.heap.objs.size f cdv)).units + 65 < cLine := by
    have := hr.un
    omega
  exact (pss_cons (ps_asg (pe_tup (pa_cons (pe_f c__law_pick hr (by decide) (by rfl) (pa_cons (pv 0) (pa_cons (pv 1) pa_nil))) (pa_cons (pe_lst pa_nil) pa_nil))) (pg_tup rfl (pgs_cons (pg_name (i := 4) sc__law_tables.nd rfl (Or.inr rfl)) (pgs_cons (pg_name (i := 5) sc__law_tables.nd rfl (Or.inl rfl)) pgs_nil))))
  (pss_cons (ps_for PassesOwn.never rfl (pi_range1 (by rfl) B.b_range (pa_cons (pe_f c__law_pick hr (by decide) (by rfl) (pa_cons (pv 0) (pa_cons (pv 2) pa_nil))) pa_nil)) (pg_name (i := 3) sc__law_tables.nd rfl (Or.inl rfl)) (pss_cons (ps_asg (pe_tup (pa_cons (pe_f c__law_take hr (by decide) (by rfl) (pa_cons (pv 0) (pa_cons pe_int pa_nil))) (pa_cons (pe_f c__law_take hr (by decide) (by rfl) (pa_cons (pv 0) (pa_cons (pv 4) pa_nil))) pa_nil))) (pg_tup rfl (pgs_cons (pg_name (i := 7) sc__law_tables.nd rfl (Or.inl rfl)) (pgs_cons (pg_name (i := 8) sc__law_tables.nd rfl (Or.inr rfl)) pgs_nil))))
  (pss_cons (ps_setLc (i := 6) (own := [("_law_state", 9)]) (g := (gName 9)) (tt := tYes) rfl sc__law_tables.nd rfl rfl (sw_true rfl rfl rfl (by decide +kernel)) (pi_range1 (by rfl) B.b_range (pa_cons (pv 4) pa_nil)) (blkOk_by (by kernel_rfl)) (fun _ _ _ _ _ => (pg_name (i := 9) sc__law_tables.nd rfl (Or.inl rfl))) (fun _ _ _ _ _ => pts_nil) (fun _ _ _ _ _ => (pe_f c__law_take hr (by decide) (by rfl) (pa_cons (pv 0) (pa_cons (pv 4) pa_nil)))))
  (pss_cons (ps_if (pt_cmpR (op_eqD hu64) (pv 7) pe_int (nomark _)) (pss_one (ps_setLc (i := 6) (own := [("_law_state", 9)]) (g := (gName 9)) (tt := tYes) rfl sc__law_tables.nd rfl rfl (sw_true rfl rfl rfl (by decide +kernel)) (pi_range1 (by rfl) B.b_range (pa_cons (pv 4) pa_nil)) (blkOk_by (by kernel_rfl)) (fun _ _ _ _ _ => (pg_name (i := 9) sc__law_tables.nd rfl (Or.inl rfl))) (fun _ _ _ _ _ => pts_nil) (fun _ _ _ _ _ => (pe_op op_mod (pe_callTy cr_int (by rfl) B.b_int (by decide +kernel) (pa_cons (pe_op op_add (pv 9) (pv 8)) pa_nil)) (pv 4))))) pss_nil)
  (pss_cons (ps_if (pt_cmpR (op_eqD hu64) (pv 7) pe_int (nomark _)) (pss_one (ps_setLc (i := 6) (own := [("_law_state", 9)]) (g := (gName 9)) (tt := tYes) rfl sc__law_tables.nd rfl rfl (sw_true rfl rfl rfl (by decide +kernel)) (pi_range1 (by rfl) B.b_range (pa_cons (pv 4) pa_nil)) (blkOk_by (by kernel_rfl)) (fun _ _ _ _ _ => (pg_name (i := 9) sc__law_tables.nd rfl (Or.inl rfl))) (fun _ _ _ _ _ => pts_nil) (fun _ _ _ _ _ => (pe_callB (cr_mn rfl) (by rfl) B.b_min (by decide +kernel) (pa_cons (pe_op op_sub (pv 4) pe_int) (pa_cons (pe_op op_add (pv 9) pe_int) pa_nil)))))) pss_nil)
  (pss_cons (ps_if (pt_cmpR (op_eqD hu64) (pv 7) pe_int (nomark _)) (pss_one (ps_set (i := 6) sc__law_tables.nd rfl (Or.inl rfl) (pe_op op_rep (pe_lst (pa_cons (pv 8) pa_nil)) (pv 4)))) pss_nil)
  (pss_cons (ps_if (pt_cmpR (op_eqD hu64) (pv 7) pe_int (nomark _)) (pss_one (ps_setLc (i := 6) (own := [("_law_state", 9)]) (g := (gName 9)) (tt := tYes) rfl sc__law_tables.nd rfl rfl (sw_true rfl rfl rfl (by decide +kernel)) (pi_range1 (by rfl) B.b_range (pa_cons (pv 4) pa_nil)) (blkOk_by (by kernel_rfl)) (fun _ _ _ _ _ => (pg_name (i := 9) sc__law_tables.nd rfl (Or.inl rfl))) (fun _ _ _ _ _ => pts_nil) (fun _ _ _ _ _ => (pe_callB (cr_mx rfl) (by rfl) B.b_max (by decide +kernel) (pa_cons (pv 9) (pa_cons (pv 8) pa_nil)))))) pss_nil)
  (pss_one (ps_expr (pe_bm PySem.F.plainAttrs_list PySem.F.slot_list_append PySem.F.type_list_append mt_append (pv 5) (pa_cons (pe_callTy cr_tup (by rfl) B.b_tuple (by decide +kernel) (pa_cons (pv 6) pa_nil)) pa_nil)))))))))))
  (pss_one (ps_ret (pv 5)))))

/-! _law_run -/
abbrev s__law_run : Stmt := topS 32
abbrev n__law_run : List Str := ["_law_tables_here", "_law_start", "_law_log_here", "_law_found", "_law_deed"]
theorem sc__law_run : FnScope n__law_run ["_law_tables_here", "_law_start", "_law_log_here"] (defScope s__law_run) := ⟨rfl, rfl, rfl, by decide +kernel, rfl, by decide +kernel, by decide +kernel⟩
def R__law_run (N : Nv) : TS := (tSeq (tAsg (tLst (tCons (tVar 1) tNil)) (gName 3))
  (tSeq (tFor (iSeq N.K (tVar 2)) (gName 4) (tDrop (tBM N.K "list" rAppend (tVar 3) (tCons (tOp (rIx N.K) (tOp (rIx N.K) (tVar 0) (tVar 4)) (tOp (rIx N.K) (tVar 3) (tUn (rU fun i => .int (-i)) (tC (.int 1))))) tNil))))
  (tRet (tVar 3))))
set_option maxHeartbeats 4000000 in
theorem D__law_run {P : Program} {w : World} {K : PySem.W.Frag} {mg : Str → Option Value} {base : Heap} {f : Addr} {cdv : Value} {A : Around} {outer : List PySem.Env} {s : Shared} {H : Hp} {E : XK} (N : Nv) (eK : N.K = K) (eW : N.w = w) (B : Bis mg)
    (hr : Room 0 (A.deeper (envOfC "_law_run" (defScope s__law_run) s.heap.objs.size f cdv))) :
    PSs (cxOf CX0 P w K mg base n__law_run "_law_run" (defScope s__law_run) f cdv A outer s H E).nox (defBody s__law_run) (R__law_run N) := by
  subst eK eW
  have hu1 := hu_of hr
  have hu64 := hr.units
  have hu65 : (A.deeper (envOfC "_law_run" (defScope s__law_run) s.heap.objs.size f cdv)).units + 65 < cLine := by
    have := hr.un
    omega
  exact (pss_cons (ps_set (i := 3) sc__law_run.nd rfl (Or.inl rfl) (pe_lst (pa_cons (pv 1) pa_nil)))
  (pss_cons (ps_for PassesOwn.never rfl (pi_seq (pv 2)) (pg_name (i := 4) sc__law_run.nd rfl (Or.inl rfl)) (pss_one (ps_expr (pe_bm PySem.F.plainAttrs_list PySem.F.slot_list_append PySem.F.type_list_append mt_append (pv 3) (pa_cons (pe_ix ix_seq (pe_ix ix_seq (pv 0) (pv 4) (fun _ _ => rfl)) (pe_ix ix_seq (pv 3) (pe_un un_neg pe_int) (fun _ _ => rfl)) (fun _ _ => rfl)) pa_nil)))))
  (pss_one (ps_ret (pv 3)))))

/-! _law_log -/
abbrev s__law_log : Stmt := topS 33
abbrev n__law_log : List Str := ["_law_box_here", "_law_tables_here", "_law_most", "_law_deed"]
theorem sc__law_log : FnScope n__law_log ["_law_box_here", "_law_tables_here", "_law_most"] (defScope s__law_log) := ⟨rfl, rfl, rfl, by decide +kernel, rfl, by decide +kernel, by decide +kernel⟩
def R__law_log (N : Nv) (q__law_take : Sp) : TS := (tRet (tCB (rTup N.K) (tCons (tLc (iRng1 (tCons (tCall q__law_take [] E0 (tCons (tVar 0) (tCons (tOp (rI0 fun i j => .int (i + j)) (tVar 2) (tC (.int 1))) tNil))) tNil)) (gName 3) tYes (tCall q__law_take [] E0 (tCons (tVar 0) (tCons (tCB (rLen N.K N.w) (tCons (tVar 1) tNil)) tNil))) [3]) tNil)))
set_option maxHeartbeats 4000000 in
theorem D__law_log {P : Program} {w : World} {K : PySem.W.Frag} {mg : Str → Option Value} {base : Heap} {f : Addr} {cdv : Value} {A : Around} {outer : List PySem.Env} {s : Shared} {H : Hp} {E : XK} (N : Nv) (eK : N.K = K) (eW : N.w = w) {q__law_take : Sp} (B : Bis mg) (c__law_take : Cl P w K mg base 1 "_law_take" q__law_take)
    (hr : Room 1 (A.deeper (envOfC "_law_log" (defScope s__law_log) s.heap.objs.size f cdv))) :
    PSs (cxOf CX0 P w K mg base n__law_log "_law_log" (defScope s__law_log) f cdv A outer s H E).nox (defBody s__law_log) (R__law_log N q__law_take) := by
  subst eK eW
  have hu1 := hu_of hr
  have hu64 := hr.units
  have hu65 : (A.deeper (envOfC "_law_log" (defScope s__law_log) s.heap.objs.size f cdv)).units + 65 < cLine := by
    have := hr.un
    omega
  exact (pss_one (ps_ret (pe_callTy cr_tup (by rfl) B.b_tuple (by decide +kernel) (pa_cons (pe_lc (own := [("_law_deed", 3)]) (g := (gName 3)) (tt := tYes) rfl sc__law_log.nd  (pi_range1 (by rfl) B.b_range (pa_cons (pe_f c__law_take hr (by decide) (by rfl) (pa_cons (pv 0) (pa_cons (pe_op op_add (pv 2) pe_int) pa_nil))) pa_nil)) (blkOk_by (by kernel_rfl)) (fun _ _ _ _ _ => (pg_name (i := 3) sc__law_log.nd rfl (Or.inl rfl))) (fun _ _ _ _ _ => pts_nil) (fun _ _ _ _ _ => (pe_f c__law_take hr (by decide) (by rfl) (pa_cons (pv 0) (pa_cons (pe_callB cr_len (by rfl) B.b_len (by decide +kernel) (pa_cons (pv 1) pa_nil)) pa_nil))))) pa_nil))))

/-! _law_doings -/
abbrev s__law_doings : Stmt := topS 34
abbrev n__law_doings : List Str := ["_law_tables_here", "_law_idle", "_law_turn", "_law_known", "_law_logs", "_law_layer", "_law_later", "_law_doing", "_law_log_here", "_law_deed", "_law_after", "_law_state"]
theorem sc__law_doings : FnScope n__law_doings ["_law_tables_here"] (defScope s__law_doings) := ⟨rfl, rfl, rfl, by decide +kernel, rfl, by decide +kernel, by decide +kernel⟩
def R__law_doings (N : Nv) : TS := (tSeq (tAsg (tTupRg (tRg1 (tCB (rLen N.K N.w) (tCons (tOp (rIx N.K) (tVar 0) (tC (.int 0))) tNil)))) (gName 1))
  (tSeq (tPar3 3 4 5 (tCons (tDispT (tVar 1) (tC (.bl true))) (tCons (tLst (tCons (tTup (tCons (tVar 1) (tCons (tTup tNil) tNil))) tNil)) (tCons (tLst (tCons (tTup (tCons (tVar 1) (tCons (tTup tNil) tNil))) tNil)) tNil))))
  (tSeq (tFor (iRng1 (tCons (tC (.int 4000)) tNil)) (gName 2) (tSeq (tAsg (tLst tNil) (gName 6))
  (tSeq (tFor (iSeq N.K (tVar 5)) (gTup N.K 2 (gCons (gName 7) (gCons (gName 8) gNil))) (tFor (iRng1 (tCons (tCB (rLen N.K N.w) (tCons (tVar 0) tNil)) tNil)) (gName 9) (tSeq (tAsg (tCB (rTup N.K) (tCons (tLc (iSeq N.K (tVar 7)) (gName 11) tYes (tOp (rIx N.K) (tOp (rIx N.K) (tVar 0) (tVar 9)) (tVar 11)) [11]) tNil)) (gName 10))
  (tIfS (tB (tDNotIn (tVar 10) (tVar 3))) (tSeq (sDPut (tVar 3) (tVar 10) (tC (.bl true)))
  (tDrop (tBM N.K "list" rAppend (tVar 6) (tCons (tTup (tCons (tVar 10) (tCons (tOp (rCatA N.K) (tVar 8) (tTup (tCons (tVar 9) tNil))) tNil))) tNil)))) tNext))))
  (tSeq (tIfS (tTest (tOp (rEqD N.K) (tVar 6) (tLst tNil))) (tBreak) tNext)
  (tPar 5 4 (tCons (tVar 6) (tCons (tOp rCat (tVar 4) (tVar 6)) tNil)))))))
  (tRet (tVar 4)))))
set_option maxHeartbeats 4000000 in
theorem D__law_doings {P : Program} {w : World} {K : PySem.W.Frag} {mg : Str → Option Value} {base : Heap} {f : Addr} {cdv : Value} {A : Around} {outer : List PySem.Env} {s : Shared} {H : Hp} {E : XK} (N : Nv) (eK : N.K = K) (eW : N.w = w) (B : Bis mg)
    (hr : Room 0 (A.deeper (envOfC "_law_doings" (defScope s__law_doings) s.heap.objs.size f cdv))) :
    PSs (cxOf CX0 P w K mg base n__law_doings "_law_doings" (defScope s__law_doings) f cdv A outer s H E).nox (defBody s__law_doings) (R__law_doings N) := by
  subst eK eW
  have hu1 := hu_of hr
  have hu64 := hr.units
  have hu65 : (A.deeper (envOfC "_law_doings" (defScope s__law_doings) s.heap.objs.size f cdv)).units + 65 < cLine := by
    have := hr.un
    omega
  exact (pss_cons (ps_set (i := 1) sc__law_doings.nd rfl (Or.inl rfl) (pe_tupRg rfl (by rfl) B.b_tuple (prg_1 (by rfl) B.b_range (pe_callB cr_len (by rfl) B.b_len (by decide +kernel) (pa_cons (pe_ix ix_seq (pv 0) pe_int (fun _ _ => rfl)) pa_nil)))))
  (pss_cons (ps_par3 (i := 3) (j := 4) (l := 5) rfl sc__law_doings.nd rfl rfl rfl (by decide) (by decide) (by decide) rfl rfl rfl (pa_cons (pe_dispT hu1 (pv 1) pe_bl) (pa_cons (pe_lst (pa_cons (pe_tup (pa_cons (pv 1) (pa_cons (pe_tup pa_nil) pa_nil))) pa_nil)) (pa_cons (pe_lst (pa_cons (pe_tup (pa_cons (pv 1) (pa_cons (pe_tup pa_nil) pa_nil))) pa_nil)) pa_nil))) (by rfl))
  (pss_cons (ps_for PassesOwn.never rfl (pi_range1 (by rfl) B.b_range (pa_cons pe_int pa_nil)) (pg_name (i := 2) sc__law_doings.nd rfl (Or.inl rfl)) (pss_cons (ps_set (i := 6) sc__law_doings.nd rfl (Or.inl rfl) (pe_lst pa_nil))
  (pss_cons (ps_for PassesOwn.never rfl (pi_seq (pv 5)) (pg_tup rfl (pgs_cons (pg_name (i := 7) sc__law_doings.nd rfl (Or.inl rfl)) (pgs_cons (pg_name (i := 8) sc__law_doings.nd rfl (Or.inl rfl)) pgs_nil))) (pss_one (ps_for PassesOwn.never rfl (pi_range1 (by rfl) B.b_range (pa_cons (pe_callB cr_len (by rfl) B.b_len (by decide +kernel) (pa_cons (pv 0) pa_nil)) pa_nil)) (pg_name (i := 9) sc__law_doings.nd rfl (Or.inr rfl)) (pss_cons (ps_set (i := 10) sc__law_doings.nd rfl (Or.inl rfl) (pe_callTy cr_tup (by rfl) B.b_tuple (by decide +kernel) (pa_cons (pe_lc (own := [("_law_state", 11)]) (g := (gName 11)) (tt := tYes) rfl sc__law_doings.nd  (pi_seq (pv 7)) (blkOk_by (by kernel_rfl)) (fun _ _ _ _ _ => (pg_name (i := 11) sc__law_doings.nd rfl (Or.inl rfl))) (fun _ _ _ _ _ => pts_nil) (fun _ _ _ _ _ => (pe_ix ix_seq (pe_ix ix_seq (pv 0) (pv 9) (fun _ _ => rfl)) (pv 11) (fun _ _ => rfl)))) pa_nil)))
  (pss_one (ps_if (pt_cmp (pc_dnotin hu1 (pv 10) (pv 3))) (pss_cons (ps_dput hu1 (pv 3) (pv 10) pe_bl rfl)
  (pss_one (ps_expr (pe_bm PySem.F.plainAttrs_list PySem.F.slot_list_append PySem.F.type_list_append mt_append (pv 6) (pa_cons (pe_tup (pa_cons (pv 10) (pa_cons (pe_op op_catA (pv 8) (pe_tup (pa_cons (pv 9) pa_nil))) pa_nil))) pa_nil))))) pss_nil))))))
  (pss_cons (ps_if (pt_cmpR (op_eqD hu64) (pv 6) (pe_lst pa_nil) (nomark _)) (pss_one (ps_break)) pss_nil)
  (pss_one (ps_par (i := 5) (j := 4) rfl sc__law_doings.nd rfl rfl (by decide) rfl rfl (pa_cons (pv 6) (pa_cons (pe_op op_cat (pv 4) (pv 6)) pa_nil)) (by rfl)))))))
  (pss_one (ps_ret (pv 4))))))

/-! _law_parted -/
abbrev s__law_parted : Stmt := topS 35
abbrev n__law_parted : List Str := ["_law_tables_here", "_law_log_here", "_law_first", "_law_state", "_law_lots", "_law_age", "_law_lot", "_law_start", "_law_other", "_law_one"]
theorem sc__law_parted : FnScope n__law_parted ["_law_tables_here", "_law_log_here", "_law_first", "_law_state"] (defScope s__law_parted) := ⟨rfl, rfl, rfl, by decide +kernel, rfl, by decide +kernel, by decide +kernel⟩
def R__law_parted (N : Nv) (q__law_run : Sp) : TS := (tSeq (tAsg (tLst tNil) (gName 4))
  (tSeq (tFor (iRng2 (tCons (tVar 2) (tCons (tOp (rI0 fun i j => .int (i + j)) (tCB (rLen N.K N.w) (tCons (tVar 1) tNil)) (tC (.int 1))) tNil))) (gName 5) (tSeq (tAsg (tLc (iRng1 (tCons (tCB (rLen N.K N.w) (tCons (tOp (rIx N.K) (tVar 0) (tC (.int 0))) tNil)) tNil)) (gName 7) (tTest (tOp (rEqD N.K) (tOp (rIx N.K) (tCall q__law_run [] E0 (tCons (tVar 0) (tCons (tVar 7) (tCons (tSl (rSl N.K) (tVar 1) tNoPart (tPart (tVar 5))) tNil)))) (tUn (rU fun i => .int (-i)) (tC (.int 1)))) (tVar 3))) (tVar 7) [7]) (gName 6))
  (tIfS (tAnd (tTest (tOp (rNeD N.K) (tVar 6) (tLst tNil))) (tTest (tOp (rNotInD N.K) (tVar 6) (tVar 4)))) (tDrop (tBM N.K "list" rAppend (tVar 4) (tCons (tVar 6) tNil))) tNext)))
  (tRet (tCB (rLen N.K N.w) (tCons (tLc (iSeq N.K (tVar 4)) (gName 6) (tTest (tOp (rEqD N.K) (tLc (iSeq N.K (tVar 4)) (gName 8) (tAnd (tTest (tOp (rNeD N.K) (tVar 8) (tVar 6))) (tTest (tOp (rEqD N.K) (tLc (iSeq N.K (tVar 8)) (gName 9) (tTest (tOp (rNotInD N.K) (tVar 9) (tVar 6))) (tVar 9) [9]) (tLst tNil)))) (tVar 8) [8]) (tLst tNil))) (tVar 6) [6]) tNil)))))
set_option maxHeartbeats 4000000 in
theorem D__law_parted {P : Program} {w : World} {K : PySem.W.Frag} {mg : Str → Option Value} {base : Heap} {f : Addr} {cdv : Value} {A : Around} {outer : List PySem.Env} {s : Shared} {H : Hp} {E : XK} (N : Nv) (eK : N.K = K) (eW : N.w = w) {q__law_run : Sp} (B : Bis mg) (c__law_run : Cl P w K mg base 1 "_law_run" q__law_run)
    (hr : Room 1 (A.deeper (envOfC "_law_parted" (defScope s__law_parted) s.heap.objs.size f cdv))) :
    PSs (cxOf CX0 P w K mg base n__law_parted "_law_parted" (defScope s__law_parted) f cdv A outer s H E).nox (defBody s__law_parted) (R__law_parted N q__law_run) := by
  subst eK eW
  have hu1 := hu_of hr
  have hu64 := hr.units
  have hu65 : (A.deeper (envOfC "_law_parted" (defScope s__law_parted) s.heap.objs.size f cdv)).units + 65 < cLine := by
    have := hr.un
    omega
  exact (pss_cons (ps_set (i := 4) sc__law_parted.nd rfl (Or.inr rfl) (pe_lst pa_nil))
  (pss_cons (ps_for PassesOwn.never rfl (pi_range2 (by rfl) B.b_range (pa_cons (pv 2) (pa_cons (pe_op op_add (pe_callB cr_len (by rfl) B.b_len (by decide +kernel) (pa_cons (pv 1) pa_nil)) pe_int) pa_nil))) (pg_name (i := 5) sc__law_parted.nd rfl (Or.inr rfl)) (pss_cons (ps_setLc (i := 6) (own := [("_law_start", 7)]) (g := (gName 7)) (tt := (tTest (tOp (rEqD N.K) (tOp (rIx N.K) (tCall q__law_run [] E0 (tCons (tVar 0) (tCons (tVar 7) (tCons (tSl (rSl N.K) (tVar 1) tNoPart (tPart (tVar 5))) tNil)))) (tUn (rU fun i => .int (-i)) (tC (.int 1)))) (tVar 3)))) rfl sc__law_parted.nd rfl rfl (sw_true rfl rfl rfl (by decide +kernel)) (pi_range1 (by rfl) B.b_range (pa_cons (pe_callB cr_len (by rfl) B.b_len (by decide +kernel) (pa_cons (pe_ix ix_seq (pv 0) pe_int (fun _ _ => rfl)) pa_nil)) pa_nil)) (blkOk_by (by kernel_rfl)) (fun _ _ _ _ _ => (pg_name (i := 7) sc__law_parted.nd rfl (Or.inl rfl))) (fun _ _ _ _ _ => (pts_one (pt_cmpR (op_eqD hu64) (pe_ix ix_seq (pe_f c__law_run hr (by decide) (by rfl) (pa_cons (pv 0) (pa_cons (pv 7) (pa_cons (pe_slice sl_any (pv 1) po_none (po_some (pv 5))) pa_nil)))) (pe_un un_neg pe_int) (fun _ _ => rfl)) (pv 3) (nomark _)))) (fun _ _ _ _ _ => (pv 7)))
  (pss_one (ps_if (PW.pt (pw_and (pt_cmpR (op_neD hu64) (pv 6) (pe_lst pa_nil) (nomark _)) (pw_and1 (pt_cmpR (op_notInD hu65) (pv 6) (pv 4) rfl)))) (pss_one (ps_expr (pe_bm PySem.F.plainAttrs_list PySem.F.slot_list_append PySem.F.type_list_append mt_append (pv 4) (pa_cons (pv 6) pa_nil)))) pss_nil))))
  (pss_one (ps_ret (pe_callB cr_len (by rfl) B.b_len (by decide +kernel) (pa_cons (pe_lc (own := [("_law_lot", 6)]) (g := (gName 6)) (tt := (tTest (tOp (rEqD N.K) (tLc (iSeq N.K (tVar 4)) (gName 8) (tAnd (tTest (tOp (rNeD N.K) (tVar 8) (tVar 6))) (tTest (tOp (rEqD N.K) (tLc (iSeq N.K (tVar 8)) (gName 9) (tTest (tOp (rNotInD N.K) (tVar 9) (tVar 6))) (tVar 9) [9]) (tLst tNil)))) (tVar 8) [8]) (tLst tNil)))) rfl sc__law_parted.nd  (pi_seq (pv 4)) (blkOk_by (by kernel_rfl)) (fun _ _ _ _ _ => (pg_name (i := 6) sc__law_parted.nd rfl (Or.inr rfl))) (fun _ _ _ _ _ => (pts_one (pt_cmpR (op_eqD hu64) (pe_lc (own := [("_law_other", 8)]) (g := (gName 8)) (tt := (tAnd (tTest (tOp (rNeD N.K) (tVar 8) (tVar 6))) (tTest (tOp (rEqD N.K) (tLc (iSeq N.K (tVar 8)) (gName 9) (tTest (tOp (rNotInD N.K) (tVar 9) (tVar 6))) (tVar 9) [9]) (tLst tNil))))) rfl sc__law_parted.nd  (pi_seq (pv 4)) (blkOk_by (by kernel_rfl)) (fun _ _ _ _ _ => (pg_name (i := 8) sc__law_parted.nd rfl (Or.inl rfl))) (fun _ _ _ _ _ => (pts_one (PW.pt (pw_and (pt_cmpR (op_neD hu64) (pv 8) (pv 6) (nomark _)) (pw_and1 (pt_cmpR (op_eqD hu64) (pe_lc (own := [("_law_one", 9)]) (g := (gName 9)) (tt := (tTest (tOp (rNotInD N.K) (tVar 9) (tVar 6)))) rfl sc__law_parted.nd  (pi_seq (pv 8)) (blkOk_by (by kernel_rfl)) (fun _ _ _ _ _ => (pg_name (i := 9) sc__law_parted.nd rfl (Or.inl rfl))) (fun _ _ _ _ _ => (pts_one (pt_cmpR (op_notInD hu65) (pv 9) (pv 6) rfl))) (fun _ _ _ _ _ => (pv 9))) (pe_lst pa_nil) (nomark _))))))) (fun _ _ _ _ _ => (pv 8))) (pe_lst pa_nil) (nomark _)))) (fun _ _ _ _ _ => (pv 6))) pa_nil))))))

/-! _law_right -/
abbrev s__law_right : Stmt := topS 36
abbrev n__law_right : List Str := ["_law_box_here", "_law_tables_here", "_law_sizes", "_law_least", "_law_first", "_law_pairs", "_law_one", "_law_due", "_law_turn", "_law_odd", "_law_machine", "_law_many", "_law_logs", "_law_other", "_law_doing", "_law_log_here", "_law_value"]
theorem sc__law_right : FnScope n__law_right ["_law_box_here", "_law_tables_here"] (defScope s__law_right) := ⟨rfl, rfl, rfl, by decide +kernel, rfl, by decide +kernel, by decide +kernel⟩
def R__law_right (N : Nv) (q_Machine_init : Sp) (q__law_doings : Sp) (q_width : Sp) (q_width_log : Sp) (q_reset_paper : Sp) (q__law_pick : Sp) (q__law_take : Sp) (q_reset_holds : Sp) : TS := (tSeq (tAsg (tTup (tCons (tMake N.C q_Machine_init [] E0 (tCons (tVar 1) tNil)) (tCons (tCB (rLen N.K N.w) (tCons (tOp (rIx N.K) (tVar 1) (tC (.int 0))) tNil)) (tCons (tCall q__law_doings [] E0 (tCons (tVar 1) tNil)) tNil)))) (gTup N.K 3 (gCons (gName 10) (gCons (gName 11) (gCons (gName 12) gNil)))))
  (tSeq (tAsg (tLc (iSeq N.K (tVar 12)) (gTup N.K 2 (gCons (gName 14) (gCons (gName 15) gNil))) tYes (tCB (rLen N.K N.w) (tCons (tCB (rSetI N.K N.w) (tCons (tVar 14) tNil)) tNil)) [14, 15]) (gName 2))
  (tSeq (tAsg (tCB (rMn N.K) (tCons (tVar 2) tNil)) (gName 3))
  (tSeq (tAsg (tOp (rIx N.K) (tOp (rIx N.K) (tVar 12) (tBM N.K "list" (rIndex N.K) (tVar 2) (tCons (tVar 3) tNil))) (tC (.int 1))) (gName 4))
  (tSeq (tIfS (tTest (tOp rNe (tCB (rRepr N.K) (tCons (tLst (tCons (tCall q_width [] E0 (tCons (tVar 10) tNil)) (tCons (tKw 1 q_width (fun zs => zs) (tCons (tVar 10) tNil)) tNil))) tNil)) (tCB (rRepr N.K) (tCons (tOp rRep (tLst (tCons (tVar 3) tNil)) (tC (.int 2))) tNil)))) (tRet (tC (.bl false))) tNext)
  (tSeq (tIfS (tTest (tOp rNe (tCB (rRepr N.K) (tCons (tLst (tCons (tCall q_width_log [] E0 (tCons (tVar 10) tNil)) (tCons (tKw 1 q_width_log (fun zs => zs) (tCons (tVar 10) tNil)) tNil))) tNil)) (tCB (rRepr N.K) (tCons (tOp rRep (tLst (tCons (tVar 4) tNil)) (tC (.int 2))) tNil)))) (tRet (tC (.bl false))) tNext)
  (tSeq (tAsg (tLst tNil) (gName 5))
  (tSeq (tFor (iRng1 (tCons (tVar 11) tNil)) (gName 6) (tFor (iRng2 (tCons (tOp (rI0 fun i j => .int (i + j)) (tVar 6) (tC (.int 1))) (tCons (tVar 11) tNil))) (gName 13) (tIfS (tTest (tOp (rEqD N.K) (tLc (iSeq N.K (tVar 12)) (gTup N.K 2 (gCons (gName 14) (gCons (gName 15) gNil))) (tTest (tOp (rEqD N.K) (tOp (rIx N.K) (tVar 14) (tVar 6)) (tOp (rIx N.K) (tVar 14) (tVar 13)))) (tVar 14) [14, 15]) (tLst tNil))) (tDrop (tBM N.K "list" rAppend (tVar 5) (tCons (tTup (tCons (tVar 6) (tCons (tVar 13) tNil))) tNil))) tNext)))
  (tSeq (tAsg (tIf (tTest (tOp (rEqD N.K) (tVar 3) (tC (.int 1)))) (tTup (tCons (tC (.str "reset")) (tCons (tVar 4) tNil))) (tTup (tCons (tC (.str "pair")) (tCons (tOp (rIx N.K) (tVar 5) (tC (.int 0))) tNil)))) (gName 7))
  (tSeq (tIfS (tOr (tTest (tOp rNe (tCB (rRepr N.K) (tCons (tCall q_reset_paper [] E0 (tCons (tVar 10) tNil)) tNil)) (tCB (rRepr N.K) (tCons (tVar 7) tNil)))) (tOr (tTest (tOp (rNeD N.K) (tKw 1 q_reset_paper (fun zs => zs) (tCons (tVar 10) tNil)) (tVar 7))) (tTest (tOp (rNeD N.K) (tOp (rEqD N.K) (tVar 3) (tC (.int 1))) (tOp (rEqD N.K) (tVar 5) (tLst tNil)))))) (tRet (tC (.bl false))) tNext)
  (tSeq (tFor (iRng1 (tCons (tC (.int 4)) tNil)) (gName 8) (tSeq (tAsg (tCall q__law_pick [] E0 (tCons (tVar 0) (tCons (tVar 12) tNil))) (gTup N.K 2 (gCons (gName 14) (gCons (gName 15) gNil))))
  (tSeq (tAsg (tTup (tCons (tCall q__law_take [] E0 (tCons (tVar 0) (tCons (tVar 11) tNil))) (tCons (tCall q__law_take [] E0 (tCons (tVar 0) (tCons (tVar 11) tNil))) tNil))) (gTup N.K 2 (gCons (gName 6) (gCons (gName 13) gNil))))
  (tSeq (tIfS (tTest (tOp rNe (tCB (rRepr N.K) (tCons (tCall q_reset_holds [] E0 (tCons (tVar 10) (tCons (tTup (tCons (tC (.str "reset")) (tCons (tCB (rLst N.K) (tCons (tVar 15) tNil)) tNil))) tNil))) tNil)) (tCB (rRepr N.K) (tCons (tOp (rEqD N.K) (tCB (rLen N.K N.w) (tCons (tCB (rSetI N.K N.w) (tCons (tVar 14) tNil)) tNil)) (tC (.int 1))) tNil)))) (tRet (tC (.bl false))) tNext)
  (tIfS (tTest (tOp rNe (tCB (rRepr N.K) (tCons (tKw 2 q_reset_holds swp (tCons (tLst (tCons (tC (.str "pair")) (tCons (tLst (tCons (tVar 6) (tCons (tVar 13) tNil))) tNil))) (tCons (tVar 10) tNil))) tNil)) (tCB (rRepr N.K) (tCons (tOp (rInD N.K) (tTup (tCons (tVar 6) (tCons (tVar 13) tNil))) (tVar 5)) tNil)))) (tRet (tC (.bl false))) tNext)))))
  (tSeq (tAsg (tLst (tCons (tC .non) (tCons (tC (.int 5)) (tCons (tC (.str "reset")) (tCons (tTup (tCons (tC (.str "reset")) tNil)) (tCons (tTup (tCons (tC (.str "reset")) (tCons (tC .non) tNil))) (tCons (tTup (tCons (tC (.str "reset")) (tCons (tLst (tCons (tCB (rLen N.K N.w) (tCons (tVar 1) tNil)) tNil)) tNil))) (tCons (tTup (tCons (tC (.str "reset")) (tCons (tTup (tCons (tC (.bl true)) tNil)) tNil))) (tCons (tTup (tCons (tC (.str "reset")) (tCons (tVar 4) (tCons (tC (.int 0)) tNil)))) (tCons (tTup (tCons (tVar 4) (tCons (tC (.str "reset")) tNil))) tNil)))))))))) (gName 9))
  (tSeq (tAsg (tOp rCat (tVar 9) (tLst (tCons (tTup (tCons (tC (.str "pair")) (tCons (tTup (tCons (tC (.int 0)) tNil)) tNil))) (tCons (tTup (tCons (tC (.str "pair")) (tCons (tTup (tCons (tC (.int 0)) (tCons (tVar 11) tNil))) tNil))) (tCons (tTup (tCons (tC (.str "pair")) (tCons (tTup (tCons (tC (.int 0)) (tCons (tC (.int 0)) tNil))) tNil))) (tCons (tTup (tCons (tC (.str "pair")) (tCons (tC .non) tNil))) (tCons (tTup (tCons (tC (.str "pair")) (tCons (tTup (tCons (tC (.bl false)) (tCons (tC (.int 1)) tNil))) tNil))) (tCons (tTup (tCons (tC (.str "Pair")) (tCons (tTup (tCons (tC (.int 0)) (tCons (tC (.int 1)) tNil))) tNil))) tNil)))))))) (gName 9))
  (tRet (tAndV (tOp (rEqD N.K) (tLc (iSeq N.K (tVar 9)) (gName 16) (tTest (tOp rNotBl (tCall q_reset_holds [] E0 (tCons (tVar 10) (tCons (tVar 16) tNil))) (tC (.bl false)))) (tVar 16) [16]) (tLst tNil)) (tOp rIsBl (tCall q_reset_holds [] E0 (tCons (tVar 10) (tCons (tVar 7) tNil))) (tC (.bl true))))))))))))))))))
set_option maxHeartbeats 4000000 in
theorem D__law_right {P : Program} {w : World} {K : PySem.W.Frag} {mg : Str → Option Value} {base : Heap} {f : Addr} {cdv : Value} {A : Around} {outer : List PySem.Env} {s : Shared} {H : Hp} {E : XK} (N : Nv) (eK : N.K = K) (eW : N.w = w) {q_Machine_init : Sp} {q__law_doings : Sp} {q_width : Sp} {q_width_log : Sp} {q_reset_paper : Sp} {q__law_pick : Sp} {q__law_take : Sp} {q_reset_holds : Sp} (B : Bis mg) (c_Machine_init : ClM P w K mg base N.C 6 q_Machine_init) (c__law_doings : Cl P w K mg base 1 "_law_doings" q__law_doings) (c_width : Cl P w K mg base 3 "width" q_width) (k_width : ClK P w K mg base 3 "width" q_width ["machine"] (fun zs => zs)) (c_width_log : Cl P w K mg base 3 "width_log" q_width_log) (k_width_log : ClK P w K mg base 3 "width_log" q_width_log ["machine"] (fun zs => zs)) (c_reset_paper : Cl P w K mg base 4 "reset_paper" q_reset_paper) (k_reset_paper : ClK P w K mg base 4 "reset_paper" q_reset_paper ["machine"] (fun zs => zs)) (c__law_pick : Cl P w K mg base 2 "_law_pick" q__law_pick) (c__law_take : Cl P w K mg base 1 "_law_take" q__law_take) (c_reset_holds : Cl P w K mg base 5 "reset_holds" q_reset_holds) (k_reset_holds : ClK P w K mg base 5 "reset_holds" q_reset_holds ["value", "machine"] swp) (hG : A.guards = some [])
    (hr : Room 7 (A.deeper (envOfC "_law_right" (defScope s__law_right) s.heap.objs.size f cdv))) :
    PSs (cxOf CX0 P w K mg base n__law_right "_law_right" (defScope s__law_right) f cdv A outer s H E).nox (defBody s__law_right) (R__law_right N q_Machine_init q__law_doings q_width q_width_log q_reset_paper q__law_pick q__law_take q_reset_holds) := by
  subst eK eW
  have hu1 := hu_of hr
  have hu64 := hr.units
  have hu65 : (A.deeper (envOfC "_law_right" (defScope s__law_right) s.heap.objs.size f cdv)).units + 65 < cLine := by
    have := hr.un
    omega
  exact (pss_cons (ps_asg (pe_tup (pa_cons (pe_mach c_Machine_init hr (by decide) (by rfl) (pa_cons (pv 1) pa_nil)) (pa_cons (pe_callB cr_len (by rfl) B.b_len (by decide +kernel) (pa_cons (pe_ix ix_seq (pv 1) pe_int (fun _ _ => rfl)) pa_nil)) (pa_cons (pe_f c__law_doings hr (by decide) (by rfl) (pa_cons (pv 1) pa_nil)) pa_nil)))) (pg_tup rfl (pgs_cons (pg_name (i := 10) sc__law_right.nd rfl (Or.inr rfl)) (pgs_cons (pg_name (i := 11) sc__law_right.nd rfl (Or.inl rfl)) (pgs_cons (pg_name (i := 12) sc__law_right.nd rfl (Or.inl rfl)) pgs_nil)))))
  (pss_cons (ps_setLc (i := 2) (own := [("_law_doing", 14), ("_law_log_here", 15)]) (g := (gTup N.K 2 (gCons (gName 14) (gCons (gName 15) gNil)))) (tt := tYes) rfl sc__law_right.nd rfl rfl (sw_true rfl rfl rfl (by decide +kernel)) (pi_seq (pv 12)) (blkOk_by (by kernel_rfl)) (fun _ _ _ _ _ => (pg_tup rfl (pgs_cons (pg_name (i := 14) sc__law_right.nd rfl (Or.inl rfl)) (pgs_cons (pg_name (i := 15) sc__law_right.nd rfl (Or.inl rfl)) pgs_nil)))) (fun _ _ _ _ _ => pts_nil) (fun _ _ _ _ _ => (pe_callB cr_len (by rfl) B.b_len (by decide +kernel) (pa_cons (pe_callTy (cr_setI rfl) (by rfl) B.b_set (by decide +kernel) (pa_cons (pv 14) pa_nil)) pa_nil))))
  (pss_cons (ps_set (i := 3) sc__law_right.nd rfl (Or.inl rfl) (pe_callB (cr_mn rfl) (by rfl) B.b_min (by decide +kernel) (pa_cons (pv 2) pa_nil)))
  (pss_cons (ps_set (i := 4) sc__law_right.nd rfl (Or.inl rfl) (pe_ix ix_seq (pe_ix ix_seq (pv 12) (pe_bm PySem.F.plainAttrs_list PySem.F.slot_list_index PySem.F.type_list_index mt_index (pv 2) (pa_cons (pv 3) pa_nil)) (fun _ _ => rfl)) pe_int (fun _ _ => rfl)))
  (pss_cons (ps_if (pt_cmpR op_ne (pe_callB (call_repr hG hu64) (by rfl) B.b_repr (by decide +kernel) (pa_cons (pe_lst (pa_cons (pe_f c_width hr (by decide) (by rfl) (pa_cons (pv 10) pa_nil)) (pa_cons (pe_fK k_width hr (by decide) (by rfl) (pk_cons (pv 10) pk_nil)) pa_nil))) pa_nil)) (pe_callB (call_repr hG hu64) (by rfl) B.b_repr (by decide +kernel) (pa_cons (pe_op op_rep (pe_lst (pa_cons (pv 3) pa_nil)) pe_int) pa_nil)) (nomark _)) (pss_one (ps_ret pe_bl)) pss_nil)
  (pss_cons (ps_if (pt_cmpR op_ne (pe_callB (call_repr hG hu64) (by rfl) B.b_repr (by decide +kernel) (pa_cons (pe_lst (pa_cons (pe_f c_width_log hr (by decide) (by rfl) (pa_cons (pv 10) pa_nil)) (pa_cons (pe_fK k_width_log hr (by decide) (by rfl) (pk_cons (pv 10) pk_nil)) pa_nil))) pa_nil)) (pe_callB (call_repr hG hu64) (by rfl) B.b_repr (by decide +kernel) (pa_cons (pe_op op_rep (pe_lst (pa_cons (pv 4) pa_nil)) pe_int) pa_nil)) (nomark _)) (pss_one (ps_ret pe_bl)) pss_nil)
  (pss_cons (ps_set (i := 5) sc__law_right.nd rfl (Or.inl rfl) (pe_lst pa_nil))
  (pss_cons (ps_for PassesOwn.never rfl (pi_range1 (by rfl) B.b_range (pa_cons (pv 11) pa_nil)) (pg_name (i := 6) sc__law_right.nd rfl (Or.inr rfl)) (pss_one (ps_for PassesOwn.never rfl (pi_range2 (by rfl) B.b_range (pa_cons (pe_op op_add (pv 6) pe_int) (pa_cons (pv 11) pa_nil))) (pg_name (i := 13) sc__law_right.nd rfl (Or.inr rfl)) (pss_one (ps_if (pt_cmpR (op_eqD hu64) (pe_lc (own := [("_law_doing", 14), ("_law_log_here", 15)]) (g := (gTup N.K 2 (gCons (gName 14) (gCons (gName 15) gNil)))) (tt := (tTest (tOp (rEqD N.K) (tOp (rIx N.K) (tVar 14) (tVar 6)) (tOp (rIx N.K) (tVar 14) (tVar 13))))) rfl sc__law_right.nd  (pi_seq (pv 12)) (blkOk_by (by kernel_rfl)) (fun _ _ _ _ _ => (pg_tup rfl (pgs_cons (pg_name (i := 14) sc__law_right.nd rfl (Or.inl rfl)) (pgs_cons (pg_name (i := 15) sc__law_right.nd rfl (Or.inl rfl)) pgs_nil)))) (fun _ _ _ _ _ => (pts_one (pt_cmpR (op_eqD hu64) (pe_ix ix_seq (pv 14) (pv 6) (fun _ _ => rfl)) (pe_ix ix_seq (pv 14) (pv 13) (fun _ _ => rfl)) (nomark _)))) (fun _ _ _ _ _ => (pv 14))) (pe_lst pa_nil) (nomark _)) (pss_one (ps_expr (pe_bm PySem.F.plainAttrs_list PySem.F.slot_list_append PySem.F.type_list_append mt_append (pv 5) (pa_cons (pe_tup (pa_cons (pv 6) (pa_cons (pv 13) pa_nil))) pa_nil)))) pss_nil)))))
  (pss_cons (ps_set (i := 7) sc__law_right.nd rfl (Or.inl rfl) (pe_ifExp (pt_cmpR (op_eqD hu64) (pv 3) pe_int (nomark _)) (pe_tup (pa_cons pe_str (pa_cons (pv 4) pa_nil))) (pe_tup (pa_cons pe_str (pa_cons (pe_ix ix_seq (pv 5) pe_int (fun _ _ => rfl)) pa_nil)))))
  (pss_cons (ps_if (PW.pt (pw_or (pt_cmpR op_ne (pe_callB (call_repr hG hu64) (by rfl) B.b_repr (by decide +kernel) (pa_cons (pe_f c_reset_paper hr (by decide) (by rfl) (pa_cons (pv 10) pa_nil)) pa_nil)) (pe_callB (call_repr hG hu64) (by rfl) B.b_repr (by decide +kernel) (pa_cons (pv 7) pa_nil)) (nomark _)) (pw_or (pt_cmpR (op_neD hu64) (pe_fK k_reset_paper hr (by decide) (by rfl) (pk_cons (pv 10) pk_nil)) (pv 7) (nomark _)) (pw_or1 (pt_cmpR (op_neD hu64) (pe_cmpR (op_eqD hu64) (pv 3) pe_int (nomark _)) (pe_cmpR (op_eqD hu64) (pv 5) (pe_lst pa_nil) (nomark _)) (nomark _)))))) (pss_one (ps_ret pe_bl)) pss_nil)
  (pss_cons (ps_for PassesOwn.never rfl (pi_range1 (by rfl) B.b_range (pa_cons pe_int pa_nil)) (pg_name (i := 8) sc__law_right.nd rfl (Or.inl rfl)) (pss_cons (ps_asg (pe_f c__law_pick hr (by decide) (by rfl) (pa_cons (pv 0) (pa_cons (pv 12) pa_nil))) (pg_tup rfl (pgs_cons (pg_name (i := 14) sc__law_right.nd rfl (Or.inl rfl)) (pgs_cons (pg_name (i := 15) sc__law_right.nd rfl (Or.inl rfl)) pgs_nil))))
  (pss_cons (ps_asg (pe_tup (pa_cons (pe_f c__law_take hr (by decide) (by rfl) (pa_cons (pv 0) (pa_cons (pv 11) pa_nil))) (pa_cons (pe_f c__law_take hr (by decide) (by rfl) (pa_cons (pv 0) (pa_cons (pv 11) pa_nil))) pa_nil))) (pg_tup rfl (pgs_cons (pg_name (i := 6) sc__law_right.nd rfl (Or.inr rfl)) (pgs_cons (pg_name (i := 13) sc__law_right.nd rfl (Or.inr rfl)) pgs_nil))))
  (pss_cons (ps_if (pt_cmpR op_ne (pe_callB (call_repr hG hu64) (by rfl) B.b_repr (by decide +kernel) (pa_cons (pe_f c_reset_holds hr (by decide) (by rfl) (pa_cons (pv 10) (pa_cons (pe_tup (pa_cons pe_str (pa_cons (pe_callTy (cr_lst rfl) (by rfl) B.b_list (by decide +kernel) (pa_cons (pv 15) pa_nil)) pa_nil))) pa_nil))) pa_nil)) (pe_callB (call_repr hG hu64) (by rfl) B.b_repr (by decide +kernel) (pa_cons (pe_cmpR (op_eqD hu64) (pe_callB cr_len (by rfl) B.b_len (by decide +kernel) (pa_cons (pe_callTy (cr_setI rfl) (by rfl) B.b_set (by decide +kernel) (pa_cons (pv 14) pa_nil)) pa_nil)) pe_int (nomark _)) pa_nil)) (nomark _)) (pss_one (ps_ret pe_bl)) pss_nil)
  (pss_one (ps_if (pt_cmpR op_ne (pe_callB (call_repr hG hu64) (by rfl) B.b_repr (by decide +kernel) (pa_cons (pe_fK k_reset_holds hr (by decide) (by rfl) (pk_cons (pe_lst (pa_cons pe_str (pa_cons (pe_lst (pa_cons (pv 6) (pa_cons (pv 13) pa_nil))) pa_nil))) (pk_cons (pv 10) pk_nil))) pa_nil)) (pe_callB (call_repr hG hu64) (by rfl) B.b_repr (by decide +kernel) (pa_cons (pe_cmpR (op_inD hu65) (pe_tup (pa_cons (pv 6) (pa_cons (pv 13) pa_nil))) (pv 5) rfl) pa_nil)) (nomark _)) (pss_one (ps_ret pe_bl)) pss_nil))))))
  (pss_cons (ps_set (i := 9) sc__law_right.nd rfl (Or.inl rfl) (pe_lst (pa_cons pe_non (pa_cons pe_int (pa_cons pe_str (pa_cons (pe_tup (pa_cons pe_str pa_nil)) (pa_cons (pe_tup (pa_cons pe_str (pa_cons pe_non pa_nil))) (pa_cons (pe_tup (pa_cons pe_str (pa_cons (pe_lst (pa_cons (pe_callB cr_len (by rfl) B.b_len (by decide +kernel) (pa_cons (pv 1) pa_nil)) pa_nil)) pa_nil))) (pa_cons (pe_tup (pa_cons pe_str (pa_cons (pe_tup (pa_cons pe_bl pa_nil)) pa_nil))) (pa_cons (pe_tup (pa_cons pe_str (pa_cons (pv 4) (pa_cons pe_int pa_nil)))) (pa_cons (pe_tup (pa_cons (pv 4) (pa_cons pe_str pa_nil))) pa_nil)))))))))))
  (pss_cons (ps_set (i := 9) sc__law_right.nd rfl (Or.inl rfl) (pe_op op_cat (pv 9) (pe_lst (pa_cons (pe_tup (pa_cons pe_str (pa_cons (pe_tup (pa_cons pe_int pa_nil)) pa_nil))) (pa_cons (pe_tup (pa_cons pe_str (pa_cons (pe_tup (pa_cons pe_int (pa_cons (pv 11) pa_nil))) pa_nil))) (pa_cons (pe_tup (pa_cons pe_str (pa_cons (pe_tup (pa_cons pe_int (pa_cons pe_int pa_nil))) pa_nil))) (pa_cons (pe_tup (pa_cons pe_str (pa_cons pe_non pa_nil))) (pa_cons (pe_tup (pa_cons pe_str (pa_cons (pe_tup (pa_cons pe_bl (pa_cons pe_int pa_nil))) pa_nil))) (pa_cons (pe_tup (pa_cons pe_str (pa_cons (pe_tup (pa_cons pe_int (pa_cons pe_int pa_nil))) pa_nil))) pa_nil)))))))))
  (pss_one (ps_ret (pe_and (pe_cmpR (op_eqD hu64) (pe_lc (own := [("_law_value", 16)]) (g := (gName 16)) (tt := (tTest (tOp rNotBl (tCall q_reset_holds [] E0 (tCons (tVar 10) (tCons (tVar 16) tNil))) (tC (.bl false))))) rfl sc__law_right.nd  (pi_seq (pv 9)) (blkOk_by (by kernel_rfl)) (fun _ _ _ _ _ => (pg_name (i := 16) sc__law_right.nd rfl (Or.inl rfl))) (fun _ _ _ _ _ => (pts_one (pt_cmpR op_notB (pe_f c_reset_holds hr (by decide) (by rfl) (pa_cons (pv 10) (pa_cons (pv 16) pa_nil))) pe_bl (nomark _)))) (fun _ _ _ _ _ => (pv 16))) (pe_lst pa_nil) (nomark _)) (pe_one (pe_cmpR op_isB (pe_f c_reset_holds hr (by decide) (by rfl) (pa_cons (pv 10) (pa_cons (pv 7) pa_nil))) pe_bl (nomark _)))))))))))))))))))

/-! _law_wide_right -/
abbrev s__law_wide_right : Stmt := topS 37
abbrev n__law_wide_right : List Str := ["_law_box_here", "_law_deed", "_law_whole", "_law_turn", "_law_first", "_law_apart", "_law_one", "_law_due", "_law_many", "_law_found", "_law_way", "_law_turned", "_law_known", "_law_layer", "_law_firsts", "_law_later", "_law_least", "_law_machine", "_law_left", "_law_pair", "_law_lot", "_law_log_here", "_law_ends", "_law_state", "_law_after", "_law_size", "_law_other", "_law_table", "_law_end"]
theorem sc__law_wide_right : FnScope n__law_wide_right ["_law_box_here"] (defScope s__law_wide_right) := ⟨rfl, rfl, rfl, by decide +kernel, rfl, by decide +kernel, by decide +kernel⟩
def R__law_wide_right (N : Nv) (q__law_take : Sp) (q_Machine_init : Sp) (q_width : Sp) (q_width_log : Sp) (q_reset_paper : Sp) (q_reset_holds : Sp) : TS := (tSeq (tAsg (tTup (tCons (tOp (rI0 fun i j => .int (i + j)) (tC (.int 6)) (tCall q__law_take [] E0 (tCons (tVar 0) (tCons (tC (.int 3)) tNil)))) (tCons (tLst tNil) tNil))) (gTup N.K 2 (gCons (gName 8) (gCons (gName 9) gNil))))
  (tSeq (tFor (iRng1 (tCons (tC (.int 2)) tNil)) (gName 1) (tSeq (tAsg (tCall q__law_take [] E0 (tCons (tVar 0) (tCons (tC (.int 3)) tNil))) (gName 10))
  (tSeq (tAsg (tLc (iRng1 (tCons (tVar 8) tNil)) (gName 23) tYes (tOp (rI (fun _ j => 0 < j) fun i j => .int (i % j)) (tCB (rInt) (tCons (tOp (rI0 fun i j => .int (i + j)) (tOp (rI0 fun i j => .int (i + j)) (tVar 23) (tC (.int 1))) (tVar 1)) tNil)) (tVar 8)) [23]) (gName 11))
  (tDrop (tBM N.K "list" rAppend (tVar 9) (tCons (tCB (rTup N.K) (tCons (tLc (iSeq N.K (tVar 11)) (gName 23) tYes (tIf (tTest (tOp (rI0 fun i j => .bl (decide (i < j))) (tCall q__law_take [] E0 (tCons (tVar 0) (tCons (tC (.int 4)) tNil))) (tVar 10))) (tCall q__law_take [] E0 (tCons (tVar 0) (tCons (tVar 8) tNil))) (tVar 23)) [23]) tNil)) tNil))))))
  (tSeq (tAsg (tTupRg (tRg1 (tVar 8))) (gName 2))
  (tSeq (tPar3 12 13 14 (tCons (tDispT (tVar 2) (tC (.bl true))) (tCons (tLst (tCons (tTup (tCons (tVar 2) (tCons (tTup tNil) tNil))) tNil)) (tCons (tLst (tCons (tTup (tCons (tVar 8) (tCons (tTup tNil) tNil))) tNil)) tNil))))
  (tSeq (tFor (iRng1 (tCons (tC (.int 300)) tNil)) (gName 3) (tSeq (tAsg (tLst tNil) (gName 15))
  (tSeq (tFor (iSeq N.K (tVar 13)) (gTup N.K 2 (gCons (gName 20) (gCons (gName 21) gNil))) (tFor (iRng1 (tCons (tC (.int 2)) tNil)) (gName 1) (tSeq (tAsg (tCB (rTup N.K) (tCons (tCB (rSrt N.K N.w) (tCons (tCB (rSetI N.K N.w) (tCons (tLc (iSeq N.K (tVar 20)) (gName 23) tYes (tOp (rIx N.K) (tOp (rIx N.K) (tVar 9) (tVar 1)) (tVar 23)) [23]) tNil)) tNil)) tNil)) (gName 24))
  (tIfS (tB (tDNotIn (tVar 24) (tVar 12))) (tSeq (sDPut (tVar 12) (tVar 24) (tC (.bl true)))
  (tDrop (tBM N.K "list" rAppend (tVar 15) (tCons (tTup (tCons (tVar 24) (tCons (tOp (rCatA N.K) (tVar 21) (tTup (tCons (tVar 1) tNil))) tNil))) tNil)))) tNext))))
  (tSeq (tIfS (tTest (tOp (rEqD N.K) (tVar 15) (tLst tNil))) (tBreak) tNext)
  (tPar 13 14 (tCons (tVar 15) (tCons (tOp rCat (tVar 14) (tLc (iSeq N.K (tVar 15)) (gTup N.K 2 (gCons (gName 20) (gCons (gName 21) gNil))) tYes (tTup (tCons (tCB (rLen N.K N.w) (tCons (tVar 20) tNil)) (tCons (tVar 21) tNil))) [20, 21])) tNil)))))))
  (tSeq (tAsg (tTup (tCons (tCB (rMn N.K) (tCons (tLc (iSeq N.K (tVar 14)) (gTup N.K 2 (gCons (gName 25) (gCons (gName 21) gNil))) tYes (tVar 25) [25, 21]) tNil)) (tCons (tMake N.C q_Machine_init [] E0 (tCons (tVar 9) tNil)) tNil))) (gTup N.K 2 (gCons (gName 16) (gCons (gName 17) gNil))))
  (tSeq (tAsg (tOp (rIx N.K) (tLc (iSeq N.K (tVar 14)) (gTup N.K 2 (gCons (gName 25) (gCons (gName 21) gNil))) (tTest (tOp (rEqD N.K) (tVar 25) (tVar 16))) (tVar 21) [25, 21]) (tC (.int 0))) (gName 4))
  (tSeq (tIfS (tTest (tOp rNe (tCB (rRepr N.K) (tCons (tLst (tCons (tCall q_width [] E0 (tCons (tVar 17) tNil)) (tCons (tCall q_width_log [] E0 (tCons (tVar 17) tNil)) tNil))) tNil)) (tCB (rRepr N.K) (tCons (tLst (tCons (tVar 16) (tCons (tVar 4) tNil))) tNil)))) (tRet (tC (.bl false))) tNext)
  (tSeq (tAsg (tLst tNil) (gName 5))
  (tSeq (tFor (iRng1 (tCons (tVar 8) tNil)) (gName 6) (tAsg (tOp rCat (tVar 5) (tLc (iRng2 (tCons (tOp (rI0 fun i j => .int (i + j)) (tVar 6) (tC (.int 1))) (tCons (tVar 8) tNil))) (gName 26) tYes (tTup (tCons (tVar 6) (tCons (tVar 26) tNil))) [26])) (gName 5)))
  (tSeq (tFor (iRng1 (tCons (tOp (rI CMul fun i j => .int (i * j)) (tVar 8) (tVar 8)) tNil)) (gName 3) (tSeq (tAsg (tLst tNil) (gName 18))
  (tSeq (tFor (iSeq N.K (tVar 5)) (gName 19) (tSeq (tAsg (tLc (iSeq N.K (tVar 9)) (gName 27) tYes (tCB (rTup N.K) (tCons (tCB (rSrt N.K N.w) (tCons (tLst (tCons (tOp (rIx N.K) (tVar 27) (tOp (rIx N.K) (tVar 19) (tC (.int 0)))) (tCons (tOp (rIx N.K) (tVar 27) (tOp (rIx N.K) (tVar 19) (tC (.int 1)))) tNil))) tNil)) tNil)) [27]) (gName 22))
  (tAsg (tOp rCat (tVar 18) (tIf (tTest (tOp (rEqD N.K) (tLc (iSeq N.K (tVar 22)) (gName 28) (tTest (tOp (rNotInD N.K) (tVar 28) (tVar 5))) (tVar 28) [28]) (tLst tNil))) (tLst (tCons (tVar 19) tNil)) (tLst tNil))) (gName 18))))
  (tSeq (tIfS (tTest (tOp (rEqD N.K) (tVar 18) (tVar 5))) (tBreak) tNext)
  (tAsg (tVar 18) (gName 5))))))
  (tSeq (tAsg (tIf (tTest (tOp (rEqD N.K) (tVar 16) (tC (.int 1)))) (tTup (tCons (tC (.str "reset")) (tCons (tVar 4) tNil))) (tTup (tCons (tC (.str "pair")) (tCons (tOp (rIx N.K) (tVar 5) (tC (.int 0))) tNil)))) (gName 7))
  (tRet (tAndV (tOp rEq (tCB (rRepr N.K) (tCons (tCall q_reset_paper [] E0 (tCons (tVar 17) tNil)) tNil)) (tCB (rRepr N.K) (tCons (tVar 7) tNil))) (tAndV (tOp rIsBl (tCall q_reset_holds [] E0 (tCons (tVar 17) (tCons (tVar 7) tNil))) (tC (.bl true))) (tOp (rEqD N.K) (tOp (rEqD N.K) (tVar 16) (tC (.int 1))) (tOp (rEqD N.K) (tVar 5) (tLst tNil))))))))))))))))))
set_option maxHeartbeats 4000000 in
theorem D__law_wide_right {P : Program} {w : World} {K : PySem.W.Frag} {mg : Str → Option Value} {base : Heap} {f : Addr} {cdv : Value} {A : Around} {outer : List PySem.Env} {s : Shared} {H : Hp} {E : XK} (N : Nv) (eK : N.K = K) (eW : N.w = w) {q__law_take : Sp} {q_Machine_init : Sp} {q_width : Sp} {q_width_log : Sp} {q_reset_paper : Sp} {q_reset_holds : Sp} (B : Bis mg) (c__law_take : Cl P w K mg base 1 "_law_take" q__law_take) (c_Machine_init : ClM P w K mg base N.C 6 q_Machine_init) (c_width : Cl P w K mg base 3 "width" q_width) (c_width_log : Cl P w K mg base 3 "width_log" q_width_log) (c_reset_paper : Cl P w K mg base 4 "reset_paper" q_reset_paper) (c_reset_holds : Cl P w K mg base 5 "reset_holds" q_reset_holds) (hG : A.guards = some [])
    (hr : Room 7 (A.deeper (envOfC "_law_wide_right" (defScope s__law_wide_right) s.heap.objs.size f cdv))) :
    PSs (cxOf CX0 P w K mg base n__law_wide_right "_law_wide_right" (defScope s__law_wide_right) f cdv A outer s H E).nox (defBody s__law_wide_right) (R__law_wide_right N q__law_take q_Machine_init q_width q_width_log q_reset_paper q_reset_holds) := by
  subst eK eW
  have hu1 := hu_of hr
  have hu64 := hr.units
  have hu65 : (A.deeper (envOfC "_law_wide_right" (defScope s__law_wide_right) s.heap.objs.size f cdv)).units + 65 < cLine := by
    have := hr.un
    omega
  exact (pss_cons (ps_asg (pe_tup (pa_cons (pe_op op_add pe_int (pe_f c__law_take hr (by decide) (by rfl) (pa_cons (pv 0) (pa_cons pe_int pa_nil)))) (pa_cons (pe_lst pa_nil) pa_nil))) (pg_tup rfl (pgs_cons (pg_name (i := 8) sc__law_wide_right.nd rfl (Or.inr rfl)) (pgs_cons (pg_name (i := 9) sc__law_wide_right.nd rfl (Or.inr rfl)) pgs_nil))))
  (pss_cons (ps_for PassesOwn.never rfl (pi_range1 (by rfl) B.b_range (pa_cons pe_int pa_nil)) (pg_name (i := 1) sc__law_wide_right.nd rfl (Or.inr rfl)) (pss_cons (ps_set (i := 10) sc__law_wide_right.nd rfl (Or.inr rfl) (pe_f c__law_take hr (by decide) (by rfl) (pa_cons (pv 0) (pa_cons pe_int pa_nil))))
  (pss_cons (ps_setLc (i := 11) (own := [("_law_state", 23)]) (g := (gName 23)) (tt := tYes) rfl sc__law_wide_right.nd rfl rfl (sw_true rfl rfl rfl (by decide +kernel)) (pi_range1 (by rfl) B.b_range (pa_cons (pv 8) pa_nil)) (blkOk_by (by kernel_rfl)) (fun _ _ _ _ _ => (pg_name (i := 23) sc__law_wide_right.nd rfl (Or.inl rfl))) (fun _ _ _ _ _ => pts_nil) (fun _ _ _ _ _ => (pe_op op_mod (pe_callTy cr_int (by rfl) B.b_int (by decide +kernel) (pa_cons (pe_op op_add (pe_op op_add (pv 23) pe_int) (pv 1)) pa_nil)) (pv 8))))
  (pss_one (ps_expr (pe_bm PySem.F.plainAttrs_list PySem.F.slot_list_append PySem.F.type_list_append mt_append (pv 9) (pa_cons (pe_callTy cr_tup (by rfl) B.b_tuple (by decide +kernel) (pa_cons (pe_lc (own := [("_law_state", 23)]) (g := (gName 23)) (tt := tYes) rfl sc__law_wide_right.nd  (pi_seq (pv 11)) (blkOk_by (by kernel_rfl)) (fun _ _ _ _ _ => (pg_name (i := 23) sc__law_wide_right.nd rfl (Or.inl rfl))) (fun _ _ _ _ _ => pts_nil) (fun _ _ _ _ _ => (pe_ifExp (pt_cmpR op_lt (pe_f c__law_take hr (by decide) (by rfl) (pa_cons (pv 0) (pa_cons pe_int pa_nil))) (pv 10) (nomark _)) (pe_f c__law_take hr (by decide) (by rfl) (pa_cons (pv 0) (pa_cons (pv 8) pa_nil))) (pv 23)))) pa_nil)) pa_nil)))))))
  (pss_cons (ps_set (i := 2) sc__law_wide_right.nd rfl (Or.inl rfl) (pe_tupRg rfl (by rfl) B.b_tuple (prg_1 (by rfl) B.b_range (pv 8))))
  (pss_cons (ps_par3 (i := 12) (j := 13) (l := 14) rfl sc__law_wide_right.nd rfl rfl rfl (by decide) (by decide) (by decide) rfl rfl rfl (pa_cons (pe_dispT hu1 (pv 2) pe_bl) (pa_cons (pe_lst (pa_cons (pe_tup (pa_cons (pv 2) (pa_cons (pe_tup pa_nil) pa_nil))) pa_nil)) (pa_cons (pe_lst (pa_cons (pe_tup (pa_cons (pv 8) (pa_cons (pe_tup pa_nil) pa_nil))) pa_nil)) pa_nil))) (by rfl))
  (pss_cons (ps_for PassesOwn.never rfl (pi_range1 (by rfl) B.b_range (pa_cons pe_int pa_nil)) (pg_name (i := 3) sc__law_wide_right.nd rfl (Or.inl rfl)) (pss_cons (ps_set (i := 15) sc__law_wide_right.nd rfl (Or.inl rfl) (pe_lst pa_nil))
  (pss_cons (ps_for PassesOwn.never rfl (pi_seq (pv 13)) (pg_tup rfl (pgs_cons (pg_name (i := 20) sc__law_wide_right.nd rfl (Or.inl rfl)) (pgs_cons (pg_name (i := 21) sc__law_wide_right.nd rfl (Or.inl rfl)) pgs_nil))) (pss_one (ps_for PassesOwn.never rfl (pi_range1 (by rfl) B.b_range (pa_cons pe_int pa_nil)) (pg_name (i := 1) sc__law_wide_right.nd rfl (Or.inr rfl)) (pss_cons (ps_set (i := 24) sc__law_wide_right.nd rfl (Or.inl rfl) (pe_callTy cr_tup (by rfl) B.b_tuple (by decide +kernel) (pa_cons (pe_callB (cr_srt rfl) (by rfl) B.b_sorted (by decide +kernel) (pa_cons (pe_callTy (cr_setI rfl) (by rfl) B.b_set (by decide +kernel) (pa_cons (pe_lc (own := [("_law_state", 23)]) (g := (gName 23)) (tt := tYes) rfl sc__law_wide_right.nd  (pi_seq (pv 20)) (blkOk_by (by kernel_rfl)) (fun _ _ _ _ _ => (pg_name (i := 23) sc__law_wide_right.nd rfl (Or.inl rfl))) (fun _ _ _ _ _ => pts_nil) (fun _ _ _ _ _ => (pe_ix ix_seq (pe_ix ix_seq (pv 9) (pv 1) (fun _ _ => rfl)) (pv 23) (fun _ _ => rfl)))) pa_nil)) pa_nil)) pa_nil)))
  (pss_one (ps_if (pt_cmp (pc_dnotin hu1 (pv 24) (pv 12))) (pss_cons (ps_dput hu1 (pv 12) (pv 24) pe_bl rfl)
  (pss_one (ps_expr (pe_bm PySem.F.plainAttrs_list PySem.F.slot_list_append PySem.F.type_list_append mt_append (pv 15) (pa_cons (pe_tup (pa_cons (pv 24) (pa_cons (pe_op op_catA (pv 21) (pe_tup (pa_cons (pv 1) pa_nil))) pa_nil))) pa_nil))))) pss_nil))))))
  (pss_cons (ps_if (pt_cmpR (op_eqD hu64) (pv 15) (pe_lst pa_nil) (nomark _)) (pss_one (ps_break)) pss_nil)
  (pss_one (ps_par (i := 13) (j := 14) rfl sc__law_wide_right.nd rfl rfl (by decide) rfl rfl (pa_cons (pv 15) (pa_cons (pe_op op_cat (pv 14) (pe_lc (own := [("_law_lot", 20), ("_law_log_here", 21)]) (g := (gTup N.K 2 (gCons (gName 20) (gCons (gName 21) gNil)))) (tt := tYes) rfl sc__law_wide_right.nd  (pi_seq (pv 15)) (blkOk_by (by kernel_rfl)) (fun _ _ _ _ _ => (pg_tup rfl (pgs_cons (pg_name (i := 20) sc__law_wide_right.nd rfl (Or.inl rfl)) (pgs_cons (pg_name (i := 21) sc__law_wide_right.nd rfl (Or.inl rfl)) pgs_nil)))) (fun _ _ _ _ _ => pts_nil) (fun _ _ _ _ _ => (pe_tup (pa_cons (pe_callB cr_len (by rfl) B.b_len (by decide +kernel) (pa_cons (pv 20) pa_nil)) (pa_cons (pv 21) pa_nil)))))) pa_nil)) (by rfl)))))))
  (pss_cons (ps_asg (pe_tup (pa_cons (pe_callB (cr_mn rfl) (by rfl) B.b_min (by decide +kernel) (pa_cons (pe_lc (own := [("_law_size", 25), ("_law_log_here", 21)]) (g := (gTup N.K 2 (gCons (gName 25) (gCons (gName 21) gNil)))) (tt := tYes) rfl sc__law_wide_right.nd  (pi_seq (pv 14)) (blkOk_by (by kernel_rfl)) (fun _ _ _ _ _ => (pg_tup rfl (pgs_cons (pg_name (i := 25) sc__law_wide_right.nd rfl (Or.inl rfl)) (pgs_cons (pg_name (i := 21) sc__law_wide_right.nd rfl (Or.inl rfl)) pgs_nil)))) (fun _ _ _ _ _ => pts_nil) (fun _ _ _ _ _ => (pv 25))) pa_nil)) (pa_cons (pe_mach c_Machine_init hr (by decide) (by rfl) (pa_cons (pv 9) pa_nil)) pa_nil))) (pg_tup rfl (pgs_cons (pg_name (i := 16) sc__law_wide_right.nd rfl (Or.inr rfl)) (pgs_cons (pg_name (i := 17) sc__law_wide_right.nd rfl (Or.inl rfl)) pgs_nil))))
  (pss_cons (ps_set (i := 4) sc__law_wide_right.nd rfl (Or.inl rfl) (pe_ix ix_seq (pe_lc (own := [("_law_size", 25), ("_law_log_here", 21)]) (g := (gTup N.K 2 (gCons (gName 25) (gCons (gName 21) gNil)))) (tt := (tTest (tOp (rEqD N.K) (tVar 25) (tVar 16)))) rfl sc__law_wide_right.nd  (pi_seq (pv 14)) (blkOk_by (by kernel_rfl)) (fun _ _ _ _ _ => (pg_tup rfl (pgs_cons (pg_name (i := 25) sc__law_wide_right.nd rfl (Or.inl rfl)) (pgs_cons (pg_name (i := 21) sc__law_wide_right.nd rfl (Or.inl rfl)) pgs_nil)))) (fun _ _ _ _ _ => (pts_one (pt_cmpR (op_eqD hu64) (pv 25) (pv 16) (nomark _)))) (fun _ _ _ _ _ => (pv 21))) pe_int (fun _ _ => rfl)))
  (pss_cons (ps_if (pt_cmpR op_ne (pe_callB (call_repr hG hu64) (by rfl) B.b_repr (by decide +kernel) (pa_cons (pe_lst (pa_cons (pe_f c_width hr (by decide) (by rfl) (pa_cons (pv 17) pa_nil)) (pa_cons (pe_f c_width_log hr (by decide) (by rfl) (pa_cons (pv 17) pa_nil)) pa_nil))) pa_nil)) (pe_callB (call_repr hG hu64) (by rfl) B.b_repr (by decide +kernel) (pa_cons (pe_lst (pa_cons (pv 16) (pa_cons (pv 4) pa_nil))) pa_nil)) (nomark _)) (pss_one (ps_ret pe_bl)) pss_nil)
  (pss_cons (ps_set (i := 5) sc__law_wide_right.nd rfl (Or.inr rfl) (pe_lst pa_nil))
  (pss_cons (ps_for PassesOwn.never rfl (pi_range1 (by rfl) B.b_range (pa_cons (pv 8) pa_nil)) (pg_name (i := 6) sc__law_wide_right.nd rfl (Or.inr rfl)) (pss_one (ps_set (i := 5) sc__law_wide_right.nd rfl (Or.inr rfl) (pe_op op_cat (pv 5) (pe_lc (own := [("_law_other", 26)]) (g := (gName 26)) (tt := tYes) rfl sc__law_wide_right.nd  (pi_range2 (by rfl) B.b_range (pa_cons (pe_op op_add (pv 6) pe_int) (pa_cons (pv 8) pa_nil))) (blkOk_by (by kernel_rfl)) (fun _ _ _ _ _ => (pg_name (i := 26) sc__law_wide_right.nd rfl (Or.inl rfl))) (fun _ _ _ _ _ => pts_nil) (fun _ _ _ _ _ => (pe_tup (pa_cons (pv 6) (pa_cons (pv 26) pa_nil)))))))))
  (pss_cons (ps_for PassesOwn.never rfl (pi_range1 (by rfl) B.b_range (pa_cons (pe_op op_mul (pv 8) (pv 8)) pa_nil)) (pg_name (i := 3) sc__law_wide_right.nd rfl (Or.inl rfl)) (pss_cons (ps_set (i := 18) sc__law_wide_right.nd rfl (Or.inl rfl) (pe_lst pa_nil))
  (pss_cons (ps_for PassesOwn.never rfl (pi_seq (pv 5)) (pg_name (i := 19) sc__law_wide_right.nd rfl (Or.inr rfl)) (pss_cons (ps_setLc (i := 22) (own := [("_law_table", 27)]) (g := (gName 27)) (tt := tYes) rfl sc__law_wide_right.nd rfl rfl (sw_true rfl rfl rfl (by decide +kernel)) (pi_seq (pv 9)) (blkOk_by (by kernel_rfl)) (fun _ _ _ _ _ => (pg_name (i := 27) sc__law_wide_right.nd rfl (Or.inl rfl))) (fun _ _ _ _ _ => pts_nil) (fun _ _ _ _ _ => (pe_callTy cr_tup (by rfl) B.b_tuple (by decide +kernel) (pa_cons (pe_callB (cr_srt rfl) (by rfl) B.b_sorted (by decide +kernel) (pa_cons (pe_lst (pa_cons (pe_ix ix_seq (pv 27) (pe_ix ix_seq (pv 19) pe_int (fun _ _ => rfl)) (fun _ _ => rfl)) (pa_cons (pe_ix ix_seq (pv 27) (pe_ix ix_seq (pv 19) pe_int (fun _ _ => rfl)) (fun _ _ => rfl)) pa_nil))) pa_nil)) pa_nil))))
  (pss_one (ps_set (i := 18) sc__law_wide_right.nd rfl (Or.inl rfl) (pe_op op_cat (pv 18) (pe_ifExp (pt_cmpR (op_eqD hu64) (pe_lc (own := [("_law_end", 28)]) (g := (gName 28)) (tt := (tTest (tOp (rNotInD N.K) (tVar 28) (tVar 5)))) rfl sc__law_wide_right.nd  (pi_seq (pv 22)) (blkOk_by (by kernel_rfl)) (fun _ _ _ _ _ => (pg_name (i := 28) sc__law_wide_right.nd rfl (Or.inl rfl))) (fun _ _ _ _ _ => (pts_one (pt_cmpR (op_notInD hu65) (pv 28) (pv 5) rfl))) (fun _ _ _ _ _ => (pv 28))) (pe_lst pa_nil) (nomark _)) (pe_lst (pa_cons (pv 19) pa_nil)) (pe_lst pa_nil)))))))
  (pss_cons (ps_if (pt_cmpR (op_eqD hu64) (pv 18) (pv 5) (nomark _)) (pss_one (ps_break)) pss_nil)
  (pss_one (ps_set (i := 5) sc__law_wide_right.nd rfl (Or.inr rfl) (pv 18)))))))
  (pss_cons (ps_set (i := 7) sc__law_wide_right.nd rfl (Or.inl rfl) (pe_ifExp (pt_cmpR (op_eqD hu64) (pv 16) pe_int (nomark _)) (pe_tup (pa_cons pe_str (pa_cons (pv 4) pa_nil))) (pe_tup (pa_cons pe_str (pa_cons (pe_ix ix_seq (pv 5) pe_int (fun _ _ => rfl)) pa_nil)))))
  (pss_one (ps_ret (pe_and (pe_cmpR op_eq (pe_callB (call_repr hG hu64) (by rfl) B.b_repr (by decide +kernel) (pa_cons (pe_f c_reset_paper hr (by decide) (by rfl) (pa_cons (pv 17) pa_nil)) pa_nil)) (pe_callB (call_repr hG hu64) (by rfl) B.b_repr (by decide +kernel) (pa_cons (pv 7) pa_nil)) (nomark _)) (pe_and (pe_cmpR op_isB (pe_f c_reset_holds hr (by decide) (by rfl) (pa_cons (pv 17) (pa_cons (pv 7) pa_nil))) pe_bl (nomark _)) (pe_one (pe_cmpR (op_eqD hu64) (pe_cmpR (op_eqD hu64) (pv 16) pe_int (nomark _)) (pe_cmpR (op_eqD hu64) (pv 5) (pe_lst pa_nil) (nomark _)) (nomark _)))))))))))))))))))

/-! law -/
abbrev s_law : Stmt := topS 38
abbrev n_law : List Str := ["_law_script", "_law_k", "_law_box_here", "_law_tables_here", "_law_log_here", "_law_cut", "_law_left", "_law_end", "_law_start", "_law_state"]
theorem sc_law : FnScope n_law ["_law_script"] (defScope s_law) := ⟨rfl, rfl, rfl, by decide +kernel, rfl, by decide +kernel, by decide +kernel⟩
def R_law (N : Nv) (q__law_take : Sp) (q__law_box : Sp) (q__law_wide_right : Sp) (q__law_tables : Sp) (q__law_right : Sp) (q__law_log : Sp) (q__law_run : Sp) (q_width : Sp) (q_Machine_init : Sp) (q__law_parted : Sp) : TS := (tSeq (tIfS (tAnd (tTest (tOp (rEqD N.K) (tCall q__law_take [] E0 (tCons (tCall q__law_box [] E0 (tCons (tVar 0) (tCons (tC (.int 9)) tNil))) (tCons (tC (.int 3)) tNil))) (tC (.int 0)))) (tNot (tB (tCall q__law_wide_right [] E0 (tCons (tCall q__law_box [] E0 (tCons (tVar 0) (tCons (tC (.int 10)) tNil))) tNil))))) (tRet (tC (.bl false))) tNext)
  (tSeq (tFor (iRng1 (tCons (tC (.int 2)) tNil)) (gName 1) (tSeq (tAsg (tCall q__law_box [] E0 (tCons (tVar 0) (tCons (tVar 1) tNil))) (gName 2))
  (tSeq (tAsg (tCall q__law_tables [] E0 (tCons (tVar 2) (tCons (tIf (tTest (tOp (rI0 fun i j => .bl (decide (j < i))) (tCall q__law_take [] E0 (tCons (tVar 2) (tCons (tC (.int 12)) tNil))) (tC (.int 0)))) (tLst (tCons (tC (.int 3)) (tCons (tC (.int 4)) (tCons (tC (.int 2)) (tCons (tC (.int 3)) (tCons (tC (.int 4)) (tCons (tC (.int 1)) tNil))))))) (tLst (tCons (tC (.int 5)) tNil))) (tCons (tLst (tCons (tC (.int 1)) (tCons (tC (.int 2)) (tCons (tC (.int 2)) (tCons (tC (.int 3)) tNil))))) tNil)))) (gName 3))
  (tSeq (tIfS (tAnd (tTest (tOp (rI0 fun i j => .bl (decide (i < j))) (tCB (rLen N.K N.w) (tCons (tOp (rIx N.K) (tVar 3) (tC (.int 0))) tNil)) (tC (.int 5)))) (tNot (tB (tCall q__law_right [] E0 (tCons (tVar 2) (tCons (tVar 3) tNil)))))) (tRet (tC (.bl false))) tNext)
  (tSeq (tAsg (tCall q__law_log [] E0 (tCons (tVar 2) (tCons (tVar 3) (tCons (tC (.int 12)) tNil)))) (gName 4))
  (tSeq (tAsg (tCall q__law_take [] E0 (tCons (tVar 2) (tCons (tOp (rI0 fun i j => .int (i + j)) (tCB (rLen N.K N.w) (tCons (tVar 4) tNil)) (tC (.int 1))) tNil))) (gName 5))
  (tSeq (tAsg (tCB (rLen N.K N.w) (tCons (tCB (rSetI N.K N.w) (tCons (tLc (iRng1 (tCons (tCB (rLen N.K N.w) (tCons (tOp (rIx N.K) (tVar 3) (tC (.int 0))) tNil)) tNil)) (gName 8) tYes (tOp (rIx N.K) (tCall q__law_run [] E0 (tCons (tVar 3) (tCons (tVar 8) (tCons (tSl (rSl N.K) (tVar 4) tNoPart (tPart (tVar 5))) tNil)))) (tUn (rU fun i => .int (-i)) (tC (.int 1)))) [8]) tNil)) tNil)) (gName 6))
  (tSeq (tIfS (tTest (tOp (rI0 fun i j => .bl (decide (j < i))) (tCall q_width [] E0 (tCons (tMake N.C q_Machine_init [] E0 (tCons (tVar 3) tNil)) tNil)) (tVar 6))) (tRet (tC (.bl false))) tNext)
  (tFor (iRng2 (tCons (tVar 5) (tCons (tOp (rI0 fun i j => .int (i + j)) (tCB (rLen N.K N.w) (tCons (tVar 4) tNil)) (tC (.int 1))) tNil))) (gName 7) (tIfS (tTest (tOp (rNeD N.K) (tLc (iRng1 (tCons (tCB (rLen N.K N.w) (tCons (tOp (rIx N.K) (tVar 3) (tC (.int 0))) tNil)) tNil)) (gName 9) (tTest (tOp (rI0 fun i j => .bl (decide (j < i))) (tCall q__law_parted [] E0 (tCons (tVar 3) (tCons (tSl (rSl N.K) (tVar 4) tNoPart (tPart (tVar 7))) (tCons (tVar 5) (tCons (tVar 9) tNil))))) (tVar 6))) (tVar 9) [9]) (tLst tNil))) (tRet (tC (.bl false))) tNext))))))))))
  (tRet (tC (.bl true)))))
set_option maxHeartbeats 4000000 in
theorem D_law {P : Program} {w : World} {K : PySem.W.Frag} {mg : Str → Option Value} {base : Heap} {f : Addr} {cdv : Value} {A : Around} {outer : List PySem.Env} {s : Shared} {H : Hp} {E : XK} (N : Nv) (eK : N.K = K) (eW : N.w = w) {q__law_take : Sp} {q__law_box : Sp} {q__law_wide_right : Sp} {q__law_tables : Sp} {q__law_right : Sp} {q__law_log : Sp} {q__law_run : Sp} {q_width : Sp} {q_Machine_init : Sp} {q__law_parted : Sp} (B : Bis mg) (c__law_take : Cl P w K mg base 1 "_law_take" q__law_take) (c__law_box : Cl P w K mg base 1 "_law_box" q__law_box) (c__law_wide_right : ClG P w K mg base 8 "_law_wide_right" q__law_wide_right) (c__law_tables : Cl P w K mg base 3 "_law_tables" q__law_tables) (c__law_right : ClG P w K mg base 8 "_law_right" q__law_right) (c__law_log : Cl P w K mg base 2 "_law_log" q__law_log) (c__law_run : Cl P w K mg base 1 "_law_run" q__law_run) (c_width : Cl P w K mg base 3 "width" q_width) (c_Machine_init : ClM P w K mg base N.C 6 q_Machine_init) (c__law_parted : Cl P w K mg base 2 "_law_parted" q__law_parted) (hG : A.guards = some [])
    (hr : Room 8 (A.deeper (envOfC "law" (defScope s_law) s.heap.objs.size f cdv))) :
    PSs (cxOf CX0 P w K mg base n_law "law" (defScope s_law) f cdv A outer s H E).nox (defBody s_law) (R_law N q__law_take q__law_box q__law_wide_right q__law_tables q__law_right q__law_log q__law_run q_width q_Machine_init q__law_parted) := by
  subst eK eW
  have hu1 := hu_of hr
  have hu64 := hr.units
  have hu65 : (A.deeper (envOfC "law" (defScope s_law) s.heap.objs.size f cdv)).units + 65 < cLine := by
    have := hr.un
    omega
  exact (pss_cons (ps_if (PW.pt (pw_and (pt_cmpR (op_eqD hu64) (pe_f c__law_take hr (by decide) (by rfl) (pa_cons (pe_f c__law_box hr (by decide) (by rfl) (pa_cons (pv 0) (pa_cons pe_int pa_nil))) (pa_cons pe_int pa_nil))) pe_int (nomark _)) (pw_and1 (pt_not (pt_val (pe_g c__law_wide_right hr (by decide) hG (by rfl) (pa_cons (pe_f c__law_box hr (by decide) (by rfl) (pa_cons (pv 0) (pa_cons pe_int pa_nil))) pa_nil))))))) (pss_one (ps_ret pe_bl)) pss_nil)
  (pss_cons (ps_for PassesOwn.never rfl (pi_range1 (by rfl) B.b_range (pa_cons pe_int pa_nil)) (pg_name (i := 1) sc_law.nd rfl (Or.inl rfl)) (pss_cons (ps_set (i := 2) sc_law.nd rfl (Or.inl rfl) (pe_f c__law_box hr (by decide) (by rfl) (pa_cons (pv 0) (pa_cons (pv 1) pa_nil))))
  (pss_cons (ps_set (i := 3) sc_law.nd rfl (Or.inr rfl) (pe_f c__law_tables hr (by decide) (by rfl) (pa_cons (pv 2) (pa_cons (pe_ifExp (pt_cmpR op_gt (pe_f c__law_take hr (by decide) (by rfl) (pa_cons (pv 2) (pa_cons pe_int pa_nil))) pe_int (nomark _)) (pe_lst (pa_cons pe_int (pa_cons pe_int (pa_cons pe_int (pa_cons pe_int (pa_cons pe_int (pa_cons pe_int pa_nil))))))) (pe_lst (pa_cons pe_int pa_nil))) (pa_cons (pe_lst (pa_cons pe_int (pa_cons pe_int (pa_cons pe_int (pa_cons pe_int pa_nil))))) pa_nil)))))
  (pss_cons (ps_if (PW.pt (pw_and (pt_cmpR op_lt (pe_callB cr_len (by rfl) B.b_len (by decide +kernel) (pa_cons (pe_ix ix_seq (pv 3) pe_int (fun _ _ => rfl)) pa_nil)) pe_int (nomark _)) (pw_and1 (pt_not (pt_val (pe_g c__law_right hr (by decide) hG (by rfl) (pa_cons (pv 2) (pa_cons (pv 3) pa_nil)))))))) (pss_one (ps_ret pe_bl)) pss_nil)
  (pss_cons (ps_set (i := 4) sc_law.nd rfl (Or.inr rfl) (pe_f c__law_log hr (by decide) (by rfl) (pa_cons (pv 2) (pa_cons (pv 3) (pa_cons pe_int pa_nil)))))
  (pss_cons (ps_set (i := 5) sc_law.nd rfl (Or.inr rfl) (pe_f c__law_take hr (by decide) (by rfl) (pa_cons (pv 2) (pa_cons (pe_op op_add (pe_callB cr_len (by rfl) B.b_len (by decide +kernel) (pa_cons (pv 4) pa_nil)) pe_int) pa_nil))))
  (pss_cons (ps_set (i := 6) sc_law.nd rfl (Or.inr rfl) (pe_callB cr_len (by rfl) B.b_len (by decide +kernel) (pa_cons (pe_callTy (cr_setI rfl) (by rfl) B.b_set (by decide +kernel) (pa_cons (pe_lc (own := [("_law_start", 8)]) (g := (gName 8)) (tt := tYes) rfl sc_law.nd  (pi_range1 (by rfl) B.b_range (pa_cons (pe_callB cr_len (by rfl) B.b_len (by decide +kernel) (pa_cons (pe_ix ix_seq (pv 3) pe_int (fun _ _ => rfl)) pa_nil)) pa_nil)) (blkOk_by (by kernel_rfl)) (fun _ _ _ _ _ => (pg_name (i := 8) sc_law.nd rfl (Or.inl rfl))) (fun _ _ _ _ _ => pts_nil) (fun _ _ _ _ _ => (pe_ix ix_seq (pe_f c__law_run hr (by decide) (by rfl) (pa_cons (pv 3) (pa_cons (pv 8) (pa_cons (pe_slice sl_any (pv 4) po_none (po_some (pv 5))) pa_nil)))) (pe_un un_neg pe_int) (fun _ _ => rfl)))) pa_nil)) pa_nil)))
  (pss_cons (ps_if (pt_cmpR op_gt (pe_f c_width hr (by decide) (by rfl) (pa_cons (pe_mach c_Machine_init hr (by decide) (by rfl) (pa_cons (pv 3) pa_nil)) pa_nil)) (pv 6) (nomark _)) (pss_one (ps_ret pe_bl)) pss_nil)
  (pss_one (ps_for PassesOwn.never rfl (pi_range2 (by rfl) B.b_range (pa_cons (pv 5) (pa_cons (pe_op op_add (pe_callB cr_len (by rfl) B.b_len (by decide +kernel) (pa_cons (pv 4) pa_nil)) pe_int) pa_nil))) (pg_name (i := 7) sc_law.nd rfl (Or.inr rfl)) (pss_one (ps_if (pt_cmpR (op_neD hu64) (pe_lc (own := [("_law_state", 9)]) (g := (gName 9)) (tt := (tTest (tOp (rI0 fun i j => .bl (decide (j < i))) (tCall q__law_parted [] E0 (tCons (tVar 3) (tCons (tSl (rSl N.K) (tVar 4) tNoPart (tPart (tVar 7))) (tCons (tVar 5) (tCons (tVar 9) tNil))))) (tVar 6)))) rfl sc_law.nd  (pi_range1 (by rfl) B.b_range (pa_cons (pe_callB cr_len (by rfl) B.b_len (by decide +kernel) (pa_cons (pe_ix ix_seq (pv 3) pe_int (fun _ _ => rfl)) pa_nil)) pa_nil)) (blkOk_by (by kernel_rfl)) (fun _ _ _ _ _ => (pg_name (i := 9) sc_law.nd rfl (Or.inl rfl))) (fun _ _ _ _ _ => (pts_one (pt_cmpR op_gt (pe_f c__law_parted hr (by decide) (by rfl) (pa_cons (pv 3) (pa_cons (pe_slice sl_any (pv 4) po_none (po_some (pv 7))) (pa_cons (pv 5) (pa_cons (pv 9) pa_nil))))) (pv 6) (nomark _)))) (fun _ _ _ _ _ => (pv 9))) (pe_lst pa_nil) (nomark _)) (pss_one (ps_ret pe_bl)) pss_nil))))))))))))
  (pss_one (ps_ret pe_bl))))

end Ag

/-! Small data: what the equality, the repr of it needs. -/
namespace Ag
open PySem PySem.Spec PyProof.Rows L2
mutual
def gd : PyData → Bool
  | .none => true
  | .bool _ => true
  | .int i => decide (0 ≤ i) && decide (i < 4096)
  | .str x => PyData.strOk x && decide (x.cps.size ≤ 8)
  | .list xs => gdA xs
  | .tuple xs => gdA xs
  | .dict _ => false
def gdA : List PyData → Bool
  | [] => true
  | x :: xs => gd x && gdA xs
end
mutual
def nn : PyData → Nat
  | .list xs => nnA xs + 1
  | .tuple xs => nnA xs + 1
  | _ => 1
def nnA : List PyData → Nat
  | [] => 0
  | x :: xs => nn x + nnA xs
end
theorem log12 {i : Int} (h : 0 ≤ i ∧ i < 4096) : i.natAbs.log2 < 12 := by
  by_cases q : i.natAbs = 0
  · rw [q]
    decide
  · exact (Nat.log2_lt q).mpr (by omega)
theorem short13 {i : Int} (h : 0 ≤ i ∧ i < 4096) : (PyData.shown (.int i)).length ≤ 13 := by
  rw [PyData.shown_int]
  have e : (Str.ofString (toString i)).length ≤ 5 := by
    rw [PySem.ofString_length]
    exact int_text_length_le10 (k := 4) (by decide) (by omega)
  exact Nat.le_trans e (by decide)
mutual
theorem gd_lay : ∀ d : PyData, gd d = true → d.canLay0 = true ∧ d.showable = true ∧ d.intsShort 13 = true ∧ d.weight + 1 ≤ 14 * nn d
  | .none, _ => ⟨rfl, rfl, rfl, by simp [PyData.weight, nn]⟩
  | .bool _, _ => ⟨rfl, rfl, rfl, by simp [PyData.weight, nn]⟩
  | .int i, h => by
    have h : 0 ≤ i ∧ i < 4096 := by simpa [gd] using h
    have l := log12 h
    refine ⟨rfl, by simp only [PyData.showable, decide_eq_true_eq]; omega, by simp only [PyData.intsShort, decide_eq_true_eq]; exact short13 h, ?_⟩
    simp only [PyData.weight, nn]
    split <;> omega
  | .str x, h => by
    have h : PyData.strOk x = true ∧ x.cps.size ≤ 8 := by simpa [gd] using h
    refine ⟨by simp only [PyData.canLay0]; exact h.1, by simp only [PyData.showable], by simp only [PyData.intsShort], ?_⟩
    simp only [PyData.weight, nn]
    omega
  | .list xs, h => by
    obtain ⟨h1, h2, h3, h4⟩ := gdA_lay xs (by simpa only [gd] using h)
    refine ⟨by simpa only [PyData.canLay0] using h1, by simpa only [PyData.showable] using h2, by simpa only [PyData.intsShort] using h3, ?_⟩
    simp only [PyData.weight, nn]
    omega
  | .tuple xs, h => by
    obtain ⟨h1, h2, h3, h4⟩ := gdA_lay xs (by simpa only [gd] using h)
    refine ⟨by simpa only [PyData.canLay0] using h1, by simpa only [PyData.showable] using h2, by simpa only [PyData.intsShort] using h3, ?_⟩
    simp only [PyData.weight, nn]
    omega
  | .dict _, h => by simp [gd] at h
theorem gdA_lay : ∀ xs : List PyData, gdA xs = true → PyData.canLayAll0 xs = true ∧ PyData.showableAll xs = true ∧ PyData.intsShortAll 13 xs = true ∧ PyData.weightAll xs ≤ 14 * nnA xs
  | [], _ => ⟨rfl, rfl, rfl, by simp [PyData.weightAll, nnA]⟩
  | x :: xs, h => by
    have h : gd x = true ∧ gdA xs = true := by simpa only [gdA, Bool.and_eq_true] using h
    obtain ⟨a1, a2, a3, a4⟩ := gd_lay x h.1
    obtain ⟨b1, b2, b3, b4⟩ := gdA_lay xs h.2
    refine ⟨by simp only [PyData.canLayAll0, a1, b1, Bool.and_self], by simp only [PyData.showableAll, a2, b2, Bool.and_self], by simp only [PyData.intsShortAll, a3, b3, Bool.and_self], ?_⟩
    simp only [PyData.weightAll, nnA]
    omega
end
theorem gdA_of {xs : List PyData} (h : ∀ x ∈ xs, gd x = true) : gdA xs = true := by
  induction xs with
  | nil => rfl
  | cons x xs ih => simp only [gdA, h x (by simp), ih (fun y hy => h y (by simp [hy])), Bool.and_self]
theorem depA_of {xs : List PyData} {k : Nat} (h : ∀ x ∈ xs, x.depth ≤ k) : PyData.depthAll xs ≤ k := by
  induction xs with
  | nil => exact Nat.zero_le _
  | cons x xs ih =>
    simp only [PyData.depthAll]
    exact Nat.max_le.mpr ⟨h x (by simp), ih (fun y hy => h y (by simp [hy]))⟩
theorem nnA_of {xs : List PyData} {k : Nat} (h : ∀ x ∈ xs, nn x ≤ k) : nnA xs ≤ k * xs.length := by
  induction xs with
  | nil => simp [nnA]
  | cons x xs ih =>
    have a := h x (by simp)
    have b := ih (fun y hy => h y (by simp [hy]))
    simp only [nnA, List.length_cons, Nat.mul_add, Nat.mul_one]
    omega
theorem gd_shaped {d : PyData} (h : gd d = true) (hd : d.depth ≤ 64) : SeqAt.shaped d = true := by
  unfold SeqAt.shaped
  rw [(gd_lay d h).1, decide_eq_true hd]
  rfl
theorem rc_reprS {N : Nv} {x : PyData} (g : gd x = true) (hd : x.depth ≤ 60) (hn : nn x ≤ 70000) : RC N (rRepr N.K) [.d x] (fun d => d = .d (.str x.shown)) := by
  obtain ⟨a1, a2, a3, a4⟩ := gd_lay x g
  refine rc_repr a2 (PyData.hasDict_of_canLay x a1) hd ?_
  refine Nat.le_trans (shown_le13 ?_ a3) (by decide)
  unfold PyData.layable0
  rw [a1, decide_eq_true (by omega), decide_eq_true (by omega)]
  rfl
/-! equality, where no bool meets an int -/
mutual
def nb : PyData → Bool
  | .int _ => true
  | .str _ => true
  | .none => true
  | .list xs => nbA xs
  | .tuple xs => nbA xs
  | _ => false
def nbA : List PyData → Bool
  | [] => true
  | x :: xs => nb x && nbA xs
end
mutual
theorem eqv_iff : ∀ x y : PyData, nb x = true → nb y = true → (PyData.eqv x y = true ↔ x = y)
  | .none, y, _, hy => by cases y <;> simp [PyData.eqv, nb] at hy ⊢
  | .int i, y, _, hy => by cases y <;> simp [PyData.eqv, nb] at hy ⊢
  | .str i, y, _, hy => by cases y <;> simp [PyData.eqv, nb] at hy ⊢
  | .list xs, y, hx, hy => by
    cases y with
    | list ys =>
      simp only [nb] at hx hy
      simp only [PyData.eqv, PyData.list.injEq]
      exact eqvAll_iff xs ys hx hy
    | _ => simp [PyData.eqv]
  | .tuple xs, y, hx, hy => by
    cases y with
    | tuple ys =>
      simp only [nb] at hx hy
      simp only [PyData.eqv, PyData.tuple.injEq]
      exact eqvAll_iff xs ys hx hy
    | _ => simp [PyData.eqv]
  | .bool _, _, h, _ => by simp [nb] at h
  | .dict _, _, h, _ => by simp [nb] at h
theorem eqvAll_iff : ∀ xs ys : List PyData, nbA xs = true → nbA ys = true → (PyData.eqvAll xs ys = true ↔ xs = ys)
  | [], [], _, _ => by simp [PyData.eqvAll]
  | [], _ :: _, _, _ => by simp [PyData.eqvAll]
  | _ :: _, [], _, _ => by simp [PyData.eqvAll]
  | x :: xs, y :: ys, hx, hy => by
    simp only [nbA, Bool.and_eq_true] at hx hy
    simp only [PyData.eqvAll, Bool.and_eq_true, List.cons.injEq]
    rw [eqv_iff x y hx.1 hy.1, eqvAll_iff xs ys hx.2 hy.2]
end
theorem nbA_of {xs : List PyData} (h : ∀ x ∈ xs, nb x = true) : nbA xs = true := by
  induction xs with
  | nil => rfl
  | cons x xs ih => simp only [nbA, h x (by simp), ih (fun y hy => h y (by simp [hy])), Bool.and_self]
theorem eqv_int (a b : Int) : PyData.eqv (.int a) (.int b) = decide (a = b) := by
  simp only [PyData.eqv]
  by_cases h : a = b
  · rw [decide_eq_true h, h]
    exact beq_self_eq_true b
  · rw [decide_eq_false h]
    exact beq_eq_false_iff_ne.mpr h
theorem eqv_str (a b : Str) : PyData.eqv (.str a) (.str b) = decide (a = b) := by
  simp only [PyData.eqv]
  by_cases h : a = b
  · rw [decide_eq_true h, h]
    exact beq_self_eq_true b
  · rw [decide_eq_false h]
    exact beq_eq_false_iff_ne.mpr h
theorem eqv_bool (a b : Bool) : PyData.eqv (.bool a) (.bool b) = decide (a = b) := by
  simp only [PyData.eqv]
  by_cases h : a = b
  · rw [decide_eq_true h, h]
    exact beq_self_eq_true b
  · rw [decide_eq_false h]
    exact beq_eq_false_iff_ne.mpr h
/-! lists of numbers -/
theorem gd_nat {n : Nat} (h : n < 4096) : gd (.int (n : Int)) = true := by
  simp [gd]
  omega
theorem gdA_nats {l : List Nat} (h : ∀ x ∈ l, x < 4096) : gdA (l.map fun n => PyData.int (n : Nat)) = true := gdA_of fun x hx => by
  obtain ⟨n, hn, rfl⟩ := List.mem_map.mp hx
  exact gd_nat (h n hn)
theorem nb_nats {l : List Nat} : nbA (l.map fun n => PyData.int (n : Nat)) = true := nbA_of fun x hx => by
  obtain ⟨n, hn, rfl⟩ := List.mem_map.mp hx
  rfl
theorem dep_nats {l : List Nat} : PyData.depthAll (l.map fun n => PyData.int (n : Nat)) = 0 := by
  have := depA_of (xs := l.map fun n => PyData.int (n : Nat)) (k := 0) fun x hx => by
    obtain ⟨n, hn, rfl⟩ := List.mem_map.mp hx
    exact Nat.le_refl _
  omega
theorem nn_nats {l : List Nat} : nnA (l.map fun n => PyData.int (n : Nat)) ≤ l.length := by
  have := nnA_of (xs := l.map fun n => PyData.int (n : Nat)) (k := 1) fun x hx => by
    obtain ⟨n, hn, rfl⟩ := List.mem_map.mp hx
    exact Nat.le_refl _
  rw [List.length_map] at this
  omega
theorem nats_inj {a b : List Nat} (h : a.map (fun n => PyData.int (n : Nat)) = b.map fun n => PyData.int (n : Nat)) : a = b := by
  induction a generalizing b with
  | nil =>
    cases b with
    | nil => rfl
    | cons _ _ => simp at h
  | cons x a ih =>
    cases b with
    | nil => simp at h
    | cons y b =>
      simp only [List.map_cons, List.cons.injEq, PyData.int.injEq] at h
      rw [ih h.2, show x = y by omega]
end Ag

/-! The small defs. -/
namespace Ag
open PySem PySem.Spec PyProof.Rows L2
/-- promises that tell one answer -/
def R1 (f : List Bd → Option Bd) : Rlt := fun bs B P => B = [] ∧ ∃ b, f bs = some b ∧ P = fun d => d = b
def isI : PyData → Bool
  | .int _ => true
  | _ => false
def isN : PyData → Bool
  | .int i => decide (0 ≤ i)
  | _ => false
def blw (x : PyData) (m : Int) : Bool := match x with
  | .int i => decide (0 ≤ i) && decide (i < m)
  | _ => false
def isT : PyData → Bool
  | .str _ => true
  | _ => false
def itemsD : PyData → List PyData
  | .list ds => ds
  | .tuple ds => ds
  | _ => []
def Rl_is_integer : Rlt := fun bs B P => ∃ x, bs = [.d x] ∧ B = [] ∧ P = fun d => d = .d (.bool (isI x))
def Rl_is_number : Rlt := fun bs B P => ∃ x, bs = [.d x] ∧ B = [] ∧ P = fun d => d = .d (.bool (isN x))
def Rl_is_below : Rlt := fun bs B P => ∃ x m, bs = [.d x, .d (.int m)] ∧ B = [] ∧ P = fun d => d = .d (.bool (blw x m))
def Rl_is_sequence : Rlt := fun bs B P => ∃ x, bs = [.d x] ∧ B = [] ∧ P = fun d => d = .d (.bool (isSeqD x))
def Rl_is_text : Rlt := fun bs B P => ∃ x, bs = [.d x] ∧ B = [] ∧ P = fun d => d = .d (.bool (isT x))
theorem W_is_integer (N : Nv) : Walk N (R_is_integer N) Rl_is_integer 0 := by
  rintro bs B P ⟨x, rfl, rfl, rfl⟩ G H σ D S k
  refine s_retF S (e_and (e_cb (a_cons (e_var rfl) (a_cons e_val a_nil)) (rc_is (kit_int x))) fun _ => e_not (e_cb (a_cons (e_var rfl) (a_cons e_val a_nil)) (rc_is (kit_bool x)))) (fun d h => h.trans ?_) k fun b h => h
  cases x <;> rfl
theorem W_is_number (N : Nv) : Walk N (R_is_number N (Spc N Rl_is_integer)) Rl_is_number 0 := by
  rintro bs B P ⟨x, rfl, rfl, rfl⟩ G H σ D S k
  cases hx : isI x with
  | true =>
    cases x with
    | int i => exact s_retF S (e_and (e_call (a_cons (e_var rfl) a_nil) ⟨_, rfl, rfl, rfl⟩) fun _ => e_op (e_var rfl) e_int rv_B0) (fun d h => h) k fun b h => h
    | _ => cases hx
  | false =>
    refine s_retF S (e_and (b := true) (e_call (a_cons (e_var rfl) a_nil) ⟨_, rfl, rfl, rfl⟩) fun h => by rw [hx] at h; cases h) (fun d h => h.trans ?_) k fun b h => h
    rw [hx]
    cases x <;> first | rfl | cases hx
theorem W_is_below (N : Nv) : Walk N (R_is_below N (Spc N Rl_is_number)) Rl_is_below 0 := by
  rintro bs B P ⟨x, m, rfl, rfl, rfl⟩ G H σ D S k
  cases x with
  | int i => exact s_retF S (e_and (e_call (a_cons (e_var rfl) a_nil) ⟨_, rfl, rfl, rfl⟩) fun _ => e_op (e_var rfl) (e_var rfl) rv_B0) (fun d h => h) k fun b h => h
  | _ => exact s_retF S (e_and (b := true) (e_call (a_cons (e_var rfl) a_nil) ⟨_, rfl, rfl, rfl⟩) fun h => by cases h) (fun d h => h) k fun b h => h
theorem W_is_sequence (N : Nv) : Walk N (R_is_sequence N) Rl_is_sequence 0 := by
  rintro bs B P ⟨x, rfl, rfl, rfl⟩ G H σ D S k
  exact s_retF S (e_isSeq (e_var rfl)) (fun d h => h) k fun b h => h
theorem W_is_text (N : Nv) : Walk N (R_is_text N) Rl_is_text 0 := by
  rintro bs B P ⟨x, rfl, rfl, rfl⟩ G H σ D S k
  refine s_retF S (e_cb (a_cons (e_var rfl) (a_cons e_val a_nil)) (rc_is (kit_str x))) (fun d h => h.trans ?_) k fun b h => h
  cases x <;> rfl
/-- each below -/
def allB (ds : List PyData) (m : Int) : Bool := ds.all fun x => blw x m
theorem isSeq_cases {x : PyData} (h : isSeqD x = true) : x = .tuple (itemsD x) ∨ x = .list (itemsD x) := by
  cases x with
  | list ds => exact .inr rfl
  | tuple ds => exact .inl rfl
  | _ => cases h
theorem bd_inj {a b : PyData} (h : (Bd.d a) = .d b) : a = b := by
  cases h
  rfl
/-- all([is_below(x, m) for x in value]) -/
theorem e_allB {N : Nv} {M : Mm} {Γ : Cnt} {tl tm : TE} {c : PyData} {m : Int} {i : Nat} (hc : isSeqD c = true) (hz : (itemsD c).length ≤ 90000) (hl : E1 N M Γ tl (.d c)) (hi : i < Γ.length)
    (hm : ∀ x, E1 N M ((wipeG Γ [i]).set i (some x)) tm (.d (.int m))) :
    E1 N M Γ (tCB (rAll N.K) (tCons (tLc (iSeq N.K tl) (gName i) tYes (tCall (Spc N Rl_is_below) [] E0 (tCons (tVar i) (tCons tm tNil))) [i]) tNil)) (.d (.bool (allB (itemsD c) m))) := by
  have h : E1 N M Γ (tLc (iSeq N.K tl) (gName i) tYes (tCall (Spc N Rl_is_below) [] E0 (tCons (tVar i) (tCons tm tNil))) [i]) (.d (.list (((itemsD c).map fun x => blw x m).map .bool))) := by
    refine (e_lc (fun x => (wipeG Γ [i]).set i (some x)) (fun _ => true) (fun x => match x with | .d y => .bool (blw y m) | _ => .none) (i_seq hl (isSeq_cases hc)).i (by rw [List.length_map]; exact hz) (fun x _ => g_name) (fun _ _ => t_yes) (fun x hx _ => ?_)).to ?_
    · obtain ⟨y, _, rfl⟩ := List.mem_map.mp hx
      refine e_call (a_cons (e_var ?_) (a_cons (hm _) a_nil)) ⟨y, m, rfl, rfl, rfl⟩
      have : i < (wipeG Γ [i]).length := by
        show i < (Γ.set i none).length
        rwa [List.length_set]
      exact List.getElem?_set_self this
    · rw [filter_yes, List.map_map, List.map_map]
      rfl
  refine (e_cb (a_cons h a_nil) rc_all).to ?_
  congr 2
  unfold allB
  rw [List.all_map]
  rfl
end Ag

/-! is_ascending, is_table, check_tables, Machine.__init__, behind. -/
namespace Ag
open PySem PySem.Spec PyProof.Rows L2
/-- each is less than the one behind it -/
def lessB (ds : List PyData) : Bool := (List.zipWith (fun a b => match a, b with
  | .int i, .int j => decide (i < j)
  | _, _ => false) ds (ds.drop 1)).all id
def ascB (x : PyData) (m : Int) : Bool := isSeqD x && (!(itemsD x).isEmpty && (allB (itemsD x) m && lessB (itemsD x)))
def Rl_is_ascending : Rlt := fun bs B P => ∃ x m, bs = [.d x, .d (.int m)] ∧ (itemsD x).length ≤ 90000 ∧ B = [] ∧ P = fun d => d = .d (.bool (ascB x m))
theorem rc_lenX {N : Nv} {x : PyData} (h : isSeqD x = true) : RC N (rLen N.K N.w) [.d x] (fun d => d = .d (.int ((itemsD x).length : Nat))) := rc_len (isSeq_cases h)
theorem e_eqI {N : Nv} {M : Mm} {Γ : Cnt} {ta tb : TE} {a b : Int} (ha : E1 N M Γ ta (.d (.int a))) (hb : E1 N M Γ tb (.d (.int b))) : E1 N M Γ (tOp (rEqD N.K) ta tb) (.d (.bool (decide (a = b)))) := (e_op ha hb (rv_eqD rfl rfl)).to (by rw [eqv_int])
theorem e_neI {N : Nv} {M : Mm} {Γ : Cnt} {ta tb : TE} {a b : Int} (ha : E1 N M Γ ta (.d (.int a))) (hb : E1 N M Γ tb (.d (.int b))) : E1 N M Γ (tOp (rNeD N.K) ta tb) (.d (.bool (!decide (a = b)))) := (e_op ha hb (rv_neD rfl rfl)).to (by rw [eqv_int])
theorem allB_int {ds : List PyData} {m : Int} (h : allB ds m = true) {x : PyData} (hx : x ∈ ds) : ∃ i, x = .int i := by
  have := List.all_eq_true.mp h x hx
  cases x with
  | int i => exact ⟨i, rfl⟩
  | _ => cases this
theorem W_is_ascending (N : Nv) : Walk N (R_is_ascending N (Spc N Rl_is_sequence) (Spc N Rl_is_below)) Rl_is_ascending 3 := by
  rintro bs B P ⟨x, m, rfl, hz, rfl, rfl⟩ G H σ D S k
  have t1 : EvT N ⟨[], []⟩ ([Bd.d x, .d (.int m)].map some ++ List.replicate 3 none) (tNot (tB (tCall (Spc N Rl_is_sequence) [] E0 (tCons (tVar 0) tNil)))) (!isSeqD x) := t_not (t_B (e_call (a_cons (e_var rfl) a_nil) ⟨x, rfl, rfl, rfl⟩))
  cases hs : isSeqD x with
  | false =>
    refine q_if (c := true) S ((t_or (b := true) t1 fun h => by rw [hs] at h; cases h).to (by rw [hs]; rfl)) (fun _ G' H' S' => ?_) (fun h => nomatch h)
    exact s_retF S' e_bl (fun d h => h.trans (by simp [ascB, hs])) k fun b h => h
  | true =>
    have t2 : EvT N ⟨[], []⟩ ([Bd.d x, .d (.int m)].map some ++ List.replicate 3 none) (tTest (tOp (rEqD N.K) (tCB (rLen N.K N.w) (tCons (tVar 0) tNil)) (tC (.int 0)))) (decide (((itemsD x).length : Int) = 0)) := t_test (e_eqI (e_cb (a_cons (e_var rfl) a_nil) (rc_lenX hs)) e_int)
    have t3 := t_or t2 fun _ => t_not (t_B (e_allB (N := N) (M := ⟨[], []⟩) (Γ := [Bd.d x, .d (.int m)].map some ++ List.replicate 3 none) (tl := tVar 0) (tm := tVar 1) (i := 4) (m := m) hs hz (e_var rfl) (by simp) fun y => e_var rfl))
    refine q_if S (t_or t1 fun _ => t3) (fun hc G' H' S' => ?_) (fun hc G' H' S' => ?_)
    · refine s_retF S' e_bl (fun d h => h.trans ?_) k fun b h => h
      congr 2
      rw [hs] at hc
      unfold ascB
      rw [hs, Bool.true_and]
      cases he : itemsD x with
      | nil => rfl
      | cons y ys =>
        rw [he] at hc
        have hc : allB (y :: ys) m = false := by
          simp at hc
          rcases hc with hc | hc
          · omega
          · exact hc
        rw [hc]
        rfl
    · rw [hs] at hc
      have ha : allB (itemsD x) m = true ∧ (itemsD x).isEmpty = false := by
        simp at hc
        refine ⟨hc.2, ?_⟩
        cases he : itemsD x with
        | nil =>
          rw [he] at hc
          simp at hc
        | cons _ _ => rfl
      have hl : E1 N ⟨[], []⟩ ([Bd.d x, .d (.int m)].map some ++ List.replicate 3 none) (tLc (RZ.iZipA N.K (tCons (tVar 0) (tCons (tSl (rSl N.K) (tVar 0) (tPart (tC (.int 1))) tNoPart) tNil))) (gTup N.K 2 (gCons (gName 2) (gCons (gName 3) gNil))) tYes (tOp (rI0 fun i j => .bl (decide (i < j))) (tVar 2) (tVar 3)) [2, 3])
          (.d (.list ((List.zipWith (fun a b => match a, b with | .int i, .int j => decide (i < j) | _, _ => false) (itemsD x) ((itemsD x).drop 1)).map .bool))) := by
        refine (e_lc (xs := zpD (itemsD x) ((itemsD x).drop 1)) (fun z => match z with
          | .d (.tuple [a, b]) => (((wipeG ([Bd.d x, .d (.int m)].map some ++ List.replicate 3 none) [2, 3]).set 2 (some (.d a))).set 3 (some (.d b)))
          | _ => wipeG ([Bd.d x, .d (.int m)].map some ++ List.replicate 3 none) [2, 3]) (fun _ => true) (fun z => match z with
          | .d (.tuple [.int i, .int j]) => .bool (decide (i < j))
          | _ => .bool false) (i_zip (c := x) (c2 := reD x ((itemsD x).drop 1)) (a_cons (e_var rfl) (a_cons (e_slFrom (isSeq_cases hs) (e_var rfl) e_int) a_nil)) ?_).i ?_ ?_ (fun _ _ => t_yes) ?_).to ?_
        · rcases isSeq_cases hs with q | q
          · right
            refine ⟨q, ?_⟩
            rw [q]
            rfl
          · left
            refine ⟨q, ?_⟩
            rw [q]
            rfl
        · unfold zpD
          rw [List.length_zipWith]
          omega
        · intro z hz
          obtain ⟨i, hi⟩ := List.mem_iff_getElem?.mp hz
          obtain ⟨d, e, _, _, rfl⟩ := zpD_get hi
          exact g_two
        · intro z hz _
          obtain ⟨i, hi⟩ := List.mem_iff_getElem?.mp hz
          obtain ⟨d, e, h1, h2, rfl⟩ := zpD_get hi
          obtain ⟨a, rfl⟩ := allB_int ha.1 (List.mem_of_getElem? h1)
          obtain ⟨b, rfl⟩ := allB_int ha.1 (List.mem_of_mem_drop (List.mem_of_getElem? h2))
          exact e_op (e_var rfl) (e_var rfl) rv_B0
        · rw [filter_yes]
          unfold zpD
          rw [List.map_zipWith, List.map_zipWith]
          congr 3
          funext a b
          cases a <;> cases b <;> rfl
      refine s_retF S' (e_cb (a_cons hl a_nil) rc_all) (fun d h => h.trans ?_) k fun b h => h
      unfold ascB lessB
      rw [hs, ha.1, ha.2]
      rfl
/-! ### tables -/
structure MV (ts : List (List Nat)) (n : Nat) : Prop where
  k1 : 1 ≤ ts.length
  k8 : ts.length ≤ 8
  n1 : 1 ≤ n
  n12 : n ≤ 12
  row : ∀ t ∈ ts, t.length = n ∧ ∀ x ∈ t, x < n
theorem MV.hd {ts : List (List Nat)} {n : Nat} (h : MV ts n) : (ts.headD []).length = n := by
  cases ts with
  | nil =>
    have := h.k1
    simp at this
  | cons t ts => exact (h.row t (by simp)).1
def Rl_is_table : Rlt := fun bs B P => ∃ (l : List Nat) (n : Nat), bs = [.d (tnD l), .d (.int (n : Int))] ∧ l.length = n ∧ (∀ x ∈ l, x < n) ∧ n ≤ 90000 ∧ B = [] ∧ P = fun d => d = .d (.bool true)
theorem allB_nats {l : List Nat} {n : Nat} (h : ∀ x ∈ l, x < n) : allB (l.map fun n => PyData.int (n : Nat)) (n : Int) = true := by
  unfold allB
  rw [List.all_eq_true]
  intro x hx
  obtain ⟨i, hi, rfl⟩ := List.mem_map.mp hx
  have := h i hi
  simp [blw]
  omega
theorem W_is_table (N : Nv) : Walk N (R_is_table N (Spc N Rl_is_sequence) (Spc N Rl_is_below)) Rl_is_table 1 := by
  rintro bs B P ⟨l, n, rfl, hl, hb, hn, rfl, rfl⟩ G H σ D S k
  refine s_retF S (e_and (e_call (a_cons (e_var rfl) a_nil) ⟨_, rfl, rfl, rfl⟩) fun _ => e_and (e_eqI (e_cb (a_cons (e_var rfl) a_nil) (rc_len (.inl rfl))) (e_var rfl)) fun _ => e_allB (c := tnD l) (m := (n : Int)) rfl (by show (l.map _).length ≤ _; rw [List.length_map]; omega) (e_var rfl) (by simp) fun y => e_var rfl) (fun d h => h.trans ?_) k fun b h => h
  have e : allB (itemsD (tnD l)) (n : Int) = true := allB_nats hb
  rw [e, List.length_map, hl]
  simp [tnD, isSeqD]
def Rl_check_tables : Rlt := fun bs B P => ∃ (ts : List (List Nat)) (n : Nat), bs = [.d (tlD ts)] ∧ MV ts n ∧ B = [] ∧ P = fun d => d = .d (ttD ts)
theorem W_check_tables (N : Nv) : Walk N (R_check_tables N (Spc N Rl_is_sequence) (Spc N Rl_is_table)) Rl_check_tables 3 := by
  rintro bs B P ⟨ts, n, rfl, mv, rfl, rfl⟩ G H σ D S k
  have hl : ts.length ≤ 8 := mv.k8
  have hl1 : 1 ≤ ts.length := mv.k1
  refine q_skip S ((t_or (t_not (t_B (e_call (a_cons (e_var rfl) a_nil) ⟨_, rfl, rfl, rfl⟩))) fun _ => t_not (t_test (e_chain e_int (e_cb (a_cons (e_var rfl) a_nil) (rc_len (.inr rfl))) e_int))).to ?_) fun G1 H1 S1 => ?_
  · simp [tlD, isSeqD]
    omega
  obtain ⟨t0, tr, rfl⟩ : ∃ t0 tr, ts = t0 :: tr := by
    cases ts with
    | nil => simp at hl1
    | cons a b => exact ⟨a, b, rfl⟩
  have h0 := (mv.row t0 (by simp)).1
  refine q_set (b := .d (.int (n : Int))) S1 ((e_if (c := true) (t_B (e_call (a_cons (e_ixL (j := 0) (x := tnD t0) (e_var rfl) e_int rfl) a_nil) ⟨_, rfl, rfl, rfl⟩)) (fun _ => e_cb (a_cons (e_ixL (j := 0) (x := tnD t0) (e_var rfl) e_int rfl) a_nil) (rc_len (.inl rfl))) (fun h => nomatch h)).to (by rw [List.length_map, h0])) fun v G2 H2 S2 => ?_
  refine q_for2 S2 (i_en (ds := (t0 :: tr).map tnD) (a_cons (e_var rfl) a_nil)) (fun x hx => ?_) (fun i M' => M' = ⟨[], []⟩) rfl (fun i p q M' L' G' H' σ' hx pv S' => ?_) (fun M' G' H' σ' pv S' => ?_)
  · obtain ⟨i, hi⟩ := List.mem_iff_getElem?.mp hx
    obtain ⟨d, _, rfl⟩ := enD_get hi
    exact ⟨_, _, rfl⟩
  · obtain ⟨d, hd, e⟩ := enD_get hx
    cases e
    obtain ⟨t, ht, rfl⟩ := List.mem_map.mp (List.mem_of_getElem? hd)
    obtain rfl := pv
    obtain ⟨r1, r2⟩ := mv.row t ht
    refine s_if (c := false) S' ((t_or (t_not (t_test (e_chain (b := (n : Int)) e_int (e_var rfl) e_int))) fun _ => t_not (t_B (e_call (a_cons (e_var rfl) (a_cons (e_var rfl) a_nil)) ⟨t, n, rfl, r1, r2, by have := mv.n12; omega, rfl, rfl⟩))).to ?_) (fun h => nomatch h) fun _ G3 H3 S3 => ?_
    · have := mv.n1
      have := mv.n12
      simp
      omega
    · exact ⟨_, G3, rfl, (S3.forget 2).forget 3⟩
  · obtain rfl := pv
    have hm := e_lc1 (N := N) (M := ⟨[], []⟩) (Γ := [Bd.d (tlD (t0 :: tr))].map some ++ [some (.d (.int (n : Int))), none, none]) (a := 3) (tt := tYes) (te := tCB (rTup N.K) (tCons (tVar 3) tNil)) (fun _ => true) id (i_seq (tl := tVar 0) (e_var rfl) (.inr rfl)).i (by rw [List.length_map]; omega) (fun _ _ => t_yes) fun x hx _ => by
      obtain ⟨t, _, rfl⟩ := List.mem_map.mp hx
      exact e_cb (a_cons (e_var rfl) a_nil) (rc_tup (.inl rfl))
    rw [filter_yes, List.map_id] at hm
    exact s_retF S' (e_cb (a_cons hm a_nil) (rc_tup (.inr rfl))) (fun d h => h) k fun b h => h

/-! ### a machine is made -/
def Rl_init : List Bd → List (List Nat) → Prop := fun bs ts => ∃ n, bs = [.d (tlD ts)] ∧ MV ts n
theorem W_init {P : Program} {N : Nv} {mg : Str → Option Value} {base : Heap} {qual : Str} {f : Addr} {fd : FuncData} {k : Nat} (mc : Mc N) (F : Fun N.K "__init__" qual s_Machine_init f fd)
    (hD : ∀ (cdv : Value) (A : Around) (outer : List PySem.Env) (s : Shared) (H : Hp) (E : XK), Room k (A.deeper (envOfC qual (defScope s_Machine_init) s.heap.objs.size f cdv)) → PSs (cxOf CX0 P N.w N.K mg base n_Machine_init qual (defScope s_Machine_init) f cdv A outer s H E).nox (defBody s_Machine_init) (R_Machine_init N (Spc N Rl_check_tables))) :
    FnOk P N.w N.K mg base CX0 (k + 1) f fd ["self", "tables"] (SpI N Rl_init) := by
  have len : ∀ vs H Q E, SpI N Rl_init vs H Q E → vs.length = 2 := fun vs H Q E h => by
    obtain ⟨G, H0, x, dx, vs', bs, ts, rfl, _, _, _, _, _, ha, ⟨n, rfl, _⟩, _⟩ := h
    rw [List.length_cons, HoldA.length ha]
    rfl
  refine F.ok sc_Machine_init len fun cdv A outer s H vs Q E hr hsp => ⟨_, hD cdv A outer s H E hr, ?_⟩
  obtain ⟨G, H0, x, dx, vs', bs, ts, rfl, rfl, nx, nd, ne, s0, ha, ⟨n, rfl, mv⟩, kk⟩ := hsp
  obtain ⟨v, rfl, hv⟩ := vals_one ha
  have S0 : Sta ⟨N, [], G, H0⟩ G ⟨[], []⟩ G H0 [some (.ref x), some v] [some (.v (.ref x)), some (.d (tlD ts))] := by
    refine ⟨.refl s0, Same.refl _, ⟨rfl, fun i b h => ?_⟩, Mok.nil, fun b hb => by simp at hb, fun p hp => by simp at hp, .nil⟩
    match i, h with
    | 0, h =>
      cases h
      exact ⟨_, rfl, rfl⟩
    | 1, h =>
      cases h
      exact ⟨_, rfl, hv⟩
    | i + 2, h => simp at h
  have S1 := S0.pure (Gr.newM (o := .own x) S0.s nd)
  have nx2 : upd H0 dx (.own x) x = none := by rw [upd_ne (fun z => ne z.symm)]; exact nx
  have S2 := S1.new (o := .ins N.C dx []) (r := .ob N.C dx []) nx2 ⟨[], upd_same, .nil⟩
  have e : L2.start n_Machine_init [.ref x, v] = [some (.ref x), some v] := rfl
  rw [e]
  refine q_fld (j := 0) S2 mc.cls mc.tb rfl (e_call (a_cons (e_var rfl) a_nil) ⟨ts, n, rfl, mv, rfl, rfl⟩) (e_var rfl) (by decide) fun G3 H3 S3 => ?_
  refine q_fld (j := 0) S3 mc.cls mc.de rfl (e_cb (a_cons (e_fldR (j := 0) mc.cls mc.tb rfl (e_var rfl) rfl) a_nil) (rc_len (.inl rfl))) (e_var rfl) (show 1 < 900 from by decide) fun G4 H4 S4 => ?_
  obtain ⟨t0, tr, rfl⟩ : ∃ t0 tr, ts = t0 :: tr := by
    cases ts with
    | nil =>
      have := mv.k1
      simp at this
    | cons a b => exact ⟨a, b, rfl⟩
  refine s_fld (j := 0) S4 mc.cls mc.st rfl (e_cb (a_cons (e_ixT (j := 0) (x := tnD t0) (e_fldR (j := 0) (d := ttD (t0 :: tr)) mc.cls mc.tb rfl (e_var rfl) rfl) e_int rfl) a_nil) (rc_len (.inl rfl))) (e_var rfl) (show 2 < 900 from by decide) fun G5 H5 S5 => ?_
  obtain ⟨⟨kvs, e5, hf⟩, n5, _⟩ := S5.mok.res _ (List.mem_of_getElem? (i := 0) rfl)
  have hf : FsH G5 kvs [("tables", ttD (t0 :: tr)), ("deeds", .int (((t0 :: tr).map tnD).length : Nat)), ("states", .int ((t0.map fun n => PyData.int (n : Nat)).length : Nat))] := hf
  refine kk (upd G5 x (.ins N.C dx kvs)) H5 (S5.gr.freeze nx n5 e5) ?_
  have sm : Same G5 (upd G5 x (.ins N.C dx kvs)) := fun a o q => by
    rw [upd_ne (ne_of_none q n5)]
    exact q
  cases hf with
  | cons a r =>
    cases r with
    | cons b r =>
      cases r with
      | cons c r =>
        cases r
        rename_i p q u
        obtain ⟨p1, p2⟩ := p
        obtain ⟨q1, q2⟩ := q
        obtain ⟨u1, u2⟩ := u
        obtain ⟨rfl, a2⟩ := a
        obtain ⟨rfl, b2⟩ := b
        obtain ⟨rfl, c2⟩ := c
        have a2 : Dt G5 p2 (ttD (t0 :: tr)) := a2
        have b2 : Dt G5 q2 (.int (((t0 :: tr).map tnD).length : Nat)) := b2
        have c2 : Dt G5 u2 (.int ((t0.map fun n => PyData.int (n : Nat)).length : Nat)) := c2
        cases b2
        cases c2
        cases a2 with
        | tup e6 r6 =>
          refine ⟨x, dx, _, rfl, ?_, Dt.mono sm _ (Dt.tup e6 r6)⟩
          rw [upd_same]
          congr 2
          simp only [List.length_map]
          rfl

/-! ### behind -/
def step (ts : List (List Nat)) (d s : Nat) : Nat := (ts.getD d []).getD s 0
def run (ts : List (List Nat)) (s : Nat) (w : List Nat) : Nat := w.foldl (fun s d => step ts d s) s
def nsD (l : List Nat) : List PyData := l.map fun n => .int (n : Nat)
theorem MV.at {ts : List (List Nat)} {n d s : Nat} (mv : MV ts n) (hd : d < ts.length) (hs : s < n) : ts[d]? = some (ts.getD d []) ∧ (ts.getD d [])[s]? = some (step ts d s) ∧ step ts d s < n := by
  have h1 : ts[d]? = some ts[d] := List.getElem?_eq_getElem hd
  have h2 : ts.getD d [] = ts[d] := by
    rw [List.getD_eq_getElem?_getD, h1]
    rfl
  obtain ⟨r1, r2⟩ := mv.row ts[d] (List.getElem_mem hd)
  have h3 : ts[d][s]? = some ts[d][s] := List.getElem?_eq_getElem (by omega)
  have h4 : step ts d s = ts[d][s] := by
    unfold step
    rw [h2, List.getD_eq_getElem?_getD, h3]
    rfl
  rw [h2, h4]
  exact ⟨h1, h3, r2 _ (List.getElem_mem _)⟩
theorem run_lt {ts : List (List Nat)} {n : Nat} (mv : MV ts n) : ∀ {w : List Nat} {s : Nat}, (∀ d ∈ w, d < ts.length) → s < n → run ts s w < n
  | [], _, _, h => h
  | d :: w, s, hw, h => run_lt mv (w := w) (fun d h => hw d (by simp [h])) (mv.at (hw d (by simp)) h).2.2
theorem run_snoc (ts : List (List Nat)) (s : Nat) (w : List Nat) (d : Nat) : run ts s (w ++ [d]) = step ts d (run ts s w) := by
  unfold run
  rw [List.foldl_append]
  rfl
/-- tables[d][s] -/
theorem e_step {N : Nv} {M : Mm} {Γ : Cnt} {tt td ts' : TE} {ts : List (List Nat)} {n d s : Nat} {c : PyData} (mv : MV ts n) (hc : c = ttD ts ∨ c = tlD ts) (ht : E1 N M Γ tt (.d c)) (hd : E1 N M Γ td (.d (.int (d : Int)))) (hs : E1 N M Γ ts' (.d (.int (s : Int)))) (h1 : d < ts.length) (h2 : s < n) :
    E1 N M Γ (tOp (rIx N.K) (tOp (rIx N.K) tt td) ts') (.d (.int (step ts d s : Nat))) := by
  obtain ⟨a1, a2, _⟩ := mv.at h1 h2
  have q1 : (ts.map tnD)[d]? = some (tnD (ts.getD d [])) := by
    rw [List.getElem?_map, a1]
    rfl
  have q2 : ((ts.getD d []).map fun n => PyData.int (n : Nat))[s]? = some (.int (step ts d s : Nat)) := by
    rw [List.getElem?_map, a2]
    rfl
  refine e_ixT (j := s) ?_ hs q2
  rcases hc with rfl | rfl
  · exact e_ixT (j := d) ht hd q1
  · exact e_ixL (j := d) ht hd q1
def Rl_behind : Rlt := fun bs B P => ∃ (ts : List (List Nat)) (n s : Nat) (w : List Nat) (c : PyData), bs = [.d (ttD ts), .d (.int (s : Int)), .d c] ∧ MV ts n ∧ s < n ∧ (∀ d ∈ w, d < ts.length) ∧ (c = .tuple (nsD w) ∨ c = .list (nsD w)) ∧ B = [] ∧ P = fun d => d = .d (.int (run ts s w : Nat))
theorem nsD_get {l : List Nat} {i : Nat} {x : Bd} (h : ((nsD l).map Bd.d)[i]? = some x) : ∃ n, l[i]? = some n ∧ x = .d (.int (n : Nat)) := by
  obtain ⟨d, h1, rfl⟩ := get_map_d h
  unfold nsD at h1
  rw [List.getElem?_map] at h1
  cases q : l[i]? with
  | none =>
    rw [q] at h1
    cases h1
  | some n =>
    rw [q] at h1
    cases h1
    exact ⟨n, rfl, rfl⟩
theorem take_succ_at {α : Type} {l : List α} {i : Nat} {x : α} (h : l[i]? = some x) : l.take (i + 1) = l.take i ++ [x] := by
  rw [List.take_add_one, h]
  rfl
theorem W_behind (N : Nv) : Walk N (R_behind N) Rl_behind 1 := by
  rintro bs B P ⟨ts, n, s, w, c, rfl, mv, hs, hw, hc, rfl, rfl⟩ G H σ D S k
  refine q_for (vs := [3]) S (i_seq (e_var rfl) hc) (fun i M' Γ' => M' = ⟨[], []⟩ ∧ Γ' = [some (.d (ttD ts)), some (.d (.int (run ts s (w.take i) : Nat))), some (.d c), none]) (fun i x Γ' => Γ'.set 3 (some x)) ⟨rfl, rfl⟩ (fun i x M' Γ' hx _ => g_name) (fun i x M' Γ' L' G' H' σ' hx pv _ S' => ?_) (fun M' Γ' G' H' σ' pv S' => ?_)
  · obtain ⟨rfl, rfl⟩ := pv
    obtain ⟨d, hd, rfl⟩ := nsD_get hx
    have hdl := hw d (List.mem_of_getElem? hd)
    refine s_set S' (e_step mv (.inl rfl) (e_var rfl) (e_var rfl) (e_var rfl) hdl (run_lt mv (fun d h => hw d (List.mem_of_mem_take h)) hs)) fun v G2 H2 S2 => ?_
    refine ⟨_, G2, _, ⟨rfl, rfl⟩, ?_⟩
    rw [take_succ_at hd, run_snoc]
    exact S2.forget 3
  · obtain ⟨rfl, rfl⟩ := pv
    refine s_retF S' (e_var rfl) (fun d h => h.trans ?_) k fun b h => h
    have e : ((nsD w).map Bd.d).length = w.length := by
      unfold nsD
      rw [List.length_map, List.length_map]
    rw [e, List.take_length]
end Ag

/-! Plain: logs in the order of length, then of deeds; the walk in breadth. -/
namespace Ag
/-- of one length: the first deed that differs tells -/
def lx : List Nat → List Nat → Prop
  | a :: u, b :: v => a < b ∨ (a = b ∧ lx u v)
  | _, _ => False
def sl (u v : List Nat) : Prop := u.length < v.length ∨ (u.length = v.length ∧ lx u v)
theorem lx_irr : ∀ u : List Nat, ¬ lx u u
  | [], h => h
  | a :: u, h => by
    rcases h with h | h
    · omega
    · exact lx_irr u h.2
theorem lx_trans : ∀ {u v w : List Nat}, lx u v → lx v w → lx u w
  | [], _, _, h, _ => by cases h
  | _ :: _, [], _, h, _ => by cases h
  | _ :: _, _ :: _, [], _, h => by cases h
  | a :: u, b :: v, c :: w, h, k => by
    rcases h with h | ⟨rfl, h⟩ <;> rcases k with k | ⟨rfl, k⟩
    · exact .inl (by omega)
    · exact .inl h
    · exact .inl k
    · exact .inr ⟨rfl, lx_trans h k⟩
theorem lx_snoc : ∀ {u v : List Nat} (d e : Nat), u.length = v.length → lx u v → lx (u ++ [d]) (v ++ [e])
  | [], _, _, _, _, h => by cases h
  | _ :: _, [], _, _, _, h => by cases h
  | a :: u, b :: v, d, e, l, h => by
    rcases h with h | ⟨rfl, h⟩
    · exact .inl h
    · exact .inr ⟨rfl, lx_snoc d e (by simpa using l) h⟩
theorem lx_last {d e : Nat} (h : d < e) : ∀ u : List Nat, lx (u ++ [d]) (u ++ [e])
  | [] => .inl h
  | a :: u => .inr ⟨rfl, lx_last h u⟩
theorem sl_irr (u : List Nat) : ¬ sl u u := fun h => by
  rcases h with h | h
  · omega
  · exact lx_irr u h.2
theorem sl_trans {u v w : List Nat} (h : sl u v) (k : sl v w) : sl u w := by
  rcases h with h | h <;> rcases k with k | k
  · exact .inl (by omega)
  · exact .inl (by omega)
  · exact .inl (by omega)
  · exact .inr ⟨by omega, lx_trans h.2 k.2⟩
theorem sl_snoc {u v : List Nat} (d e : Nat) (h : sl u v) : sl (u ++ [d]) (v ++ [e]) := by
  rcases h with h | h
  · exact .inl (by simp; omega)
  · exact .inr ⟨by simp; omega, lx_snoc d e h.1 h.2⟩
theorem sl_last {d e : Nat} (h : d < e) (u : List Nat) : sl (u ++ [d]) (u ++ [e]) := .inr ⟨by simp, lx_last h u⟩
theorem sl_more (u : List Nat) (d : Nat) : sl u (u ++ [d]) := .inl (by simp)
def sle (u v : List Nat) : Prop := u = v ∨ sl u v
theorem sle_trans {u v w : List Nat} (h : sle u v) (k : sle v w) : sle u w := by
  rcases h with rfl | h
  · exact k
  · rcases k with rfl | k
    · exact .inr h
    · exact .inr (sl_trans h k)
theorem sle_anti {u v : List Nat} (h : sle u v) (k : sle v u) : u = v := by
  rcases h with rfl | h
  · rfl
  · rcases k with rfl | k
    · rfl
    · exact absurd (sl_trans h k) (sl_irr u)
theorem sle_snoc {u v : List Nat} (d : Nat) (h : sle u v) : sle (u ++ [d]) (v ++ [d]) := by
  rcases h with rfl | h
  · exact .inl rfl
  · exact .inr (sl_snoc d d h)

section
variable {α : Type} (k : Nat) (f : α → Nat → α) (a : α)
structure Bq (es : List (α × List Nat)) (at' d : Nat) : Prop where
  R : ∀ e ∈ es, e.1 = e.2.foldl f a ∧ ∀ x ∈ e.2, x < k
  S : (es.map (·.2)).Pairwise sl
  K : ∀ i e, es[i]? = some e → ∀ c, c < k → (i < at' ∨ (i = at' ∧ c < d)) → ∃ e' ∈ es, e'.1 = f e.1 c ∧ sle e'.2 (e.2 ++ [c])
  T : ∀ i e, es[i]? = some e → ∀ c, ¬ (i < at' ∨ (i = at' ∧ c < d)) → ∀ e' ∈ es, sl e'.2 (e.2 ++ [c])
  Z : (a, []) ∈ es
  N : (es.map (·.1)).Nodup
  L : ∀ (i : Nat) (e : α × List Nat), es[i]? = some e → e.2.length ≤ i
/-- all that can be reached, each with its first log -/
structure Bfs (es : List (α × List Nat)) : Prop where
  R : ∀ e ∈ es, e.1 = e.2.foldl f a ∧ ∀ x ∈ e.2, x < k
  S : (es.map (·.2)).Pairwise sl
  C : ∀ v : List Nat, (∀ x ∈ v, x < k) → ∃ e ∈ es, e.1 = v.foldl f a ∧ sle e.2 v
  L : ∀ e ∈ es, e.2.length ≤ es.length
variable {k f a} {es : List (α × List Nat)} {at' d : Nat}
theorem Bq.start : Bq k f a [(a, [])] 0 0 where
  R := fun e h => by
    obtain rfl := List.mem_singleton.mp h
    exact ⟨rfl, fun x h => by cases h⟩
  S := by simp
  K := fun i e h c _ q => by omega
  T := fun i e h c _ e' h' => by
    obtain rfl := List.mem_singleton.mp h'
    exact .inl (by simp)
  Z := by simp
  N := by simp
  L := fun i e h => by
    obtain rfl := List.mem_singleton.mp (List.mem_of_getElem? h)
    exact Nat.zero_le _
theorem Bq.seen (b : Bq k f a es at' d) {x : α} {w : List Nat} (hx : es[at']? = some (x, w)) (h : f x d ∈ es.map (·.1)) : Bq k f a es at' (d + 1) := by
  refine ⟨b.R, b.S, fun i e hi c hc q => ?_, fun i e hi c q e' he => b.T i e hi c (by omega) e' he, b.Z, b.N, b.L⟩
  by_cases z : i < at' ∨ (i = at' ∧ c < d)
  · exact b.K i e hi c hc z
  · obtain rfl : i = at' := by omega
    obtain rfl : c = d := by omega
    rw [hx] at hi
    cases hi
    obtain ⟨e', he, e1⟩ := List.mem_map.mp h
    exact ⟨e', he, e1, .inr (b.T i _ hx c (by omega) e' he)⟩
theorem get_sorted {l : List (α × List Nat)} (h : (l.map (·.2)).Pairwise sl) {i j : Nat} {x y : α × List Nat} (hi : l[i]? = some x) (hj : l[j]? = some y) (lt : i < j) : sl x.2 y.2 := by
  rw [List.pairwise_iff_getElem] at h
  have li := (List.getElem?_eq_some_iff.mp hi)
  have lj := (List.getElem?_eq_some_iff.mp hj)
  obtain ⟨li1, li2⟩ := li
  obtain ⟨lj1, lj2⟩ := lj
  have := h i j (by simpa using li1) (by simpa using lj1) lt
  simp only [List.getElem_map] at this
  rw [li2, lj2] at this
  exact this
theorem Bq.new (b : Bq k f a es at' d) {x : α} {w : List Nat} (hx : es[at']? = some (x, w)) (hd : d < k) (h : f x d ∉ es.map (·.1)) : Bq k f a (es ++ [(f x d, w ++ [d])]) at' (d + 1) := by
  have hxm := List.mem_of_getElem? hx
  have hl := (List.getElem?_eq_some_iff.mp hx).1
  have lt : ∀ e ∈ es, sl e.2 (w ++ [d]) := fun e he => b.T at' _ hx d (by omega) e he
  refine ⟨fun e he => ?_, ?_, fun i e hi c hc q => ?_, fun i e hi c q e' he => ?_, by simp [b.Z], ?_, fun i e hi => ?_⟩
  · rcases List.mem_append.mp he with he | he
    · exact b.R e he
    · obtain rfl := List.mem_singleton.mp he
      obtain ⟨r1, r2⟩ := b.R _ hxm
      refine ⟨?_, fun y hy => ?_⟩
      · show f x d = (w ++ [d]).foldl f a
        rw [List.foldl_append, ← r1]
        rfl
      · rcases List.mem_append.mp hy with hy | hy
        · exact r2 y hy
        · obtain rfl := List.mem_singleton.mp hy
          exact hd
  · rw [List.map_append]
    refine List.pairwise_append.mpr ⟨b.S, by simp, fun u hu v hv => ?_⟩
    obtain ⟨e, he, rfl⟩ := List.mem_map.mp hu
    have hv : v = w ++ [d] := by simpa using hv
    subst hv
    exact lt e he
  · have hi' : es[i]? = some e := by rwa [List.getElem?_append_left (by omega)] at hi
    by_cases z : i < at' ∨ (i = at' ∧ c < d)
    · obtain ⟨e', he, q1⟩ := b.K i e hi' c hc z
      exact ⟨e', by simp [he], q1⟩
    · obtain rfl : i = at' := by omega
      obtain rfl : c = d := by omega
      rw [hx] at hi'
      cases hi'
      exact ⟨(f x c, w ++ [c]), by simp, rfl, .inl rfl⟩
  · have ce : es[i]? = some e ∨ e = (f x d, w ++ [d]) := by
      by_cases z : i < es.length
      · rw [List.getElem?_append_left z] at hi
        exact .inl hi
      · rw [List.getElem?_append_right (by omega)] at hi
        right
        have := List.mem_of_getElem? hi
        simpa using this
    rcases ce with ce | rfl
    · rcases List.mem_append.mp he with he | he
      · exact b.T i e ce c (by omega) e' he
      · obtain rfl := List.mem_singleton.mp he
        show sl (w ++ [d]) (e.2 ++ [c])
        by_cases z : i = at'
        · subst z
          rw [hx] at ce
          cases ce
          exact sl_last (by omega) w
        · exact sl_snoc d c (get_sorted b.S hx ce (by omega))
    · rcases List.mem_append.mp he with he | he
      · exact sl_trans (lt e' he) (sl_more _ _)
      · obtain rfl := List.mem_singleton.mp he
        exact sl_more _ _
  · rw [List.map_append]
    refine List.nodup_append.mpr ⟨b.N, by simp, fun u hu v hv => ?_⟩
    have hv : v = f x d := by simpa using hv
    subst hv
    exact fun z => h (z ▸ hu)
  · by_cases z : i < es.length
    · rw [List.getElem?_append_left z] at hi
      exact b.L i e hi
    · rw [List.getElem?_append_right (by omega)] at hi
      have := List.mem_of_getElem? hi
      obtain rfl : e = (f x d, w ++ [d]) := by simpa using this
      have := b.L at' _ hx
      simp only [List.length_append, List.length_cons, List.length_nil] at this ⊢
      omega
theorem Bq.next (b : Bq k f a es at' k) : Bq k f a es (at' + 1) 0 := by
  refine ⟨b.R, b.S, fun i e hi c hc q => b.K i e hi c hc (by omega), fun i e hi c q e' he => b.T i e hi c (by omega) e' he, b.Z, b.N, b.L⟩
theorem Bq.done (b : Bq k f a es at' d) (h : es.length ≤ at') : Bfs k f a es := by
  refine ⟨b.R, b.S, fun v hv => ?_, fun e he => by
    obtain ⟨i, hi⟩ := List.mem_iff_getElem?.mp he
    have := b.L i e hi
    have := (List.getElem?_eq_some_iff.mp hi).1
    omega⟩
  suffices H : ∀ n (v : List Nat), v.length = n → (∀ x ∈ v, x < k) → ∃ e ∈ es, e.1 = v.foldl f a ∧ sle e.2 v from H _ v rfl hv
  intro n
  induction n with
  | zero =>
    intro v hl _
    obtain rfl := List.eq_nil_of_length_eq_zero hl
    exact ⟨_, b.Z, rfl, .inl rfl⟩
  | succ n ih =>
    intro v hl hv
    have hne : v ≠ [] := fun q => by rw [q] at hl; simp at hl
    have hv2 := List.dropLast_concat_getLast hne
    obtain ⟨e, he, e1, e2⟩ := ih v.dropLast (by rw [List.length_dropLast, hl]; rfl) (fun x hx => hv x (List.dropLast_subset _ hx))
    obtain ⟨i, hi⟩ := List.mem_iff_getElem?.mp he
    have hi2 := (List.getElem?_eq_some_iff.mp hi).1
    obtain ⟨e', he', q1, q2⟩ := b.K i e hi (v.getLast hne) (hv _ (List.getLast_mem hne)) (by omega)
    refine ⟨e', he', ?_, ?_⟩
    · rw [q1, e1]
      conv => rhs; rw [← hv2, List.foldl_append]
      rfl
    · rw [← hv2]
      exact sle_trans q2 (sle_snoc _ e2)
/-- the first one of a kind -/
theorem Bfs.first (b : Bfs k f a es) (p : α → Bool) {e : α × List Nat} (h : (es.filter fun e => p e.1).head? = some e) : p e.1 = true ∧ e ∈ es ∧ ∀ v : List Nat, (∀ x ∈ v, x < k) → p (v.foldl f a) = true → sle e.2 v := by
  have hm := List.mem_of_head? h
  rw [List.mem_filter] at hm
  refine ⟨hm.2, hm.1, fun v hv hp => ?_⟩
  obtain ⟨e', he', q1, q2⟩ := b.C v hv
  have hm' : e' ∈ es.filter fun e => p e.1 := List.mem_filter.mpr ⟨he', by rw [q1]; exact hp⟩
  refine sle_trans ?_ q2
  cases hf : es.filter fun e => p e.1 with
  | nil =>
    rw [hf] at h
    cases h
  | cons y ys =>
    rw [hf] at h hm'
    cases h
    rcases List.mem_cons.mp hm' with rfl | z
    · exact .inl rfl
    · right
      have s2 : ((es.filter fun e => p e.1).map (·.2)).Pairwise sl := b.S.sublist ((List.filter_sublist).map _)
      rw [hf, List.map_cons, List.pairwise_cons] at s2
      exact s2.1 _ (List.mem_map.mpr ⟨e', z, rfl⟩)
end
/-- two walks that tell alike -/
theorem Bfs.same {α β : Type} {k : Nat} {f : α → Nat → α} {a : α} {g : β → Nat → β} {b : β} {es : List (α × List Nat)} {es' : List (β × List Nat)} (h1 : Bfs k f a es) (h2 : Bfs k g b es') (p : α → Bool) (q : β → Bool)
    (hpq : ∀ v : List Nat, (∀ x ∈ v, x < k) → p (v.foldl f a) = q (v.foldl g b)) : ((es.filter fun e => p e.1).head?).map (·.2) = ((es'.filter fun e => q e.1).head?).map (·.2) := by
  cases e1 : (es.filter fun e => p e.1).head? with
  | none =>
    cases e2 : (es'.filter fun e => q e.1).head? with
    | none => rfl
    | some y =>
      obtain ⟨c1, c2, _⟩ := h2.first q e2
      obtain ⟨r1, r2⟩ := h2.R y c2
      obtain ⟨e, he, d1, _⟩ := h1.C y.2 r2
      have : e ∈ es.filter fun e => p e.1 := List.mem_filter.mpr ⟨he, by rw [d1, hpq _ r2, ← r1]; exact c1⟩
      rw [List.head?_eq_none_iff] at e1
      rw [e1] at this
      cases this
  | some x =>
    obtain ⟨b1, b2, b3⟩ := h1.first p e1
    obtain ⟨r1, r2⟩ := h1.R x b2
    cases e2 : (es'.filter fun e => q e.1).head? with
    | none =>
      obtain ⟨e, he, d1, _⟩ := h2.C x.2 r2
      have : e ∈ es'.filter fun e => q e.1 := List.mem_filter.mpr ⟨he, by rw [d1, ← hpq _ r2, ← r1]; exact b1⟩
      rw [List.head?_eq_none_iff] at e2
      rw [e2] at this
      cases this
    | some y =>
      obtain ⟨c1, c2, c3⟩ := h2.first q e2
      obtain ⟨s1, s2⟩ := h2.R y c2
      show some x.2 = some y.2
      rw [sle_anti (b3 y.2 s2 (by rw [hpq _ s2, ← s1]; exact c1)) (c3 x.2 r2 (by rw [← hpq _ r2, ← r1]; exact b1))]

/-! ### counting -/
theorem nodup_len {α : Type} [DecidableEq α] : ∀ {l m : List α}, l.Nodup → (∀ x ∈ l, x ∈ m) → l.length ≤ m.length
  | [], _, _, _ => Nat.zero_le _
  | x :: l, m, hn, h => by
    rw [List.nodup_cons] at hn
    have hx := h x (by simp)
    have := nodup_len (l := l) (m := m.erase x) hn.2 fun y hy => by
      have : y ≠ x := fun q => hn.1 (q ▸ hy)
      exact (List.mem_erase_of_ne this).mpr (h y (by simp [hy]))
    rw [List.length_erase_of_mem hx] at this
    have : 0 < m.length := List.length_pos_of_mem hx
    simp only [List.length_cons]
    omega
def subs {α : Type} : List α → List (List α)
  | [] => [[]]
  | x :: l => subs l ++ (subs l).map (x :: ·)
theorem subs_len {α : Type} : ∀ l : List α, (subs l).length = 2 ^ l.length
  | [] => rfl
  | x :: l => by
    simp only [subs, List.length_append, List.length_map, List.length_cons, subs_len l, Nat.pow_succ]
    omega
theorem mem_subs {α : Type} (p : α → Bool) : ∀ l : List α, l.filter p ∈ subs l
  | [] => by simp [subs]
  | x :: l => by
    have := mem_subs p l
    simp only [subs, List.mem_append, List.mem_map]
    by_cases h : p x = true
    · rw [List.filter_cons_of_pos h]
      exact .inr ⟨_, this, rfl⟩
    · rw [List.filter_cons_of_neg h]
      exact .inl this
def maps (n : Nat) : Nat → List (List Nat)
  | 0 => [[]]
  | k + 1 => (List.range n).flatMap fun x => (maps n k).map (x :: ·)
theorem flat_len {α β : Type} {g : α → List β} {c : Nat} : ∀ l : List α, (∀ x ∈ l, (g x).length = c) → (l.flatMap g).length = l.length * c
  | [], _ => by simp
  | x :: l, h => by
    rw [List.flatMap_cons, List.length_append, h x (by simp), flat_len l (fun y hy => h y (by simp [hy])), List.length_cons, Nat.add_mul]
    omega
theorem maps_len (n : Nat) : ∀ k, (maps n k).length = n ^ k
  | 0 => rfl
  | k + 1 => by
    show ((List.range n).flatMap _).length = _
    rw [flat_len (c := n ^ k) _ (fun x _ => by rw [List.length_map, maps_len n k]), List.length_range, Nat.pow_succ, Nat.mul_comm]
theorem mem_maps {n : Nat} : ∀ {k : Nat} {l : List Nat}, l.length = k → (∀ x ∈ l, x < n) → l ∈ maps n k
  | 0, l, h, _ => by
    rw [List.eq_nil_of_length_eq_zero h]
    simp [maps]
  | k + 1, [], h, _ => by simp at h
  | k + 1, x :: l, h, hx => by
    refine List.mem_flatMap.mpr ⟨x, List.mem_range.mpr (hx x (by simp)), List.mem_map.mpr ⟨l, mem_maps (by simpa using h) (fun y hy => hx y (by simp [hy])), rfl⟩⟩

/-! ### lots -/
def sd (n : Nat) (l : List Nat) : List Nat := (List.range n).filter fun x => decide (x ∈ l)
theorem mem_sd {n : Nat} {l : List Nat} {x : Nat} : x ∈ sd n l ↔ x < n ∧ x ∈ l := by
  unfold sd
  rw [List.mem_filter, List.mem_range, decide_eq_true_eq]
theorem range_lt (n : Nat) : (List.range n).Pairwise (· < ·) := by
  rw [List.pairwise_iff_getElem]
  intro i j h1 h2 h
  simp only [List.getElem_range]
  exact h
theorem sd_sorted (n : Nat) (l : List Nat) : (sd n l).Pairwise (· < ·) := (range_lt n).sublist List.filter_sublist
/-- two rising lists of the same numbers are one -/
theorem sorted_eq : ∀ {l m : List Nat}, l.Pairwise (· < ·) → m.Pairwise (· < ·) → (∀ x, x ∈ l ↔ x ∈ m) → l = m
  | [], [], _, _, _ => rfl
  | [], y :: m, _, _, h => by
    have := (h y).mpr (by simp)
    cases this
  | x :: l, [], _, _, h => by
    have := (h x).mp (by simp)
    cases this
  | x :: l, y :: m, h1, h2, h => by
    rw [List.pairwise_cons] at h1 h2
    have hx : x = y ∨ x ∈ m := List.mem_cons.mp ((h x).mp (by simp))
    have hy : y = x ∨ y ∈ l := List.mem_cons.mp ((h y).mpr (by simp))
    have e : x = y := by
      rcases hx with hx | hx
      · exact hx
      · rcases hy with hy | hy
        · exact hy.symm
        · have := h2.1 x hx
          have := h1.1 y hy
          omega
    subst e
    rw [sorted_eq h1.2 h2.2 fun z => ?_]
    constructor
    · intro hz
      rcases List.mem_cons.mp ((h z).mp (by simp [hz])) with q | q
      · have := h1.1 z hz
        omega
      · exact q
    · intro hz
      rcases List.mem_cons.mp ((h z).mpr (by simp [hz])) with q | q
      · have := h2.1 z hz
        omega
      · exact q
theorem sd_unique {n : Nat} {l m : List Nat} (h1 : m.Pairwise (· < ·)) (h2 : ∀ x, x ∈ m ↔ x ∈ l) (h3 : ∀ x ∈ l, x < n) : m = sd n l := sorted_eq h1 (sd_sorted n l) fun x => by
  rw [h2, mem_sd]
  exact ⟨fun h => ⟨h3 x h, h⟩, fun h => h.2⟩
end Ag

/-! lots_met, narrowest, width, width_log. -/
namespace Ag
open PySem PySem.Spec PyProof.Rows L2
def zs (l : List Nat) : List Int := l.map fun n : Nat => (n : Int)
theorem zs_int (l : List Nat) : (zs l).map PyData.int = l.map fun n => PyData.int (n : Nat) := by
  unfold zs
  rw [List.map_map]
  rfl
theorem tnD_zs (l : List Nat) : tnD l = .tuple ((zs l).map .int) := by rw [zs_int]; rfl
theorem zs_inj {a b : List Nat} (h : zs a = zs b) : a = b := by
  have := congrArg (List.map PyData.int) h
  rw [zs_int, zs_int] at this
  exact nats_inj this
theorem mem_zs {l : List Nat} {k : Int} : k ∈ zs l ↔ ∃ n : Nat, n ∈ l ∧ k = (n : Int) := by
  unfold zs
  rw [List.mem_map]
  constructor
  · rintro ⟨n, h, rfl⟩
    exact ⟨n, h, rfl⟩
  · rintro ⟨n, h, rfl⟩
    exact ⟨n, h, rfl⟩
theorem zs_sd {n : Nat} {ns : List Int} {l : List Nat} (hs : ns.Pairwise (· < ·)) (hm : ∀ k, k ∈ ns ↔ k ∈ zs l) (hl : ∀ x ∈ l, x < n) : ns = zs (sd n l) := by
  have h1 : ∀ k ∈ ns, ((k.toNat : Nat) : Int) = k := fun k hk => by
    obtain ⟨x, _, rfl⟩ := mem_zs.mp ((hm k).mp hk)
    omega
  have h2 : zs (ns.map Int.toNat) = ns := by
    unfold zs
    rw [List.map_map]
    exact (List.map_congr_left (g := id) h1).trans (List.map_id _)
  have h3 : ns.map Int.toNat = sd n l := by
    refine sd_unique ?_ (fun x => ?_) hl
    · rw [List.pairwise_map]
      refine hs.imp_of_mem fun {a b} ha hb lt => ?_
      have := h1 a ha
      have := h1 b hb
      omega
    · constructor
      · intro hx
        obtain ⟨k, hk, rfl⟩ := List.mem_map.mp hx
        obtain ⟨y, hy, e⟩ := mem_zs.mp ((hm k).mp hk)
        have : k.toNat = y := by omega
        rw [this]
        exact hy
      · intro hx
        exact List.mem_map.mpr ⟨(x : Int), (hm _).mpr (mem_zs.mpr ⟨x, hx, rfl⟩), by omega⟩
  rw [← h2, h3]
theorem ddS_mem {acc : List Int} {k x : Int} : x ∈ ddS acc k ↔ x ∈ acc ∨ x = k := by
  unfold ddS
  by_cases h : k ∈ acc
  · rw [if_pos h]
    constructor
    · exact .inl
    · rintro (q | rfl)
      · exact q
      · exact h
  · rw [if_neg h, List.mem_append, List.mem_singleton]
theorem ddS_nodup {acc : List Int} {k : Int} (h : acc.Nodup) : (ddS acc k).Nodup := by
  unfold ddS
  by_cases q : k ∈ acc
  · rw [if_pos q]
    exact h
  · rw [if_neg q]
    refine List.nodup_append.mpr ⟨h, by simp, fun a ha b hb z => ?_⟩
    have hb : b = k := by simpa using hb
    subst hb
    exact q (z ▸ ha)
theorem ddK_facts (l : List Int) : (∀ x, x ∈ ddK l ↔ x ∈ l) ∧ (ddK l).Nodup := by
  unfold ddK
  suffices H : ∀ (l acc : List Int), acc.Nodup → (∀ x, x ∈ l.foldl ddS acc ↔ x ∈ acc ∨ x ∈ l) ∧ (l.foldl ddS acc).Nodup by
    obtain ⟨h1, h2⟩ := H l [] .nil
    exact ⟨fun x => by rw [h1]; simp, h2⟩
  intro l
  induction l with
  | nil => exact fun acc h => ⟨fun x => by simp, h⟩
  | cons k l ih =>
    intro acc h
    obtain ⟨h1, h2⟩ := ih (ddS acc k) (ddS_nodup h)
    refine ⟨fun x => ?_, h2⟩
    rw [List.foldl_cons, h1, ddS_mem, List.mem_cons, or_assoc]
theorem lt_of_le_nodup {l : List Int} (h : l.Pairwise (· ≤ ·)) (n : l.Nodup) : l.Pairwise (· < ·) := by
  refine (h.and n).imp fun {a b} z => ?_
  have := z.1
  have := z.2
  omega
/-- behind a deed: the lot -/
def lotF (ts : List (List Nat)) (n : Nat) (lot : List Nat) (d : Nat) : List Nat := sd n (lot.map (step ts d))
theorem nsD_nth {l : List Nat} {i : Nat} {x : PyData} (h : (nsD l)[i]? = some x) : ∃ n, l[i]? = some n ∧ x = .int (n : Nat) := by
  unfold nsD at h
  rw [List.getElem?_map] at h
  cases q : l[i]? with
  | none =>
    rw [q] at h
    cases h
  | some n =>
    rw [q] at h
    cases h
    exact ⟨n, rfl, rfl⟩
theorem mem_nsD {l : List Nat} {x : PyData} (h : x ∈ nsD l) : ∃ n ∈ l, x = .int (n : Nat) := by
  obtain ⟨n, hn, rfl⟩ := List.mem_map.mp h
  exact ⟨n, hn, rfl⟩
theorem e_later {N : Nv} {M : Mm} {Γ : Cnt} {ts : List (List Nat)} {n d : Nat} {lot : List Nat} (mv : MV ts n) (hd : d < ts.length) (hl : ∀ x ∈ lot, x < n) (hz : lot.length ≤ 90000) (h5 : Γ[5]? = some (some (.d (tnD lot)))) (h7 : Γ[7]? = some (some (.d (tnD (ts.getD d []))))) (h9 : 9 < Γ.length) :
    E1 N M Γ (tCB (rTup N.K) (tCons (tCB (rSrt N.K N.w) (tCons (tCB (rLst N.K) (tCons (tDc (iSeq N.K (tVar 5)) (gName 9) tYes (tOp (rIx N.K) (tVar 7) (tVar 9)) (tC (.bl true)) [9]) tNil)) tNil)) tNil)) (.d (tnD (lotF ts n lot d))) := by
  have h7' : ∀ x, ((wipeG Γ [9]).set 9 (some x))[7]? = some (some (.d (tnD (ts.getD d [])))) := fun x => by
    show ((Γ.set 9 none).set 9 (some x))[7]? = _
    rw [List.getElem?_set_ne (by decide), List.getElem?_set_ne (by decide)]
    exact h7
  have h9' : ∀ x, ((wipeG Γ [9]).set 9 (some x))[9]? = some (some x) := fun x => List.getElem?_set_self (by show 9 < (Γ.set 9 none).length; rw [List.length_set]; exact h9)
  have k1 := e_dc (N := N) (M := M) (Γ := Γ) (wi := iSeq N.K (tVar 5)) (g := gName 9) (tk := tOp (rIx N.K) (tVar 7) (tVar 9)) (tv := tC (.bl true)) (vs := [9]) (xs := (nsD lot).map Bd.d) (fun x => (wipeG Γ [9]).set 9 (some x)) (fun x => match x with | .d (.int i) => (step ts d i.toNat : Nat) | _ => 0)
    (i_seq (e_var h5) (.inl rfl)).i (by rw [List.length_map]; unfold nsD; rw [List.length_map]; exact hz) (fun x _ => g_name) (fun x hx => by
      obtain ⟨y, hy, rfl⟩ := List.mem_map.mp hx
      obtain ⟨s, hs, rfl⟩ := mem_nsD hy
      obtain ⟨a1, a2, _⟩ := mv.at hd (hl s hs)
      refine e_ixT (j := s) (e_var (h7' _)) (e_var (h9' _)) ?_
      rw [List.getElem?_map, a2]
      rfl) (fun x hx => ⟨_, e_bl⟩)
  have e0 : ((nsD lot).map Bd.d).map (fun x => match x with | .d (.int i) => ((step ts d i.toNat : Nat) : Int) | _ => 0) = zs (lot.map (step ts d)) := by
    unfold nsD zs
    rw [List.map_map, List.map_map, List.map_map]
    rfl
  rw [e0] at k1
  have k2 := ev_cb (ev_cons (e_cb (a_cons k1 a_nil) rc_lst_ks) a_nil (PB := fun bs => bs = [.d (.list ((ddK (zs (lot.map (step ts d)))).map .int))]) fun d ds e1 e2 => by rw [e1, e2]) (r := rSrt N.K N.w) (fun bs e => by
    subst e
    exact rc_srt)
  refine ev_cb (ev_cons k2 a_nil (PB := fun bs => bs = [.d (.list ((lotF ts n lot d).map fun n => .int (n : Nat)))]) fun b bs e1 e2 => ?_) fun bs e => by
    subst e
    exact rc_tup (.inr rfl)
  subst e2
  obtain ⟨ns', pm, pw, rfl⟩ := e1
  obtain ⟨f1, f2⟩ := ddK_facts (zs (lot.map (step ts d)))
  have e3 : ns' = zs (lotF ts n lot d) := zs_sd (lt_of_le_nodup pw (pm.nodup_iff.mpr f2)) (fun k => by rw [pm.mem_iff, f1]) fun x hx => by
    obtain ⟨y, hy, rfl⟩ := List.mem_map.mp hx
    exact (mv.at hd (hl y hy)).2.2
  rw [e3, zs_int]
/-- the dict that the lots stand in -/
def esD (es : List (List Nat × List Nat)) : List (List Int × PyData) := es.map fun e => (zs e.1, tnD e.2)
theorem esD_none {es : List (List Nat × List Nat)} {x : List Nat} : (lkE (esD es) (zs x)).isNone = true ↔ x ∉ es.map (·.1) := by
  induction es with
  | nil => simp [lkE, esD]
  | cons e es ih =>
    by_cases q : e.1 = x
    · have : lkE (esD (e :: es)) (zs x) = some (tnD e.2) := by
        unfold lkE esD
        rw [List.map_cons, List.find?_cons_of_pos (by simp [q])]
        rfl
      rw [this]
      simp [q]
    · have : lkE (esD (e :: es)) (zs x) = lkE (esD es) (zs x) := by
        unfold lkE esD
        rw [List.map_cons, List.find?_cons_of_neg (by simp; exact fun z => q (zs_inj z))]
      rw [this, ih]
      simp only [List.map_cons, List.mem_cons, not_or]
      exact ⟨fun h => ⟨fun z => q z.symm, h⟩, fun h => h.2⟩
theorem esD_some {es : List (List Nat × List Nat)} {x w : List Nat} (hn : (es.map (·.1)).Nodup) (h : (x, w) ∈ es) : lkE (esD es) (zs x) = some (tnD w) := by
  induction es with
  | nil => cases h
  | cons e es ih =>
    rw [List.map_cons, List.nodup_cons] at hn
    by_cases q : e.1 = x
    · rcases List.mem_cons.mp h with rfl | z
      · unfold lkE esD
        rw [List.map_cons, List.find?_cons_of_pos (by simp)]
        rfl
      · exact absurd (List.mem_map.mpr ⟨_, z, q.symm⟩) hn.1
    · have : lkE (esD (e :: es)) (zs x) = lkE (esD es) (zs x) := by
        unfold lkE esD
        rw [List.map_cons, List.find?_cons_of_neg (by simp; exact fun z => q (zs_inj z))]
      rw [this]
      rcases List.mem_cons.mp h with rfl | z
      · exact absurd rfl q
      · exact ih hn.2 z
theorem lot_filter {ts : List (List Nat)} {n : Nat} (w : List Nat) : ∃ p, w.foldl (lotF ts n) (List.range n) = (List.range n).filter p := by
  rcases List.eq_nil_or_concat w with rfl | ⟨w', d, rfl⟩
  · exact ⟨fun _ => true, (filter_yes _).symm⟩
  · refine ⟨fun x => decide (x ∈ (w'.foldl (lotF ts n) (List.range n)).map (step ts d)), ?_⟩
    rw [List.concat_eq_append, List.foldl_append]
    rfl
theorem lots_few {ts : List (List Nat)} {n k at' d : Nat} {es : List (List Nat × List Nat)} (b : Bq k (lotF ts n) (List.range n) es at' d) : es.length ≤ 2 ^ n ∧ ∀ e ∈ es, (∀ x ∈ e.1, x < n) ∧ e.1.length ≤ n := by
  have h : ∀ e ∈ es, ∃ p, e.1 = (List.range n).filter p := fun e he => by
    obtain ⟨p, hp⟩ := lot_filter (ts := ts) (n := n) e.2
    exact ⟨p, (b.R e he).1.trans hp⟩
  refine ⟨?_, fun e he => ?_⟩
  · have := nodup_len (m := subs (List.range n)) b.N fun x hx => by
      obtain ⟨e, he, rfl⟩ := List.mem_map.mp hx
      obtain ⟨p, hp⟩ := h e he
      rw [hp]
      exact mem_subs p _
    rw [subs_len, List.length_range, List.length_map] at this
    exact this
  · obtain ⟨p, hp⟩ := h e he
    rw [hp]
    refine ⟨fun x hx => ?_, ?_⟩
    · have := (List.mem_filter.mp hx).1
      exact List.mem_range.mp this
    · have := List.length_filter_le p (List.range n)
      rw [List.length_range] at this
      exact this
def Rl_lots_met : RltD := fun bs P => ∃ (ts : List (List Nat)) (n : Nat), bs = [.m ts] ∧ MV ts n ∧ P = fun esd => ∃ es, esd = esD es ∧ Bfs ts.length (lotF ts n) (List.range n) es ∧ es.length ≤ 4096 ∧ (∀ e ∈ es, e.1.length ≤ 12) ∧ es ≠ []
theorem zs_range (n : Nat) : tnD (List.range n) = .tuple ((zs (List.range n)).map .int) := tnD_zs _
theorem pow_4096 {n : Nat} (h : n ≤ 12) : 2 ^ n ≤ 4096 := by
  have : (2 : Nat) ^ n ≤ 2 ^ 12 := Nat.pow_le_pow_right (by decide) h
  simpa using this
theorem W_lots_met (N : Nv) (mc : Mc N) : WalkD N (R_lots_met N) Rl_lots_met 9 := by
  rintro bs P ⟨ts, n, rfl, mv, rfl⟩ G H σ D S k
  have n12 := mv.n12
  have h2n := pow_4096 n12
  refine q_set (b := .d (tnD (List.range n))) S (e_tupRg (by rw [← mv.hd]; exact e_states mc (e_var rfl)) (by omega)) fun v1 G1 H1 S1 => ?_
  refine q_newD (ns := zs (List.range n)) (x := tnD []) S1 (fun M' => (e_var rfl).to (by rw [zs_range])) (fun M' => e_tup (ds := []) a_nil) fun pf G2 H2 S2 => ?_
  refine q_newL (ds := [tnD (List.range n)]) S2 (a_cons (e_var rfl) a_nil) (show 1 ≤ 90000 from by decide) fun pw G3 H3 S3 => ?_
  refine q_set (b := .d (.int 0)) S3 e_int fun v4 G4 H4 S4 => ?_
  let Γ (at' : Nat) : Cnt := [some (.m ts), some (.d (tnD (List.range n))), some (.v (.ref pf)), some (.v (.ref pw)), some (.d (.int (at' : Int))), none, none, none, none, none]
  let Mx (es : List (List Nat × List Nat)) : Mm := ⟨[], [(pw, .lst (es.map fun e => tnD e.1)), (pf, .dt (esD es))]⟩
  refine q_while S4 (fun m M' Γ' => ∃ at' es, m = 2 ^ n - at' ∧ Bq ts.length (lotF ts n) (List.range n) es at' 0 ∧ M' = Mx es ∧ Γ' = Γ at') (2 ^ n) ⟨0, [(List.range n, [])], rfl, Bq.start, rfl, rfl⟩ ?_
  rintro m M' Γ' G5 H5 σ5 ⟨at', es, rfl, bq, rfl, rfl⟩ S5
  obtain ⟨few, small⟩ := lots_few bq
  have t0 : E1 N (Mx es) (Γ at') (tCB (rLen N.K N.w) (tCons (tVar 3) tNil)) (.d (.int (es.length : Nat))) := by
    refine e_thaw (j := 0) (i := 3) (l := pw) (ds := es.map fun e => tnD e.1) rfl rfl ?_ rfl
    exact (e_cb (a_cons (e_var rfl) a_nil) (rc_len (.inr rfl))).to (by rw [List.length_map])
  refine ⟨_, t_test (e_op (e_var rfl) t0 rv_B0), fun hc G6 H6 S6 => ?_, fun hc G6 H6 S6 => ?_⟩
  · have hlt : at' < es.length := by simpa using hc
    obtain ⟨⟨x, w⟩, hx⟩ : ∃ e, es[at']? = some e := ⟨_, List.getElem?_eq_getElem hlt⟩
    obtain ⟨sx1, sx2⟩ := small _ (List.mem_of_getElem? hx)
    have hw2 : ((es.map fun e => tnD e.1))[at']? = some (tnD x) := by
      rw [List.getElem?_map, hx]
      rfl
    refine q_set (b := .d (tnD x)) S6 (e_ixR (j := 0) (m := at') rfl (e_var rfl) (e_var rfl) (ixN_nat (by rw [List.length_map]; exact hlt)) hw2) fun v7 G7 H7 S7 => ?_
    refine q_for2 (a := 6) (b := 7) S7 (i_enT (ds := ts.map tnD) (a_cons (e_tables mc (e_var rfl)) a_nil)) (fun y hy => ?_) (fun i M' => ∃ es', M' = Mx es' ∧ Bq ts.length (lotF ts n) (List.range n) es' at' i ∧ es'[at']? = some (x, w)) ⟨es, rfl, bq, hx⟩ (fun i p q M' L' G' H' σ' hp pv S' => ?_) (fun M' G' H' σ' pv S' => ?_)
    · obtain ⟨i, hi⟩ := List.mem_iff_getElem?.mp hy
      obtain ⟨d, _, rfl⟩ := enD_get hi
      exact ⟨_, _, rfl⟩
    · obtain ⟨es', rfl, bq', hx'⟩ := pv
      obtain ⟨dd, hd, e⟩ := enD_get hp
      cases e
      rw [List.getElem?_map] at hd
      obtain ⟨t, ht, rfl⟩ : ∃ t, ts[i]? = some t ∧ tnD t = q := by
        cases y : ts[i]? with
        | none =>
          rw [y] at hd
          cases hd
        | some t =>
          rw [y] at hd
          exact ⟨t, rfl, Option.some.inj hd⟩
      have hi : i < ts.length := (List.getElem?_eq_some_iff.mp ht).1
      have et : t = ts.getD i [] := by
        rw [List.getD_eq_getElem?_getD, ht]
        rfl
      subst et
      obtain ⟨few', small'⟩ := lots_few bq'
      refine q_set (b := .d (tnD (lotF ts n x i))) S' (e_later mv hi sx1 (by simp only at sx2; omega) rfl rfl (by simp [Γ])) fun v8 G8 H8 S8 => ?_
      have en := e_dnin (N := N) (M := Mx es') (Γ := ((((Γ at').set 5 (some (.d (tnD x)))).set 6 (some (.d (.int (i : Nat))))).set 7 (some (.d (tnD (ts.getD i []))))).set 8 (some (.d (tnD (lotF ts n x i))))) (td := tVar 2) (ty := tVar 8) (j := 1) (ns := zs (lotF ts n x i)) rfl (e_var rfl) ((e_var rfl).to (by rw [tnD_zs]))
      by_cases hin : lotF ts n x i ∈ es'.map (·.1)
      · have hf : (lkE (esD es') (zs (lotF ts n x i))).isNone = false := by
          cases hh : (lkE (esD es') (zs (lotF ts n x i))).isNone with
          | false => rfl
          | true => exact absurd hin (esD_none.mp hh)
        rw [hf] at en
        refine s_if S8 (t_B en) (fun h => nomatch h) fun _ G9 H9 S9 => ?_
        exact ⟨_, G9, ⟨es', rfl, bq'.seen hx' hin, hx'⟩, ((S9.forget 6).forget 7).forget 8⟩
      · have hf := esD_none.mpr hin
        rw [hf] at en
        have hfn : lkE (esD es') (zs (lotF ts n x i)) = none := by simpa using hf
        have bq2 := bq'.new hx' hi hin
        refine s_if S8 (t_B en) (fun _ G9 H9 S9 => ?_) (fun h => nomatch h)
        refine q_dput (j := 1) (l := pf) (es := esD es') (ns := zs (lotF ts n x i)) S9 rfl (e_var rfl) ((e_var rfl).to (by rw [tnD_zs])) (e_op (e_dget (j := 1) (ns := zs x) (x := tnD w) rfl (e_var rfl) ((e_var rfl).to (by rw [tnD_zs])) (esD_some bq'.N (List.mem_of_getElem? hx'))) (e_tup (ds := [.int (i : Nat)]) (a_cons (e_var rfl) a_nil)) (rv_catA ?_)) (fun d h => ⟨_, h⟩) hfn ?_ fun y G10 H10 ey S10 => ?_
        · have hwl : w.length ≤ 4096 := by
            have := bq'.L at' _ hx'
            have := (List.getElem?_eq_some_iff.mp hx').1
            have e0 : (x, w).2.length = w.length := rfl
            omega
          simp
          omega
        · unfold esD
          rw [List.length_map]
          omega
        · have ey := bd_inj ey
          have ey2 : y = tnD (w ++ [i]) := by
            rw [ey]
            unfold tnD
            rw [List.map_append]
            rfl
          subst ey2
          refine s_app (j := 0) (l := pw) (ds := es'.map fun e => tnD e.1) S10 rfl (e_var rfl) (e_var rfl) (fun d h => ⟨_, h⟩) (by rw [List.length_map]; omega) fun z G11 H11 ez S11 => ?_
          have ez := bd_inj ez
          subst ez
          refine ⟨_, G11, ⟨es' ++ [(lotF ts n x i, w ++ [i])], ?_, bq2, ?_⟩, ((S11.forget 6).forget 7).forget 8⟩
          · show Mm.mk _ _ = Mm.mk _ _
            congr 1
            simp only [List.set_cons_zero, List.set_cons_succ, List.map_append, esD]
            rfl
          · rw [List.getElem?_append_left (List.getElem?_eq_some_iff.mp hx').1]
            exact hx'
    · obtain ⟨es', rfl, bq', hx'⟩ := pv
      have el : (enD (ts.map tnD)).length = ts.length := by rw [enD_len, List.length_map]
      rw [el] at bq'
      refine s_aug (a := (at' : Int)) (b := 1) S' rfl e_int fun v9 G9 H9 S9 => ?_
      refine ⟨_, _, G9, _, ?_, ⟨at' + 1, es', rfl, bq'.next, rfl, ?_⟩, S9.forget 5⟩
      · omega
      · rfl
  · have hge : es.length ≤ at' := by simpa using hc
    have bd := bq.done hge
    have hne : es ≠ [] := fun q => by
      have := bq.Z
      rw [q] at this
      cases this
    refine s_ret (P := fun d => d = .v (.ref pf)) S6 (e_var rfl) fun v d G7 H7 e S7 hv => ?_
    subst e
    obtain rfl : v = .ref pf := hv
    obtain ⟨rh, gn, _⟩ := S7.mok.res (pf, .dt (esD es)) (List.mem_of_getElem? (i := 1) rfl)
    have hr := S7.rm (pf, .dt (esD es)) (List.mem_of_getElem? (i := 1) rfl)
    exact k pf _ G7 H7 S7.gr hr gn ⟨es, rfl, bd, by omega, fun e he => by have := (small e he).2; omega, hne⟩ rh
end Ag

/-! narrowest, width, width_log. -/
namespace Ag
open PySem PySem.Spec PyProof.Rows L2
section
variable {N : Nv} {M : Mm} {Γ : Cnt}
theorem ev_kw1 {Rl : Rlt} {tk : TA} {b0 : Bd} {P : Bd → Prop} (h : A1 N M Γ tk [b0]) (hr : Rl [b0] [] P) : Ev N M Γ (tKw 1 (Spc N Rl) (fun zs => zs) tk) P := fun G H σ Q s e bx k =>
  h G H σ _ s e bx fun vs bs G1 H1 g1 b1 p1 h1 => by
    subst p1
    exact ⟨h1.length, G1, _, [], _, g1.s, h1, fun b hb => by simp at hb, hr, fun v d G2 H2 g2 bb p h => k v d G2 H2 (g1.trans g2.any) (b1.keep g2) p h⟩
/-- a call that gives some thing and changes nothing -/
theorem ev_callP {Rl : Rlt} {ta : TA} {bs : List Bd} {P : Bd → Prop} (h : A1 N M Γ ta bs) (hr : Rl bs [] P) : Ev N M Γ (tCall (Spc N Rl) [] E0 ta) P := ev_call h fun bs' e => by
  subst e
  exact ⟨[], _, hr, fun _ h => by simp at h, fun _ h => h⟩
end
def lotR (ts : List (List Nat)) (n : Nat) (v : List Nat) : List Nat := v.foldl (lotF ts n) (List.range n)
/-- the least number of states that a log can leave, and the first log that leaves so many -/
structure Nar (ts : List (List Nat)) (n m : Nat) (w : List Nat) : Prop where
  ok : ∀ x ∈ w, x < ts.length
  eq : (lotR ts n w).length = m
  le : ∀ v : List Nat, (∀ x ∈ v, x < ts.length) → m ≤ (lotR ts n v).length
  fst : ∀ v : List Nat, (∀ x ∈ v, x < ts.length) → (lotR ts n v).length = m → sle w v
theorem Nar.uniq {ts : List (List Nat)} {n m m' : Nat} {w w' : List Nat} (a : Nar ts n m w) (b : Nar ts n m' w') : m = m' ∧ w = w' := by
  have h1 : m = m' := by
    have := a.le w' b.ok
    have := b.le w a.ok
    have := a.eq
    have := b.eq
    omega
  subst h1
  exact ⟨rfl, sle_anti (a.fst w' b.ok b.eq) (b.fst w a.ok a.eq)⟩
theorem nar_of {ts : List (List Nat)} {n m : Nat} {es : List (List Nat × List Nat)} {e : List Nat × List Nat} (b : Bfs ts.length (lotF ts n) (List.range n) es) (hm : ∀ e ∈ es, m ≤ e.1.length) (h : (es.filter fun e => decide (e.1.length = m)).head? = some e) : Nar ts n m e.2 := by
  obtain ⟨h1, h2, h3⟩ := b.first (fun x => decide (x.length = m)) h
  obtain ⟨r1, r2⟩ := b.R e h2
  refine ⟨r2, ?_, fun v hv => ?_, fun v hv hl => h3 v hv (by simp; exact hl)⟩
  · unfold lotR
    rw [← r1]
    simpa using h1
  · obtain ⟨e', he', q1, _⟩ := b.C v hv
    have := hm e' he'
    unfold lotR
    rw [← q1]
    exact this
def Rl_narrowest : Rlt := fun bs B P => ∃ (ts : List (List Nat)) (n : Nat), bs = [.m ts] ∧ MV ts n ∧ B = [] ∧ P = fun d => ∃ m w, Nar ts n m w ∧ d = .d (.tuple [.int (m : Nat), tnD w])
def Rl_width : Rlt := fun bs B P => ∃ (ts : List (List Nat)) (n : Nat), bs = [.m ts] ∧ MV ts n ∧ B = [] ∧ P = fun d => ∃ m w, Nar ts n m w ∧ d = .d (.int (m : Nat))
def Rl_width_log : Rlt := fun bs B P => ∃ (ts : List (List Nat)) (n : Nat), bs = [.m ts] ∧ MV ts n ∧ B = [] ∧ P = fun d => ∃ m w, Nar ts n m w ∧ d = .d (tnD w)
theorem len_zs (l : List Nat) : (zs l).length = l.length := by
  unfold zs
  rw [List.length_map]
theorem W_narrowest (N : Nv) : Walk N (R_narrowest N (SpcD N Rl_lots_met)) Rl_narrowest 4 := by
  rintro bs B P ⟨ts, n, rfl, mv, rfl, rfl⟩ G H σ D S k
  refine q_callD (P := fun esd => ∃ es, esd = esD es ∧ Bfs ts.length (lotF ts n) (List.range n) es ∧ es.length ≤ 4096 ∧ (∀ e ∈ es, e.1.length ≤ 12) ∧ es ≠ []) S (a_cons (e_var rfl) a_nil) ⟨ts, n, rfl, mv, rfl⟩ fun p esd G1 H1 pe S1 => ?_
  obtain ⟨es, rfl, bf, few, small, hne⟩ := pe
  have hes : (esD es).length = es.length := by
    unfold esD
    rw [List.length_map]
  have k1 : E1 N ⟨[], [(p, .dt (esD es))]⟩ [some (.m ts), some (.v (.ref p)), none, none, none] (tLockE (tLc (iKeys (tVar 1)) (gName 3) tYes (tCB (rLen N.K N.w) (tCons (tVar 3) tNil)) [3])) (.d (.list ((es.map fun e => ((e.1.length : Nat) : Int)).map .int))) := by
    refine ev_lock (j := 0) (l := p) (es := esD es) (by simp) rfl fun o kvs => ?_
    have hi := i_keys (N := N) (M := ⟨[], [(p, .fz o kvs (esD es))]⟩) (Γ := [some (.m ts), some (.v (.ref p)), none, none, none]) (td := tVar 1) (j := 0) rfl (e_var rfl)
    have e0 : (esD es).map (fun e => Bd.d (.tuple (e.1.map .int))) = ((esD es).map fun e => PyData.tuple (e.1.map .int)).map Bd.d := by
      rw [List.map_map]
      rfl
    rw [e0] at hi
    have := e_lc1 (a := 3) (tt := tYes) (te := tCB (rLen N.K N.w) (tCons (tVar 3) tNil)) (fun _ => true) (fun x => .int ((itemsD x).length : Nat)) hi (by rw [List.length_map, hes]; omega) (fun _ _ => t_yes) fun x hx _ => by
      obtain ⟨e, _, rfl⟩ := List.mem_map.mp hx
      exact e_cb (a_cons (e_var rfl) a_nil) (rc_lenX rfl)
    refine this.to ?_
    rw [filter_yes, List.map_map, List.map_map]
    unfold esD
    rw [List.map_map]
    congr 2
    refine List.map_congr_left fun e _ => ?_
    show PyData.int (((zs e.1).map PyData.int).length : Nat) = .int ((e.1.length : Nat) : Int)
    rw [List.length_map, len_zs]
  refine q_asg (P := fun d => ∃ m : Nat, (∃ e ∈ es, e.1.length = m) ∧ (∀ e ∈ es, m ≤ e.1.length) ∧ d = .d (.int (m : Nat))) S1 ((ev_cb (a_cons k1 a_nil) fun bs e => by
    subst e
    exact rc_mn (by
      rw [List.length_map]
      exact List.length_pos_iff.mpr hne)).imp fun d h => ?_) fun v d G2 H2 pd S2 => ?_
  · obtain ⟨m, hm, hle, rfl⟩ := h
    obtain ⟨e, he, rfl⟩ := List.mem_map.mp hm
    exact ⟨e.1.length, ⟨e, he, rfl⟩, fun e' he' => by have := hle _ (List.mem_map.mpr ⟨e', he', rfl⟩); omega, rfl⟩
  · obtain ⟨m, ⟨e1, he1, hem⟩, hle, rfl⟩ := pd
    have k2 : E1 N ⟨[], [(p, .dt (esD es))]⟩ [some (.m ts), some (.v (.ref p)), some (.d (.int (m : Nat))), none, none] (tLockE (tLc (iItemsT (tVar 1)) (gTup N.K 2 (gCons (gName 3) (gCons (gName 4) gNil))) (tTest (tOp (rEqD N.K) (tCB (rLen N.K N.w) (tCons (tVar 3) tNil)) (tVar 2))) (tVar 4) [3, 4])) (.d (.list ((es.filter fun e => decide (e.1.length = m)).map fun e => tnD e.2))) := by
      refine ev_lock (j := 0) (l := p) (es := esD es) (by simp) rfl fun o kvs => ?_
      have hi := i_itemsT (N := N) (M := ⟨[], [(p, .fz o kvs (esD es))]⟩) (Γ := [some (.m ts), some (.v (.ref p)), some (.d (.int (m : Nat))), none, none]) (td := tVar 1) (j := 0) rfl (e_var rfl)
      have e0 : (esD es).map (fun e => Bd.d (.tuple [.tuple (e.1.map .int), e.2])) = (es.map fun e => (tnD e.1, tnD e.2)).map fun q => Bd.d (.tuple [q.1, q.2]) := by
        unfold esD
        rw [List.map_map, List.map_map]
        refine List.map_congr_left fun e _ => ?_
        show Bd.d (.tuple [.tuple ((zs e.1).map .int), tnD e.2]) = Bd.d (.tuple [tnD e.1, tnD e.2])
        rw [← tnD_zs]
      rw [e0] at hi
      have := e_lc2 (a := 3) (b := 4) (tt := tTest (tOp (rEqD N.K) (tCB (rLen N.K N.w) (tCons (tVar 3) tNil)) (tVar 2))) (te := tVar 4) (fun q => decide ((((itemsD q.1).length : Nat) : Int) = (m : Nat))) (fun q => q.2) hi (by rw [List.length_map]; omega) (fun x hx => by
        obtain ⟨e, _, rfl⟩ := List.mem_map.mp hx
        exact t_test (e_eqI (e_cb (a_cons (e_var rfl) a_nil) (rc_lenX rfl)) (e_var rfl))) fun x hx _ => e_var rfl
      refine this.to ?_
      rw [List.filter_map, List.map_map]
      congr 2
      · show List.map (fun e : List Nat × List Nat => tnD e.2) _ = _
        congr 1
        refine List.filter_congr fun e _ => ?_
        show decide ((((e.1.map fun n => PyData.int (n : Nat)).length : Nat) : Int) = (m : Nat)) = _
        rw [List.length_map]
        congr 1
        exact propext ⟨fun h => by omega, fun h => by omega⟩
    obtain ⟨e2, he2⟩ : ∃ e2, (es.filter fun e => decide (e.1.length = m)).head? = some e2 := by
      cases hf : es.filter fun e => decide (e.1.length = m) with
      | nil =>
        have : e1 ∈ es.filter fun e => decide (e.1.length = m) := List.mem_filter.mpr ⟨he1, by simp [hem]⟩
        rw [hf] at this
        cases this
      | cons y ys => exact ⟨y, rfl⟩
    refine s_retF S2 (e_tup (ds := [.int (m : Nat), tnD e2.2]) (a_cons (e_var rfl) (a_cons (e_ixL (j := 0) k2 e_int ?_) a_nil))) (fun d h => ⟨m, e2.2, nar_of bf hle he2, h⟩) k fun b hb => hb
    rw [List.getElem?_map, ← List.head?_eq_getElem?, he2]
    rfl
theorem W_width (N : Nv) : Walk N (R_width N (Spc N Rl_narrowest)) Rl_width 0 := by
  rintro bs B P ⟨ts, n, rfl, mv, rfl, rfl⟩ G H σ D S k
  refine s_retF S (ev_op (P := fun d => ∃ m w, Nar ts n m w ∧ d = .d (.int (m : Nat))) (ev_callP (a_cons (e_var rfl) a_nil) ⟨ts, n, rfl, mv, rfl, rfl⟩) e_int fun x y h1 h2 => ?_) (fun d h => h) k fun b hb => hb
  obtain ⟨m, w, h, rfl⟩ := h1
  subst h2
  intro G H u v Q s hu hv k
  exact rv_ix (ds := [.int (m : Nat), tnD w]) (j := 0) (x := .int (m : Nat)) _ (.inl rfl) rfl rfl G H u v Q s hu hv fun z d G' H' g e => k z d G' H' g ⟨m, w, h, e⟩
theorem W_width_log (N : Nv) : Walk N (R_width_log N (Spc N Rl_narrowest)) Rl_width_log 0 := by
  rintro bs B P ⟨ts, n, rfl, mv, rfl, rfl⟩ G H σ D S k
  refine s_retF S (ev_op (P := fun d => ∃ m w, Nar ts n m w ∧ d = .d (tnD w)) (ev_callP (a_cons (e_var rfl) a_nil) ⟨ts, n, rfl, mv, rfl, rfl⟩) e_int fun x y h1 h2 => ?_) (fun d h => h) k fun b hb => hb
  obtain ⟨m, w, h, rfl⟩ := h1
  subst h2
  intro G H u v Q s hu hv k
  exact rv_ix (ds := [.int (m : Nat), tnD w]) (j := 1) (x := tnD w) _ (.inl rfl) rfl rfl G H u v Q s hu hv fun z d G' H' g e => k z d G' H' g ⟨m, w, h, e⟩
end Ag

/-! is_ever_met. -/
namespace Ag
open PySem PySem.Spec PyProof.Rows L2
/-- a log makes one of the two -/
def Ever (ts : List (List Nat)) (i j : Nat) : Prop := ∃ w : List Nat, (∀ x ∈ w, x < ts.length) ∧ run ts i w = run ts j w
noncomputable def everB (ts : List (List Nat)) (i j : Nat) : Bool := @decide (Ever ts i j) (Classical.propDecidable _)
theorem everB_t {ts : List (List Nat)} {i j : Nat} : everB ts i j = true ↔ Ever ts i j := @decide_eq_true_iff _ (Classical.propDecidable _)
abbrev Pr := Nat × Nat
def nxP (ts : List (List Nat)) (p : Pr) (d : Nat) : Pr := (step ts d p.1, step ts d p.2)
/-- pairs met, pairs waiting; h the pair that is looked at, its deeds below c done -/
structure Dq (ts : List (List Nat)) (n i j : Nat) (met wt : List Pr) (h : Option (Pr × Nat)) : Prop where
  Z : (i, j) ∈ met
  R : ∀ p ∈ met, p.1 < n ∧ p.2 < n ∧ ∃ w : List Nat, (∀ x ∈ w, x < ts.length) ∧ p = (run ts i w, run ts j w)
  W : ∀ p ∈ wt, p ∈ met
  K : ∀ p ∈ met, p ∉ wt → (∃ c, h = some (p, c) ∧ p.1 ≠ p.2 ∧ ∀ d, d < c → nxP ts p d ∈ met) ∨ (p.1 ≠ p.2 ∧ ∀ d, d < ts.length → nxP ts p d ∈ met)
  H : ∀ p c, h = some (p, c) → p ∈ met
  N : met.Nodup
def sqr (n : Nat) : List Pr := (List.range n).flatMap fun a => (List.range n).map fun b => (a, b)
theorem sqr_len (n : Nat) : (sqr n).length = n * n := by
  unfold sqr
  rw [flat_len (c := n) _ (fun x _ => by rw [List.length_map, List.length_range]), List.length_range]
section
variable {ts : List (List Nat)} {n i j : Nat} {met wt : List Pr} {h : Option (Pr × Nat)}
theorem Dq.few (q : Dq ts n i j met wt h) : met.length ≤ n * n := by
  have := nodup_len (m := sqr n) q.N fun p hp => by
    obtain ⟨h1, h2, _⟩ := q.R p hp
    exact List.mem_flatMap.mpr ⟨p.1, List.mem_range.mpr h1, List.mem_map.mpr ⟨p.2, List.mem_range.mpr h2, rfl⟩⟩
  rwa [sqr_len] at this
theorem Dq.start (hi : i < n) (hj : j < n) : Dq ts n i j [(i, j)] [(i, j)] none where
  Z := by simp
  R := fun p hp => by
    obtain rfl := List.mem_singleton.mp hp
    exact ⟨hi, hj, [], fun x h => (by cases h), rfl⟩
  W := fun p hp => hp
  K := fun p hp hq => absurd hp hq
  H := fun p c h => by cases h
  N := by simp
theorem Dq.pop {a : Pr} (q : Dq ts n i j met (wt ++ [a]) none) (ha : a.1 ≠ a.2) : Dq ts n i j met wt (some (a, 0)) where
  Z := q.Z
  R := q.R
  W := fun p hp => q.W p (by simp [hp])
  K := fun p hp hq => by
    by_cases z : p = a
    · subst z
      exact .inl ⟨0, rfl, ha, fun d h => by omega⟩
    · rcases q.K p hp (by simp [hq, z]) with ⟨c, h, _⟩ | h
      · cases h
      · exact .inr h
  H := fun p c h => by
    cases h
    exact q.W _ (by simp)
  N := q.N
theorem Dq.seen {a : Pr} {c : Nat} (q : Dq ts n i j met wt (some (a, c))) (h : nxP ts a c ∈ met) : Dq ts n i j met wt (some (a, c + 1)) where
  Z := q.Z
  R := q.R
  W := q.W
  K := fun p hp hq => by
    rcases q.K p hp hq with ⟨c', e, h1, h2⟩ | h'
    · cases e
      refine .inl ⟨_, rfl, h1, fun d hd => ?_⟩
      by_cases z : d = c
      · subst z
        exact h
      · exact h2 d (by omega)
    · exact .inr h'
  H := fun p c h => by
    cases h
    exact q.H _ _ rfl
  N := q.N
theorem Dq.new {a : Pr} {c : Nat} (mv : MV ts n) (hc : c < ts.length) (q : Dq ts n i j met wt (some (a, c))) (h : nxP ts a c ∉ met) : Dq ts n i j (met ++ [nxP ts a c]) (wt ++ [nxP ts a c]) (some (a, c + 1)) where
  Z := by simp [q.Z]
  R := fun p hp => by
    rcases List.mem_append.mp hp with hp | hp
    · exact q.R p hp
    · obtain rfl := List.mem_singleton.mp hp
      obtain ⟨h1, h2, w, hw, e⟩ := q.R a (q.H _ _ rfl)
      refine ⟨(mv.at hc h1).2.2, (mv.at hc h2).2.2, w ++ [c], fun x hx => ?_, ?_⟩
      · rcases List.mem_append.mp hx with hx | hx
        · exact hw x hx
        · obtain rfl := List.mem_singleton.mp hx
          exact hc
      · rw [run_snoc, run_snoc]
        unfold nxP
        rw [e]
  W := fun p hp => by
    rcases List.mem_append.mp hp with hp | hp
    · exact List.mem_append_left _ (q.W p hp)
    · exact List.mem_append_right _ hp
  K := fun p hp hq => by
    have n1 : p ∉ wt := fun z => hq (List.mem_append_left _ z)
    have n2 : p ≠ nxP ts a c := fun z => hq (by simp [z])
    have hp : p ∈ met := by
      rcases List.mem_append.mp hp with hp | hp
      · exact hp
      · exact absurd (List.mem_singleton.mp hp) n2
    rcases q.K p hp n1 with ⟨c', e, h1, h2⟩ | ⟨h1, h2⟩
    · cases e
      refine .inl ⟨_, rfl, h1, fun d hd => ?_⟩
      by_cases z : d = c
      · subst z
        simp
      · exact List.mem_append_left _ (h2 d (by omega))
    · exact .inr ⟨h1, fun d hd => List.mem_append_left _ (h2 d hd)⟩
  H := fun p c h => by
    cases h
    exact List.mem_append_left _ (q.H _ _ rfl)
  N := by
    refine List.nodup_append.mpr ⟨q.N, by simp, fun u hu v hv => ?_⟩
    have hv : v = nxP ts a c := by simpa using hv
    subst hv
    exact fun z => h (z ▸ hu)
theorem Dq.next {a : Pr} (q : Dq ts n i j met wt (some (a, ts.length))) : Dq ts n i j met wt none where
  Z := q.Z
  R := q.R
  W := q.W
  K := fun p hp hq => by
    rcases q.K p hp hq with ⟨c', e, h1, h2⟩ | h'
    · cases e
      exact .inr ⟨h1, h2⟩
    · exact .inr h'
  H := fun p c h => by cases h
  N := q.N
theorem Dq.never (q : Dq ts n i j met [] none) : ¬ Ever ts i j := by
  rintro ⟨w, hw, e⟩
  have key : ∀ (m : Nat) (v : List Nat), v.length = m → (∀ x ∈ v, x < ts.length) → (run ts i v, run ts j v) ∈ met := by
    intro m
    induction m with
    | zero =>
      intro v hl _
      obtain rfl := List.eq_nil_of_length_eq_zero hl
      exact q.Z
    | succ m ih =>
      intro v hl hv
      have hne : v ≠ [] := fun z => by rw [z] at hl; simp at hl
      have hv2 := List.dropLast_concat_getLast hne
      have h1 := ih v.dropLast (by rw [List.length_dropLast, hl]; rfl) (fun x hx => hv x (List.dropLast_subset _ hx))
      rcases q.K _ h1 (by simp) with ⟨c, e, _⟩ | ⟨_, h2⟩
      · cases e
      · have := h2 _ (hv _ (List.getLast_mem hne))
        rw [← hv2, run_snoc, run_snoc]
        exact this
  have h1 := key _ w rfl hw
  rcases q.K _ h1 (by simp) with ⟨c, e', _⟩ | ⟨h2, _⟩
  · cases e'
  · exact h2 e
end
def pD (p : Pr) : PyData := .tuple [.int (p.1 : Nat), .int (p.2 : Nat)]
def pZ (p : Pr) : List Int := [(p.1 : Int), (p.2 : Int)]
theorem pD_pZ (p : Pr) : pD p = .tuple ((pZ p).map .int) := rfl
theorem pZ_inj {p q : Pr} (h : pZ p = pZ q) : p = q := by
  unfold pZ at h
  simp only [List.cons.injEq] at h
  exact Prod.ext (by omega) (by omega)
def mtD (met : List Pr) : List (List Int × PyData) := met.map fun p => (pZ p, .bool true)
theorem mtD_none {met : List Pr} {p : Pr} : (lkE (mtD met) (pZ p)).isNone = true ↔ p ∉ met := by
  induction met with
  | nil => simp [lkE, mtD]
  | cons e es ih =>
    by_cases q : e = p
    · have : lkE (mtD (e :: es)) (pZ p) = some (.bool true) := by
        unfold lkE mtD
        rw [List.map_cons, List.find?_cons_of_pos (by simp [q])]
        rfl
      rw [this]
      simp [q]
    · have : lkE (mtD (e :: es)) (pZ p) = lkE (mtD es) (pZ p) := by
        unfold lkE mtD
        rw [List.map_cons, List.find?_cons_of_neg (by simp; exact fun z => q (pZ_inj z))]
      rw [this, ih]
      simp only [List.mem_cons, not_or]
      exact ⟨fun h => ⟨fun z => q z.symm, h⟩, fun h => h.2⟩
def Rl_is_ever_met : Rlt := fun bs B P => ∃ (ts : List (List Nat)) (n i j : Nat), bs = [.m ts, .d (.int (i : Int)), .d (.int (j : Int))] ∧ MV ts n ∧ i < n ∧ j < n ∧ B = [] ∧ P = fun d => d = .d (.bool (everB ts i j))
theorem W_is_ever_met (N : Nv) (mc : Mc N) : Walk N (R_is_ever_met N) Rl_is_ever_met 6 := by
  rintro bs B P ⟨ts, n, i, j, rfl, mv, hi, hj, rfl, rfl⟩ G H σ D S k
  have n12 := mv.n12
  have hnn : n * n ≤ 144 := Nat.mul_le_mul n12 n12
  refine q_newD (ns := pZ (i, j)) (x := .bool true) S (fun M' => e_tup (ds := [.int (i : Int), .int (j : Int)]) (a_cons (e_var rfl) (a_cons (e_var rfl) a_nil))) (fun M' => e_bl) fun pf G2 H2 S2 => ?_
  refine q_newL (ds := [pD (i, j)]) S2 (a_cons (e_tup (ds := [.int (i : Int), .int (j : Int)]) (a_cons (e_var rfl) (a_cons (e_var rfl) a_nil))) a_nil) (show 1 ≤ 90000 from by decide) fun pw G3 H3 S3 => ?_
  let Γ : Cnt := [some (.m ts), some (.d (.int (i : Int))), some (.d (.int (j : Int))), some (.v (.ref pf)), some (.v (.ref pw)), none, none, none, none]
  let Mx (met wt : List Pr) : Mm := ⟨[], [(pw, .lst (wt.map pD)), (pf, .dt (mtD met))]⟩
  refine q_while S3 (fun m M' Γ' => ∃ met wt, m = 2 * (n * n - met.length) + wt.length ∧ Dq ts n i j met wt none ∧ wt.length ≤ met.length ∧ M' = Mx met wt ∧ Γ' = Γ) _ ⟨[(i, j)], [(i, j)], rfl, Dq.start hi hj, by simp, rfl, rfl⟩ ?_
  rintro m M' Γ' G5 H5 σ5 ⟨met, wt, rfl, dq, hwm, rfl, rfl⟩ S5
  have t0 : E1 N (Mx met wt) Γ (tCB (rLen N.K N.w) (tCons (tVar 4) tNil)) (.d (.int (wt.length : Nat))) := by
    refine e_thaw (j := 0) (i := 4) (l := pw) (ds := wt.map pD) rfl rfl ?_ rfl
    exact (e_cb (a_cons (e_var rfl) a_nil) (rc_len (.inr rfl))).to (by rw [List.length_map])
  refine ⟨_, t_test (e_op t0 e_int rv_B0), fun hc G6 H6 S6 => ?_, fun hc G6 H6 S6 => ?_⟩
  · have hlt : 0 < wt.length := by simpa using hc
    have hne : wt ≠ [] := List.length_pos_iff.mp hlt
    obtain ⟨wt0, ⟨a, b⟩, rfl⟩ : ∃ w0 p, wt = w0 ++ [p] := ⟨wt.dropLast, wt.getLast hne, (List.dropLast_concat_getLast hne).symm⟩
    have hab := dq.W (a, b) (by simp)
    obtain ⟨ra, rb, wab, hwab, eab⟩ := dq.R _ hab
    refine q_pop (a := 6) (b := 7) (j := 0) (l := pw) (ds := wt0.map pD) (x := .int (a : Nat)) (y := .int (b : Nat)) S6 ?_ (e_var rfl) fun u v G7 H7 S7 => ?_
    · show some (pw, Rc.lst ((wt0 ++ [(a, b)]).map pD)) = _
      rw [List.map_append]
      rfl
    by_cases he : a = b
    · refine q_if (c := true) S7 ((t_test (e_eqI (e_var rfl) (e_var rfl))).to (by simp [he])) (fun _ G8 H8 S8 => ?_) (fun h => nomatch h)
      refine s_retF S8 e_bl (fun d h => h.trans ?_) k fun b hb => by cases hb
      have : everB ts i j = true := everB_t.mpr ⟨wab, hwab, by
        have e1 : a = run ts i wab := congrArg Prod.fst eab
        have e2 : b = run ts j wab := congrArg Prod.snd eab
        omega⟩
      rw [this]
    · refine q_skip S7 ((t_test (e_eqI (e_var rfl) (e_var rfl))).to (by simp; omega)) fun G8 H8 S8 => ?_
      refine s_for1 (a := 5) S8 (i_seq (ds := ts.map tnD) (e_tables mc (e_var rfl)) (.inl rfl)) (fun c M' => ∃ met' wt', M' = Mx met' wt' ∧ Dq ts n i j met' wt' (some ((a, b), c)) ∧ met'.length + wt0.length = met.length + wt'.length ∧ wt'.length ≤ met'.length ∧ met.length ≤ met'.length) ⟨met, wt0, ?_, dq.pop he, rfl, by simp at hwm; omega, Nat.le_refl _⟩ (fun c x M' L' G' H' σ' hx pv S' => ?_) (fun M' G' H' σ' pv S' => ?_)
      · rfl
      · obtain ⟨met', wt', rfl, dq', hlen, hwm', hmm⟩ := pv
        obtain ⟨t, ht, rfl⟩ : ∃ t, ts[c]? = some t ∧ x = .d (tnD t) := by
          obtain ⟨y, hy, rfl⟩ := get_map_d hx
          rw [List.getElem?_map] at hy
          cases q : ts[c]? with
          | none =>
            rw [q] at hy
            cases hy
          | some t =>
            rw [q] at hy
            cases hy
            exact ⟨t, rfl, rfl⟩
        have hcl : c < ts.length := (List.getElem?_eq_some_iff.mp ht).1
        have et : t = ts.getD c [] := by
          rw [List.getD_eq_getElem?_getD, ht]
          rfl
        subst et
        have few' := dq'.few
        have st : ∀ {M : Mm} {Γ : Cnt} {tx : TE} {s : Nat}, s < n → Γ[5]? = some (some (.d (tnD (ts.getD c [])))) → E1 N M Γ tx (.d (.int (s : Int))) → E1 N M Γ (tOp (rIx N.K) (tVar 5) tx) (.d (.int (step ts c s : Nat))) := fun {M Γ tx s} hs h5 hx => by
          obtain ⟨_, a2, _⟩ := mv.at hcl hs
          refine e_ixT (j := s) (e_var h5) hx ?_
          rw [List.getElem?_map, a2]
          rfl
        refine q_set (b := .d (pD (nxP ts (a, b) c))) S' (e_tup (ds := [.int (step ts c a : Nat), .int (step ts c b : Nat)]) (a_cons (st ra rfl (e_var rfl)) (a_cons (st rb rfl (e_var rfl)) a_nil))) fun v9 G9 H9 S9 => ?_
        have en := e_dnin (N := N) (M := Mx met' wt') (Γ := ((((Γ.set 6 (some (.d (.int (a : Nat))))).set 7 (some (.d (.int (b : Nat))))).set 5 (some (.d (tnD (ts.getD c []))))).set 8 (some (.d (pD (nxP ts (a, b) c)))))) (td := tVar 3) (ty := tVar 8) (j := 1) (ns := pZ (nxP ts (a, b) c)) rfl (e_var rfl) (e_var rfl)
        by_cases hin : nxP ts (a, b) c ∈ met'
        · have hf : (lkE (mtD met') (pZ (nxP ts (a, b) c))).isNone = false := by
            cases hh : (lkE (mtD met') (pZ (nxP ts (a, b) c))).isNone with
            | false => rfl
            | true => exact absurd hin (mtD_none.mp hh)
          rw [hf] at en
          refine s_if S9 (t_B en) (fun h => nomatch h) fun _ G10 H10 S10 => ?_
          exact ⟨_, G10, ⟨met', wt', rfl, dq'.seen hin, hlen, hwm', hmm⟩, (S10.forget 5).forget 8⟩
        · have hf := mtD_none.mpr hin
          rw [hf] at en
          have hfn : lkE (mtD met') (pZ (nxP ts (a, b) c)) = none := by simpa using hf
          have dq2 := dq'.new mv hcl hin
          refine s_if S9 (t_B en) (fun _ G10 H10 S10 => ?_) (fun h => nomatch h)
          refine q_dput (j := 1) (l := pf) (es := mtD met') (ns := pZ (nxP ts (a, b) c)) S10 rfl (e_var rfl) (e_var rfl) e_bl (fun d h => ⟨_, h⟩) hfn (by unfold mtD; rw [List.length_map]; omega) fun y G11 H11 ey S11 => ?_
          have ey := bd_inj ey
          subst ey
          refine s_app (j := 0) (l := pw) (ds := wt'.map pD) S11 rfl (e_var rfl) (e_var rfl) (fun d h => ⟨_, h⟩) (by rw [List.length_map]; omega) fun z G12 H12 ez S12 => ?_
          have ez := bd_inj ez
          subst ez
          refine ⟨_, G12, ⟨met' ++ [nxP ts (a, b) c], wt' ++ [nxP ts (a, b) c], ?_, dq2, ?_, ?_, ?_⟩, (S12.forget 5).forget 8⟩
          · show Mm.mk _ _ = Mm.mk _ _
            congr 1
            simp only [List.set_cons_zero, List.set_cons_succ, List.map_append, mtD]
            rfl
          · simp only [List.length_append, List.length_singleton]
            omega
          · simp only [List.length_append, List.length_singleton]
            omega
          · simp only [List.length_append, List.length_singleton]
            omega
      · obtain ⟨met', wt', rfl, dq', hlen, hwm', hmm⟩ := pv
        have el : ((ts.map tnD).map Bd.d).length = ts.length := by rw [List.length_map, List.length_map]
        rw [el] at dq'
        have few' := dq'.few
        have few := dq.few
        refine ⟨_, _, G', _, ?_, ⟨met', wt', rfl, dq'.next, hwm', rfl, rfl⟩, (S'.forget 6).forget 7⟩
        have e1 : (wt0 ++ [(a, b)]).length = wt0.length + 1 := by simp
        omega
  · have hnil : wt = [] := by
      cases wt with
      | nil => rfl
      | cons a b => simp at hc
    subst hnil
    refine s_retF S6 e_bl (fun d h => h.trans ?_) k fun b hb => by cases hb
    have : everB ts i j = false := by
      cases q : everB ts i j with
      | false => rfl
      | true => exact absurd (everB_t.mp q) dq.never
    rw [this]
end Ag

/-! reset_paper, reset_holds. -/
namespace Ag
open PySem PySem.Spec PyProof.Rows L2
def prow (n a : Nat) : List Pr := (List.range (n - (a + 1))).map fun i => (a, a + 1 + i)
/-- the pairs one < other, in the order in which they are looked at -/
def prs (n : Nat) : List Pr := (List.range n).flatMap (prow n)
noncomputable def nevs (ts : List (List Nat)) (n : Nat) : List Pr := (prs n).filter fun p => !everB ts p.1 p.2
def dueD (l : List Pr) (w : List Nat) : PyData := match l with
  | [] => .tuple [.str "reset", tnD w]
  | p :: _ => .tuple [.str "pair", pD p]
theorem mem_prs {n : Nat} {p : Pr} : p ∈ prs n ↔ p.1 < p.2 ∧ p.2 < n := by
  unfold prs prow
  rw [List.mem_flatMap]
  constructor
  · rintro ⟨a, ha, h⟩
    obtain ⟨i, hi, rfl⟩ := List.mem_map.mp h
    have := List.mem_range.mp hi
    exact ⟨by show a < a + 1 + i; omega, by show a + 1 + i < n; omega⟩
  · rintro ⟨h1, h2⟩
    refine ⟨p.1, List.mem_range.mpr (by omega), List.mem_map.mpr ⟨p.2 - (p.1 + 1), List.mem_range.mpr (by omega), Prod.ext rfl ?_⟩⟩
    show p.1 + 1 + (p.2 - (p.1 + 1)) = p.2
    omega
theorem filter_head {α : Type} {p : α → Bool} : ∀ {l : List α} {i : Nat} {x : α}, l[i]? = some x → (∀ m y, m < i → l[m]? = some y → p y = false) → p x = true → (l.filter p).head? = some x
  | [], _, _, h, _, _ => by simp at h
  | a :: l, 0, x, h, _, hp => by
    have : a = x := by simpa using h
    subst this
    rw [List.filter_cons_of_pos hp]
    rfl
  | a :: l, i + 1, x, h, hq, hp => by
    have ha : p a = false := hq 0 a (by omega) rfl
    rw [List.filter_cons_of_neg (by rw [ha]; decide)]
    exact filter_head (i := i) (by simpa using h) (fun m y hm hy => hq (m + 1) y (by omega) (by simpa using hy)) hp
theorem flat_head {α β : Type} {g : α → List β} {b : β} : ∀ {l : List α} {i : Nat} {x : α}, l[i]? = some x → (∀ m y, m < i → l[m]? = some y → g y = []) → (g x).head? = some b → (l.flatMap g).head? = some b
  | [], _, _, h, _, _ => by simp at h
  | a :: l, 0, x, h, _, hp => by
    have : a = x := by simpa using h
    subst this
    rw [List.flatMap_cons]
    cases q : g a with
    | nil =>
      rw [q] at hp
      cases hp
    | cons y ys =>
      rw [q] at hp
      exact hp
  | a :: l, i + 1, x, h, hq, hp => by
    rw [List.flatMap_cons, hq 0 a (by omega) rfl, List.nil_append]
    exact flat_head (i := i) (by simpa using h) (fun m y hm hy => hq (m + 1) y (by omega) (by simpa using hy)) hp
theorem filter_flat {α β : Type} (p : β → Bool) (g : α → List β) : ∀ l : List α, (l.flatMap g).filter p = l.flatMap fun x => (g x).filter p
  | [] => rfl
  | a :: l => by rw [List.flatMap_cons, List.flatMap_cons, List.filter_append, filter_flat p g l]
theorem nevs_head {ts : List (List Nat)} {n a j : Nat} (ha : a < n) (hj : j < n - (a + 1)) (h1 : ∀ b, b < a → ∀ i, i < n - (b + 1) → everB ts b (b + 1 + i) = true) (h2 : ∀ i, i < j → everB ts a (a + 1 + i) = true) (h3 : everB ts a (a + 1 + j) = false) : (nevs ts n).head? = some (a, a + 1 + j) := by
  unfold nevs prs
  rw [filter_flat]
  refine flat_head (i := a) (x := a) (by rw [List.getElem?_range ha]) (fun m y hm hy => ?_) ?_
  · have hy : y = m := by
      rw [List.getElem?_range (by omega)] at hy
      exact (Option.some.inj hy).symm
    subst hy
    refine List.filter_eq_nil_iff.mpr fun q hq => ?_
    obtain ⟨i, hi, rfl⟩ := List.mem_map.mp hq
    have := h1 y hm i (List.mem_range.mp hi)
    show ¬ (!everB ts y (y + 1 + i)) = true
    rw [this]
    decide
  · refine filter_head (i := j) ?_ (fun m y hm hy => ?_) ?_
    · unfold prow
      rw [List.getElem?_map, List.getElem?_range hj]
      rfl
    · unfold prow at hy
      rw [List.getElem?_map, List.getElem?_range (by omega)] at hy
      have hy : y = (a, a + 1 + m) := (Option.some.inj hy).symm
      subst hy
      show (!everB ts a (a + 1 + m)) = false
      rw [h2 m hm]
      rfl
    · show (!everB ts a (a + 1 + j)) = true
      rw [h3]
      rfl
theorem nevs_nil {ts : List (List Nat)} {n : Nat} (h1 : ∀ b, b < n → ∀ i, i < n - (b + 1) → everB ts b (b + 1 + i) = true) : nevs ts n = [] := by
  unfold nevs
  refine List.filter_eq_nil_iff.mpr fun q hq => ?_
  obtain ⟨h2, h3⟩ := mem_prs.mp hq
  have := h1 q.1 (by omega) (q.2 - (q.1 + 1)) (by omega)
  rw [show q.1 + 1 + (q.2 - (q.1 + 1)) = q.2 by omega] at this
  rw [this]
  decide
def Rl_reset_paper : Rlt := fun bs B P => ∃ (ts : List (List Nat)) (n : Nat) (m : Nat) (w : List Nat), bs = [.m ts] ∧ MV ts n ∧ Nar ts n m w ∧ B = [] ∧ P = fun d => d = .d (dueD (nevs ts n) w)
theorem e_statesN {N : Nv} {M : Mm} {Γ : Cnt} {ta : TE} {ts : List (List Nat)} {n : Nat} (mc : Mc N) (mv : MV ts n) (h : E1 N M Γ ta (.m ts)) : E1 N M Γ (tFld N.K ta "states") (.d (.int (n : Int))) := (e_states mc h).to (by rw [mv.hd])
theorem W_reset_paper (N : Nv) (mc : Mc N) : Walk N (R_reset_paper N (Spc N Rl_is_ever_met) (Spc N Rl_width_log)) Rl_reset_paper 2 := by
  rintro bs B P ⟨ts, n, m, w, rfl, mv, nar, rfl, rfl⟩ G H σ D S k
  have n12 := mv.n12
  refine q_for1 (a := 1) S (i_rg1 (n := n) (a_cons (e_statesN mc mv (e_var rfl)) a_nil) (by omega)) (fun a M' => M' = ⟨[], []⟩ ∧ ∀ b, b < a → ∀ i, i < n - (b + 1) → everB ts b (b + 1 + i) = true) ⟨rfl, fun b h => by omega⟩ (fun a x M' L' G' H' σ' hx pv S' => ?_) (fun M' G' H' σ' pv S' => ?_)
  · obtain ⟨rfl, pv⟩ := pv
    obtain ⟨ha, rfl⟩ := rgD_get hx
    have ea : (0 : Int) + (a : Nat) = (a : Nat) := by omega
    rw [ea] at S'
    refine s_for1 (a := 2) S' (i_rg2 (lo := a + 1) (hi := n) (a_cons ((e_op (e_var rfl) e_int rv_I0).to (by show Bd.d (.int ((a : Int) + 1)) = _; rw [show ((a : Int) + 1) = ((a + 1 : Nat) : Int) by omega])) (a_cons (e_statesN mc mv (e_var rfl)) a_nil)) (by omega) (by omega)) (fun j M' => M' = ⟨[], []⟩ ∧ ∀ i, i < j → everB ts a (a + 1 + i) = true) ⟨rfl, fun i h => by omega⟩ (fun j x M' L' G' H' σ' hx pv' S' => ?_) (fun M' G' H' σ' pv' S' => ?_)
    · obtain ⟨rfl, pv'⟩ := pv'
      obtain ⟨hj, rfl⟩ := rgD_get hx
      have eb : (((a + 1 : Nat) : Int) + (j : Nat)) = ((a + 1 + j : Nat) : Int) := by omega
      rw [eb] at S'
      have ec : EvT N ⟨[], []⟩ ((([Bd.m ts].map some ++ List.replicate 2 none).set 1 (some (.d (.int (a : Nat))))).set 2 (some (.d (.int ((a + 1 + j : Nat) : Int))))) (tNot (tB (tCall (Spc N Rl_is_ever_met) [] E0 (tCons (tVar 0) (tCons (tVar 1) (tCons (tVar 2) tNil)))))) (!everB ts a (a + 1 + j)) := t_not (t_B (e_call (a_cons (e_var rfl) (a_cons (e_var rfl) (a_cons (e_var rfl) a_nil))) ⟨ts, n, a, a + 1 + j, rfl, mv, ha, by omega, rfl, rfl⟩))
      cases hev : everB ts a (a + 1 + j) with
      | false =>
        rw [hev] at ec
        refine s_if S' ec (fun _ G2 H2 S2 => ?_) (fun h => nomatch h)
        refine s_retF S2 (e_tup (ds := [.str "pair", pD (a, a + 1 + j)]) (a_cons e_str (a_cons (e_tup (ds := [.int (a : Nat), .int ((a + 1 + j : Nat) : Int)]) (a_cons (e_var rfl) (a_cons (e_var rfl) a_nil))) a_nil))) (fun d h => h.trans ?_) k fun b hb => by cases hb
        have := nevs_head ha hj pv pv' hev
        cases q : nevs ts n with
        | nil =>
          rw [q] at this
          cases this
        | cons y ys =>
          rw [q] at this
          have e : y = (a, a + 1 + j) := Option.some.inj this
          rw [e]
          rfl
      | true =>
        rw [hev] at ec
        refine s_if S' ec (fun h => nomatch h) fun _ G2 H2 S2 => ?_
        exact ⟨_, G2, ⟨rfl, fun i hi => by
          by_cases z : i = j
          · rw [z]
            exact hev
          · exact pv' i (by omega)⟩, S2.forget 2⟩
    · obtain ⟨rfl, pv'⟩ := pv'
      rw [rgD_len] at pv'
      exact ⟨_, G', ⟨rfl, fun b hb i hi => by
        by_cases z : b = a
        · subst z
          exact pv' i hi
        · exact pv b (by omega) i hi⟩, S'.forget 1⟩
  · obtain ⟨rfl, pv⟩ := pv
    rw [rgD_len] at pv
    have hn := nevs_nil pv
    refine s_retF S' (ev_tup (P := fun d => d = .d (dueD (nevs ts n) w)) (ev_cons (PB := fun bs => bs = [.d (.str "reset"), .d (tnD w)]) e_str (ev_cons (PB := fun bs => bs = [.d (tnD w)]) (ev_callP (a_cons (e_var rfl) a_nil) ⟨ts, n, rfl, mv, rfl, rfl⟩) a_nil fun d ds h1 h2 => ?_) fun d ds h1 h2 => ?_) fun bs e => ?_) (fun d h => h) k fun b hb => by cases hb
    · obtain ⟨m', w', nar', rfl⟩ := h1
      rw [h2, (nar.uniq nar').2]
    · rw [h1, h2]
    · refine ⟨[.str "reset", tnD w], e, by simp, ?_⟩
      rw [hn]
      rfl

/-! ### reset_holds -/
def nth (x : PyData) (i : Nat) : PyData := (itemsD x).getD i .none
theorem nth_mem {x : PyData} {j : Nat} (h : j < (itemsD x).length) : nth x j ∈ itemsD x := by
  unfold nth
  rw [List.getD_eq_getElem?_getD, List.getElem?_eq_getElem h]
  exact List.getElem_mem h
def natD : PyData → Nat
  | .int i => i.toNat
  | _ => 0
def natsD (x : PyData) : List Nat := (itemsD x).map natD
def strD : PyData → Str
  | .str x => x
  | _ => ""
/-- how many states the log leaves -/
def imgN (ts : List (List Nat)) (n : Nat) (w : List Nat) : Nat := (ddK (zs ((List.range n).map fun s => run ts s w))).length
noncomputable def rhB (ts : List (List Nat)) (n : Nat) (x : PyData) : Bool :=
  (isSeqD x && (decide ((itemsD x).length = 2) && (isT (nth x 0) && isSeqD (nth x 1)))) &&
  (if strD (nth x 0) = "reset" then allB (itemsD (nth x 1)) (ts.length : Nat) && decide (imgN ts n (natsD (nth x 1)) = 1)
   else (decide (strD (nth x 0) = "pair") && (decide ((itemsD (nth x 1)).length = 2) && ascB (nth x 1) (n : Nat))) && !everB ts (natD (nth (nth x 1) 0)) (natD (nth (nth x 1) 1)))
def Rl_reset_holds : Rlt := fun bs B P => ∃ (ts : List (List Nat)) (n : Nat) (x : PyData), bs = [.m ts, .d x] ∧ MV ts n ∧ (itemsD (nth x 1)).length ≤ 1000 ∧ PyData.strOk (strD (nth x 0)) = true ∧ B = [] ∧ P = fun d => d = .d (.bool (rhB ts n x))
theorem e_ixS {N : Nv} {M : Mm} {Γ : Cnt} {ta tb : TE} {x : PyData} {j : Nat} (hc : isSeqD x = true) (hj : j < (itemsD x).length) (ha : E1 N M Γ ta (.d x)) (hb : E1 N M Γ tb (.d (.int (j : Int)))) : E1 N M Γ (tOp (rIx N.K) ta tb) (.d (nth x j)) := by
  refine e_op ha hb (rv_ix (j := j) _ (isSeq_cases hc) (ixN_nat hj) ?_)
  rw [List.getElem?_eq_getElem hj]
  unfold nth
  rw [List.getD_eq_getElem?_getD, List.getElem?_eq_getElem hj]
  rfl
theorem isT_str {x : PyData} (h : isT x = true) : x = .str (strD x) := by
  cases x with
  | str s => rfl
  | _ => cases h
theorem e_eqS {N : Nv} {M : Mm} {Γ : Cnt} {ta tb : TE} {a b : Str} (ha : E1 N M Γ ta (.d (.str a))) (hb : E1 N M Γ tb (.d (.str b))) (h1 : PyData.strOk a = true) (h2 : PyData.strOk b = true) : E1 N M Γ (tOp (rEqD N.K) ta tb) (.d (.bool (decide (a = b)))) := (e_op ha hb (rv_eqD (by unfold SeqAt.shaped; simp [PyData.canLay0, h1, PyData.depth]) (by unfold SeqAt.shaped; simp [PyData.canLay0, h2, PyData.depth]))).to (by rw [eqv_str])
theorem e_neS {N : Nv} {M : Mm} {Γ : Cnt} {ta tb : TE} {a b : Str} (ha : E1 N M Γ ta (.d (.str a))) (hb : E1 N M Γ tb (.d (.str b))) (h1 : PyData.strOk a = true) (h2 : PyData.strOk b = true) : E1 N M Γ (tOp (rNeD N.K) ta tb) (.d (.bool (!decide (a = b)))) := (e_op ha hb (rv_neD (by unfold SeqAt.shaped; simp [PyData.canLay0, h1, PyData.depth]) (by unfold SeqAt.shaped; simp [PyData.canLay0, h2, PyData.depth]))).to (by rw [eqv_str])
theorem allB_nsD {ds : List PyData} {k : Nat} (h : allB ds (k : Nat) = true) : ds = nsD (ds.map natD) ∧ ∀ d ∈ ds.map natD, d < k := by
  unfold nsD
  have key : ∀ x ∈ ds, x = .int ((natD x : Nat) : Int) ∧ natD x < k := fun x hx => by
    have := List.all_eq_true.mp h x hx
    cases x with
    | int i =>
      simp [blw] at this
      refine ⟨?_, ?_⟩
      · show PyData.int i = .int ((i.toNat : Nat) : Int)
        rw [show ((i.toNat : Nat) : Int) = i by omega]
      · show i.toNat < k
        omega
    | _ => cases this
  refine ⟨?_, fun d hd => ?_⟩
  · rw [List.map_map]
    refine ((List.map_congr_left fun x hx => ?_).trans (List.map_id _)).symm
    exact (key x hx).1.symm
  · obtain ⟨x, hx, rfl⟩ := List.mem_map.mp hd
    exact (key x hx).2
theorem W_reset_holds (N : Nv) (mc : Mc N) : Walk N (R_reset_holds N (Spc N Rl_is_sequence) (Spc N Rl_is_text) (Spc N Rl_is_below) (Spc N Rl_behind) (Spc N Rl_is_ascending) (Spc N Rl_is_ever_met)) Rl_reset_holds 2 := by
  rintro bs B P ⟨ts, n, x, rfl, mv, hz, hok, rfl, rfl⟩ G H σ D S k
  have n12 := mv.n12
  have t1 : EvT N ⟨[], []⟩ ([Bd.m ts, .d x].map some ++ List.replicate 2 none) (tNot (tB (tCall (Spc N Rl_is_sequence) [] E0 (tCons (tVar 1) tNil)))) (!isSeqD x) := t_not (t_B (e_call (a_cons (e_var rfl) a_nil) ⟨x, rfl, rfl, rfl⟩))
  by_cases hs : isSeqD x = false
  · refine q_if (c := true) S ((t_or (b := true) t1 fun h => by rw [hs] at h; cases h).to (by rw [hs]; rfl)) (fun _ G' H' S' => ?_) (fun h => nomatch h)
    exact s_retF S' e_bl (fun d h => h.trans (by unfold rhB; rw [hs]; rfl)) k fun b h => h
  have hs : isSeqD x = true := by simpa using hs
  have t2 : EvT N ⟨[], []⟩ ([Bd.m ts, .d x].map some ++ List.replicate 2 none) (tTest (tOp (rNeD N.K) (tCB (rLen N.K N.w) (tCons (tVar 1) tNil)) (tC (.int 2)))) (!decide (((itemsD x).length : Int) = 2)) := t_test (e_neI (e_cb (a_cons (e_var rfl) a_nil) (rc_lenX hs)) e_int)
  by_cases hl : ¬ (itemsD x).length = 2
  · have hl' : (!decide (((itemsD x).length : Int) = 2)) = true := by simp; omega
    refine q_if (c := true) S ((t_or (b := true) t1 fun h => (t_or (b := true) t2 fun h => by rw [hl'] at h; cases h).to (by rw [hl']; rfl)).to (by simp)) (fun _ G' H' S' => ?_) (fun h => nomatch h)
    exact s_retF S' e_bl (fun d h => h.trans (by unfold rhB; rw [hs, decide_eq_false hl]; rfl)) k fun b h => h
  have hl : (itemsD x).length = 2 := Decidable.of_not_not hl
  have hl' : (!decide (((itemsD x).length : Int) = 2)) = false := by simp; omega
  have i0 : ∀ {M : Mm} {Γ : Cnt}, Γ[1]? = some (some (.d x)) → E1 N M Γ (tOp (rIx N.K) (tVar 1) (tC (.int 0))) (.d (nth x 0)) := fun h => e_ixS (j := 0) hs (by omega) (e_var h) e_int
  have i1 : ∀ {M : Mm} {Γ : Cnt}, Γ[1]? = some (some (.d x)) → E1 N M Γ (tOp (rIx N.K) (tVar 1) (tC (.int 1))) (.d (nth x 1)) := fun h => e_ixS (j := 1) hs (by omega) (e_var h) e_int
  have t3 : EvT N ⟨[], []⟩ ([Bd.m ts, .d x].map some ++ List.replicate 2 none) (tNot (tB (tCall (Spc N Rl_is_text) [] E0 (tCons (tOp (rIx N.K) (tVar 1) (tC (.int 0))) tNil)))) (!isT (nth x 0)) := t_not (t_B (e_call (a_cons (i0 rfl) a_nil) ⟨nth x 0, rfl, rfl, rfl⟩))
  have t4 : EvT N ⟨[], []⟩ ([Bd.m ts, .d x].map some ++ List.replicate 2 none) (tNot (tB (tCall (Spc N Rl_is_sequence) [] E0 (tCons (tOp (rIx N.K) (tVar 1) (tC (.int 1))) tNil)))) (!isSeqD (nth x 1)) := t_not (t_B (e_call (a_cons (i1 rfl) a_nil) ⟨nth x 1, rfl, rfl, rfl⟩))
  refine q_if S (t_or t1 fun _ => t_or t2 fun _ => t_or t3 fun _ => t4) (fun hc G1 H1 S1 => ?_) (fun hc G1 H1 S1 => ?_)
  · rw [hs, hl'] at hc
    refine s_retF S1 e_bl (fun d h => h.trans ?_) k fun b h => h
    unfold rhB
    have : (isT (nth x 0) && isSeqD (nth x 1)) = false := by
      cases h1 : isT (nth x 0) <;> cases h2 : isSeqD (nth x 1) <;> simp [h1, h2] at hc ⊢
    rw [this]
    simp
  · rw [hs, hl'] at hc
    have h3 : isT (nth x 0) = true := by
      cases h1 : isT (nth x 0) <;> simp [h1] at hc ⊢
    have h4 : isSeqD (nth x 1) = true := by
      cases h1 : isSeqD (nth x 1) <;> simp [h1] at hc ⊢
    have e0 : rhB ts n x = (if strD (nth x 0) = "reset" then allB (itemsD (nth x 1)) (ts.length : Nat) && decide (imgN ts n (natsD (nth x 1)) = 1)
   else (decide (strD (nth x 0) = "pair") && (decide ((itemsD (nth x 1)).length = 2) && ascB (nth x 1) (n : Nat))) && !everB ts (natD (nth (nth x 1) 0)) (natD (nth (nth x 1) 1))) := by
      unfold rhB
      rw [hs, hl, h3, h4]
      rfl
    have i0' : ∀ {M : Mm} {Γ : Cnt}, Γ[1]? = some (some (.d x)) → E1 N M Γ (tOp (rIx N.K) (tVar 1) (tC (.int 0))) (.d (.str (strD (nth x 0)))) := fun h => (i0 h).to (by rw [← isT_str h3])
    by_cases hr : strD (nth x 0) = "reset"
    · rw [if_pos hr] at e0
      refine q_if (c := true) S1 ((t_test (e_eqS (i0' rfl) e_str hok (by decide +kernel))).to (by rw [decide_eq_true hr])) (fun _ G2 H2 S2 => ?_) (fun h => nomatch h)
      have ta : EvT N ⟨[], []⟩ ([Bd.m ts, .d x].map some ++ List.replicate 2 none) (tNot (tB (tCB (rAll N.K) (tCons (tLc (iSeq N.K (tOp (rIx N.K) (tVar 1) (tC (.int 1)))) (gName 2) tYes (tCall (Spc N Rl_is_below) [] E0 (tCons (tVar 2) (tCons (tFld N.K (tVar 0) "deeds") tNil))) [2]) tNil)))) (!allB (itemsD (nth x 1)) (ts.length : Nat)) := t_not (t_B (e_allB (i := 2) h4 (by omega) (i1 rfl) (by simp) fun y => e_deeds mc (e_var rfl)))
      cases hb : allB (itemsD (nth x 1)) (ts.length : Nat) with
      | false =>
        rw [hb] at ta e0
        refine q_if S2 ta (fun _ G3 H3 S3 => ?_) (fun h => nomatch h)
        exact s_retF S3 e_bl (fun d h => h.trans (by rw [e0]; rfl)) k fun b h => h
      | true =>
        rw [hb] at ta e0
        refine q_if S2 ta (fun h => nomatch h) (fun _ G3 H3 S3 => ?_)
        obtain ⟨f1, f2⟩ := allB_nsD hb
        have kd := e_dc (N := N) (M := ⟨[], []⟩) (Γ := [Bd.m ts, .d x].map some ++ List.replicate 2 none) (wi := iRng1 (tCons (tFld N.K (tVar 0) "states") tNil)) (g := gName 3) (tk := tCall (Spc N Rl_behind) [] E0 (tCons (tFld N.K (tVar 0) "tables") (tCons (tVar 3) (tCons (tOp (rIx N.K) (tVar 1) (tC (.int 1))) tNil)))) (tv := tC (.bl true)) (vs := [3]) (xs := rgD 0 n) (fun y => (wipeG ([Bd.m ts, .d x].map some ++ List.replicate 2 none) [3]).set 3 (some y))
          (fun y => match y with | .d (.int i) => ((run ts i.toNat (natsD (nth x 1)) : Nat) : Int) | _ => 0) (i_rg1 (n := n) (a_cons (e_statesN mc mv (e_var rfl)) a_nil) (by omega)).i (by rw [rgD_len]; omega) (fun _ _ => g_name) (fun y hy => by
            obtain ⟨i, hi⟩ := List.mem_iff_getElem?.mp hy
            obtain ⟨hil, rfl⟩ := rgD_get hi
            refine e_call (a_cons (e_tables mc (e_var rfl)) (a_cons (e_var rfl) (a_cons (i1 rfl) a_nil))) ⟨ts, n, i, natsD (nth x 1), nth x 1, ?_, mv, hil, f2, ?_, rfl, ?_⟩
            · rw [show (0 : Int) + (i : Nat) = (i : Nat) by omega]
            · rcases isSeq_cases h4 with q | q
              · exact .inl (q.trans (congrArg PyData.tuple f1))
              · exact .inr (q.trans (congrArg PyData.list f1))
            · show _ = fun d => d = Bd.d (.int (run ts i (natsD (nth x 1)) : Nat))
              show (fun d => d = Bd.d (.int ((run ts ((0 : Int) + (i : Nat)).toNat (natsD (nth x 1)) : Nat) : Int))) = _
              rw [show ((0 : Int) + (i : Nat)).toNat = i by omega]) (fun _ _ => ⟨_, e_bl⟩)
        have e1 : (rgD 0 n).map (fun y => match y with | .d (.int i) => ((run ts i.toNat (natsD (nth x 1)) : Nat) : Int) | _ => 0) = zs ((List.range n).map fun s => run ts s (natsD (nth x 1))) := by
          unfold rgD zs
          rw [List.map_map, List.map_map]
          refine List.map_congr_left fun i _ => ?_
          show ((run ts ((0 : Int) + (i : Nat)).toNat (natsD (nth x 1)) : Nat) : Int) = _
          rw [show ((0 : Int) + (i : Nat)).toNat = i by omega]
          rfl
        rw [e1] at kd
        refine s_retF S3 (e_eqI (e_cb (a_cons kd a_nil) rc_len_ks) e_int) (fun d h => h.trans ?_) k fun b h => h
        rw [e0, Bool.true_and]
        unfold imgN
        congr 2
        exact decide_eq_decide.mpr ⟨fun h => by omega, fun h => by omega⟩
    · rw [if_neg hr] at e0
      refine q_skip S1 ((t_test (e_eqS (i0' rfl) e_str hok (by decide +kernel))).to (by rw [decide_eq_false hr])) fun G2 H2 S2 => ?_
      have u1 : EvT N ⟨[], []⟩ ([Bd.m ts, .d x].map some ++ List.replicate 2 none) (tTest (tOp (rNeD N.K) (tOp (rIx N.K) (tVar 1) (tC (.int 0))) (tC (.str "pair")))) (!decide (strD (nth x 0) = "pair")) := t_test (e_neS (i0' rfl) e_str hok (by decide +kernel))
      have u2 : EvT N ⟨[], []⟩ ([Bd.m ts, .d x].map some ++ List.replicate 2 none) (tTest (tOp (rNeD N.K) (tCB (rLen N.K N.w) (tCons (tOp (rIx N.K) (tVar 1) (tC (.int 1))) tNil)) (tC (.int 2)))) (!decide (((itemsD (nth x 1)).length : Int) = 2)) := t_test (e_neI (e_cb (a_cons (i1 rfl) a_nil) (rc_lenX h4)) e_int)
      have u3 : EvT N ⟨[], []⟩ ([Bd.m ts, .d x].map some ++ List.replicate 2 none) (tNot (tB (tCall (Spc N Rl_is_ascending) [] E0 (tCons (tOp (rIx N.K) (tVar 1) (tC (.int 1))) (tCons (tFld N.K (tVar 0) "states") tNil))))) (!ascB (nth x 1) (n : Nat)) := t_not (t_B (e_call (a_cons (i1 rfl) (a_cons (e_statesN mc mv (e_var rfl)) a_nil)) ⟨nth x 1, (n : Nat), rfl, by omega, rfl, rfl⟩))
      have e3 : decide (((itemsD (nth x 1)).length : Int) = 2) = decide ((itemsD (nth x 1)).length = 2) := decide_eq_decide.mpr ⟨fun h => by omega, fun h => by omega⟩
      refine q_if S2 (t_or u1 fun _ => t_or u2 fun _ => u3) (fun hc G3 H3 S3 => ?_) (fun hc G3 H3 S3 => ?_)
      · refine s_retF S3 e_bl (fun d h => h.trans ?_) k fun b h => h
        rw [e3] at hc
        rw [e0]
        have : (decide (strD (nth x 0) = "pair") && (decide ((itemsD (nth x 1)).length = 2) && ascB (nth x 1) (n : Nat))) = false := by
          cases h1 : decide (strD (nth x 0) = "pair") <;> cases h2 : decide ((itemsD (nth x 1)).length = 2) <;> cases h5 : ascB (nth x 1) (n : Nat) <;> rw [h1, h2, h5] at hc <;> first | rfl | exact absurd hc (by decide)
        rw [this]
        rfl
      · rw [e3] at hc
        have g : decide (strD (nth x 0) = "pair") = true ∧ decide ((itemsD (nth x 1)).length = 2) = true ∧ ascB (nth x 1) (n : Nat) = true := by
          cases h1 : decide (strD (nth x 0) = "pair") <;> cases h2 : decide ((itemsD (nth x 1)).length = 2) <;> cases h5 : ascB (nth x 1) (n : Nat) <;> rw [h1, h2, h5] at hc <;> first | exact ⟨rfl, rfl, rfl⟩ | exact absurd hc (by decide)
        obtain ⟨g1, g2, g3⟩ := g
        have g2' : (itemsD (nth x 1)).length = 2 := of_decide_eq_true g2
        have gb : allB (itemsD (nth x 1)) (n : Nat) = true := by
          unfold ascB at g3
          simp only [Bool.and_eq_true] at g3
          exact g3.2.2.1
        obtain ⟨f1, f2⟩ := allB_nsD gb
        have at' : ∀ j, j < 2 → nth (nth x 1) j = .int ((natD (nth (nth x 1) j) : Nat) : Int) ∧ natD (nth (nth x 1) j) < n := fun j hj => by
          have hj2 : j < (itemsD (nth x 1)).length := by omega
          have hm : nth (nth x 1) j ∈ itemsD (nth x 1) := nth_mem hj2
          obtain ⟨i, hi⟩ := allB_int gb hm
          have hb := List.all_eq_true.mp gb _ hm
          rw [hi] at hb ⊢
          simp [blw] at hb
          refine ⟨?_, ?_⟩
          · show PyData.int i = .int ((i.toNat : Nat) : Int)
            rw [show ((i.toNat : Nat) : Int) = i by omega]
          · show i.toNat < n
            omega
        obtain ⟨p1, p2⟩ := at' 0 (by decide)
        obtain ⟨q1, q2⟩ := at' 1 (by decide)
        refine s_retF S3 (e_not (e_call (a_cons (e_var rfl) (a_cons ((e_ixS (j := 0) h4 (by omega) (i1 rfl) e_int).to (congrArg Bd.d p1)) (a_cons ((e_ixS (j := 1) h4 (by omega) (i1 rfl) e_int).to (congrArg Bd.d q1)) a_nil))) ⟨ts, n, natD (nth (nth x 1) 0), natD (nth (nth x 1) 1), rfl, mv, p2, q2, rfl, rfl⟩)) (fun d h => h.trans ?_) k fun b h => h
        rw [e0, g1, g2, g3]
        rfl
end Ag

/-! Some int; boxes; what is walked comes of a call. -/
namespace Ag
open PySem PySem.Spec PyProof.Rows L2
def AI : Bd → Prop := fun d => ∃ i : Int, d = .d (.int i)
section
variable {N : Nv} {M : Mm} {Γ : Cnt} {ta tb te : TE}
theorem si_of {i : Int} (h : E1 N M Γ ta (.d (.int i))) : Ev N M Γ ta AI := h.imp fun d e => ⟨i, e⟩
theorem si_0 {g : Int → Int → Int} (ha : Ev N M Γ ta AI) (hb : Ev N M Γ tb AI) : Ev N M Γ (tOp (rI0 fun i j => .int (g i j)) ta tb) AI := ev_op ha hb fun x y h1 h2 => by
  obtain ⟨i, rfl⟩ := h1
  obtain ⟨j, rfl⟩ := h2
  exact fun G H u v Q s hu hv k => rv_I0 G H u v Q s hu hv fun z d G' H' g e => k z d G' H' g ⟨_, e⟩
theorem si_r {C : Int → Int → Prop} {g : Int → Int → Int} {j : Int} (ha : Ev N M Γ ta AI) (hb : E1 N M Γ tb (.d (.int j))) (hc : ∀ i, C i j) : Ev N M Γ (tOp (rI C fun i j => .int (g i j)) ta tb) (fun d => ∃ i : Int, d = .d (.int (g i j))) := ev_op ha hb fun x y h1 h2 => by
  obtain ⟨i, rfl⟩ := h1
  subst h2
  exact fun G H u v Q s hu hv k => rv_I (hc i) G H u v Q s hu hv fun z d G' H' g e => k z d G' H' g ⟨i, e⟩
theorem si_l {C : Int → Int → Prop} {g : Int → Int → Int} {i : Int} (ha : E1 N M Γ ta (.d (.int i))) (hb : Ev N M Γ tb AI) (hc : ∀ j, C i j) : Ev N M Γ (tOp (rI C fun i j => .int (g i j)) ta tb) AI := ev_op ha hb fun x y h1 h2 => by
  obtain ⟨j, rfl⟩ := h2
  subst h1
  exact fun G H u v Q s hu hv k => rv_I (hc j) G H u v Q s hu hv fun z d G' H' g e => k z d G' H' g ⟨_, e⟩
theorem si_w {P : Bd → Prop} (h : Ev N M Γ ta P) (i : ∀ d, P d → AI d) : Ev N M Γ ta AI := h.imp i
theorem si_r' {C : Int → Int → Prop} {g : Int → Int → Int} {j : Int} (ha : Ev N M Γ ta AI) (hb : E1 N M Γ tb (.d (.int j))) (hc : ∀ i, C i j) : Ev N M Γ (tOp (rI C fun i j => .int (g i j)) ta tb) AI := (si_r ha hb hc).imp fun d ⟨i, e⟩ => ⟨_, e⟩
theorem si_int (h : Ev N M Γ te AI) : Ev N M Γ (tCB rInt (tCons te tNil)) AI := ev_cb (PA := fun bs => ∃ i : Int, bs = [.d (.int i)]) (ev_cons h a_nil fun d ds e1 e2 => by
  obtain ⟨i, rfl⟩ := e1
  exact ⟨i, by rw [e2]⟩) fun bs ⟨i, e⟩ => by
  subst e
  exact fun G H vs Q s h k => rc_int G H vs Q s h fun z d G' H' g e => k z d G' H' g ⟨_, e⟩
theorem si_abs (h : Ev N M Γ te AI) : Ev N M Γ (tCB rAbs (tCons te tNil)) AI := ev_cb (PA := fun bs => ∃ i : Int, bs = [.d (.int i)]) (ev_cons h a_nil fun d ds e1 e2 => by
  obtain ⟨i, rfl⟩ := e1
  exact ⟨i, by rw [e2]⟩) fun bs ⟨i, e⟩ => by
  subst e
  exact fun G H vs Q s h k => rc_abs G H vs Q s h fun z d G' H' g e => k z d G' H' g ⟨_, e⟩
/-- a test of two ints, whatever -/
theorem tp_any {g : Int → Int → Bool} (ha : Ev N M Γ ta AI) (hb : Ev N M Γ tb AI) : EvTP N M Γ (tTest (tOp (rI0 fun i j => .bl (g i j)) ta tb)) (fun _ => True) := tp_test (P := fun d => ∃ b : Bool, d = .d (.bool b)) (ev_op ha hb fun x y h1 h2 => by
  obtain ⟨i, rfl⟩ := h1
  obtain ⟨j, rfl⟩ := h2
  exact fun G H u v Q s hu hv k => rv_B0 G H u v Q s hu hv fun z d G' H' g e => k z d G' H' g ⟨_, e⟩) fun d ⟨b, e⟩ => ⟨b, e, trivial⟩

/-! ### boxes -/
theorem box_at {i : Nat} {x y z : Int} (hi : i < 3) : ∃ w : Int, [V.int x, .int y, .int z][i]? = some (.int w) := by
  match i, hi with
  | 0, _ => exact ⟨x, rfl⟩
  | 1, _ => exact ⟨y, rfl⟩
  | 2, _ => exact ⟨z, rfl⟩
theorem ev_box {b : Addr} {i : Nat} (hb : b ∈ M.B) (hi : i < 3) (ha : E1 N M Γ ta (.v (.ref b))) (hti : E1 N M Γ tb (.d (.int (i : Int)))) : Ev N M Γ (tOp (rIx N.K) ta tb) AI := fun G H σ Q s e bx k =>
  ha G H σ _ s e bx fun v d G1 H1 g1 b1 p1 h1 => hti G1 H1 σ _ g1.s (e.mono g1.g) b1 fun v2 d2 G2 H2 g2 b2 p2 h2 => by
    subst p1 p2
    obtain rfl : v = .ref b := h1
    rw [h2.int]
    obtain ⟨⟨x, y, z, e3⟩, _⟩ := b2.box b hb
    obtain ⟨w, hw⟩ := box_at (x := x) (y := y) (z := z) hi
    refine .inl ⟨_, _, _, .int w, rfl, rfl, .of e3, ?_, k _ _ G2 H2 (g1.trans g2) b2 ⟨w, rfl⟩ (Dt.int w)⟩
    unfold atI
    rw [show [V.int x, .int y, .int z].length = 3 from rfl, ixN_nat hi]
    exact hw
end
section
variable {F : Fx} {L : Hp} {M : Mm} {G H : Hp} {σ : L2.St} {Γ : Cnt} {D : Ends} {ta tb te : TE} {tz tb' : TS} {P : Bd → Prop}
/-- box[i] = e -/
theorem q_boxset {b : Addr} {i : Nat} (S : Sta F L M G H σ Γ) (hb : b ∈ M.B) (hi : i < 3) (h : Ev F.N M Γ te AI) (ha : E1 F.N M Γ ta (.v (.ref b))) (hti : E1 F.N M Γ tb (.d (.int (i : Int)))) (k : ∀ G' H', Sta F L M G' H' σ Γ → tz D σ H') : tSeq (tAsg te (gSub ta tb rSetL)) tz D σ H := by
  refine h G H σ _ S.s S.env S.mok fun v d G1 H1 g1 m1 p1 h1 => ?_
  have S1 := S.step g1 m1
  refine ha G1 H1 σ _ S1.s S1.env S1.mok fun v2 d2 G2 H2 g2 m2 p2 h2 => ?_
  have S2 := S1.step g2 m2
  refine hti G2 H2 σ _ S2.s S2.env S2.mok fun v3 d3 G3 H3 g3 m3 p3 h3 => ?_
  have S3 := S2.step g3 m3
  obtain ⟨w, rfl⟩ := p1
  subst p2 p3
  obtain rfl : v2 = .ref b := h2
  rw [h1.int, h3.int]
  obtain ⟨⟨x, y, z, e3⟩, n3⟩ := m3.box b hb
  refine ⟨b, _, _, i, rfl, rfl, e3, ixN_nat hi, k G3 _ ?_⟩
  have hbox : ∃ x' y' z' : Int, [V.int x, .int y, .int z].set i (.int w) = [.int x', .int y', .int z'] := by
    clear hti
    match i, hi with
    | 0, _ => exact ⟨w, y, z, rfl⟩
    | 1, _ => exact ⟨x, w, z, rfl⟩
    | 2, _ => exact ⟨x, y, w, rfl⟩
  refine S3.step ((Gr.wr S3.s n3 (fun _ h => by cases h)).sub (fun a ha => by simp at ha; rw [ha]; exact hb)) ⟨fun c hc => ?_, fun p hp => ?_⟩
  · by_cases q : c = b
    · subst q
      obtain ⟨x', y', z', e⟩ := hbox
      refine ⟨⟨x', y', z', ?_⟩, n3⟩
      rw [upd_same, e]
    · obtain ⟨⟨x', y', z', e⟩, n⟩ := m3.box c hc
      exact ⟨⟨x', y', z', by rw [upd_ne q]; exact e⟩, n⟩
  · obtain ⟨k0, k1, k2⟩ := m3.res p hp
    exact ⟨RHold.mono (Same.refl _) (fun o e => by rw [upd_ne (fun q => k2 (by rw [q]; exact hb))]; exact e) k0, k1, k2⟩
/-- for .. in range(e): e gives some number -/
theorem q_forArg {g : TG} (S : Sta F L M G H σ Γ) (h : Ev F.N M Γ te P) (hp : ∀ d, P d → AI d) (k : ∀ (n : Int) G' H', P (.d (.int n)) → Sta F L M G' H' σ Γ → tSeq (tFor (iRng1 (tCons (tC (.int n)) tNil)) g tb') tz D σ H') : tSeq (tFor (iRng1 (tCons te tNil)) g tb') tz D σ H := by
  refine h G H σ _ S.s S.env S.mok fun v d G1 H1 g1 m1 p1 h1 => ?_
  obtain ⟨n, rfl⟩ := hp d p1
  rw [h1.int]
  exact k n G1 H1 p1 (S.step g1 m1)
theorem ev_lcArg {N : Nv} {g : TG} {tt : TT} {t2 : TE} {vs : List Nat} {P2 : Bd → Prop} (h : Ev N M Γ te P) (hp : ∀ d, P d → AI d) (k : ∀ n : Int, P (.d (.int n)) → Ev N M Γ (tLc (iRng1 (tCons (tC (.int n)) tNil)) g tt t2 vs) P2) : Ev N M Γ (tLc (iRng1 (tCons te tNil)) g tt t2 vs) P2 := fun G H σ Q s e bx kk => by
  refine h G H σ _ s e bx fun v d G1 H1 g1 m1 p1 h1 => ?_
  obtain ⟨n, rfl⟩ := hp d p1
  rw [h1.int]
  exact k n p1 G1 H1 σ Q g1.s (e.mono g1.g) m1 fun v d G2 H2 g2 m2 p2 h2 => kk v d G2 H2 (g1.trans g2) m2 p2 h2
end

/-! ### a def that gives a new box -/
def SpcB (N : Nv) (Rl : List Bd → Prop) : Sp := fun vs H Q _ => ∃ (G : Hp) (bs : List Bd), Same G H ∧ HoldA N G vs bs ∧ Rl bs ∧ ∀ p G' H', Gr [] G H G' H' → H p = none → G' p = none → BoxAt H' p → Q (.ref p) H'
theorem fn_okB {P : Program} {N : Nv} {mg : Str → Option Value} {base : Heap} {x qual : Str} {st : Stmt} {f : Addr} {fd : FuncData} {Nm ps : List Str} {k m : Nat} {Rl : List Bd → Prop} {R : TS}
    (F : Fun N.K x qual st f fd) (S : FnScope Nm ps (defScope st)) (hl : ∀ bs, Rl bs → bs.length = ps.length) (hm : Nm.length - ps.length = m)
    (hD : ∀ (cdv : Value) (A : Around) (outer : List PySem.Env) (s : Shared) (H : Hp) (E : XK), Room k (A.deeper (envOfC qual (defScope st) s.heap.objs.size f cdv)) → PSs (cxOf CX0 P N.w N.K mg base Nm qual (defScope st) f cdv A outer s H E).nox (defBody st) R)
    (hW : ∀ bs, Rl bs → ∀ (G H : Hp) (σ : L2.St) (D : Ends), Sta ⟨N, [], G, H⟩ G ⟨[], []⟩ G H σ (bs.map some ++ List.replicate m none) → (∀ p G' H', Gr [] G H G' H' → H p = none → G' p = none → BoxAt H' p → D.rt (.ref p) H') → R D σ H) :
    FnOk P N.w N.K mg base CX0 (k + 1) f fd ps (SpcB N Rl) := by
  have len : ∀ vs H Q E, SpcB N Rl vs H Q E → vs.length = ps.length := fun vs H Q E h => by
    obtain ⟨G, bs, _, ha, rl, _⟩ := h
    exact (HoldA.length ha).trans (hl _ rl)
  refine F.ok S len fun cdv A outer s H vs Q E hr hsp => ⟨R, hD cdv A outer s H E hr, ?_⟩
  have hv := len _ _ _ _ hsp
  obtain ⟨G, bs, s0, ha, rl, kk⟩ := hsp
  have e : L2.start Nm vs = vs.map some ++ List.replicate m none := by
    unfold L2.start
    rw [hv, hm]
  rw [e]
  exact hW bs rl G H _ _ (sta_start m s0 ha (fun b hb => by simp at hb)) kk
section
variable {F : Fx} {L : Hp} {M : Mm} {G H : Hp} {σ : L2.St} {Γ : Cnt} {D : Ends} {tz : TS} {P : Bd → Prop}
theorem q_callB {ta : TA} {RlB : List Bd → Prop} {bs : List Bd} {i : Nat} (S : Sta F L M G H σ Γ) (h : A1 F.N M Γ ta bs) (hr : RlB bs)
    (k : ∀ p G' H', Sta F L ⟨p :: M.B, M.R⟩ G' H' (σ.set i (some (.ref p))) (Γ.set i (some (.v (.ref p)))) → tz D (σ.set i (some (.ref p))) H') : tSeq (tAsg (tCall (SpcB F.N RlB) [] E0 ta) (gName i)) tz D σ H := by
  refine h G H σ _ S.s S.env S.mok fun vs bs' G1 H1 g1 m1 p1 h1 => ?_
  subst p1
  have S1 := S.step g1 m1
  rw [List.append_nil]
  refine ⟨G1, _, S1.s, h1, hr, fun p G2 H2 g2 np n2 hb => ?_⟩
  have S2 := S1.pure g2
  refine k p G2 H2 (Sta.set (M := ⟨p :: M.B, M.R⟩) (b := .v (.ref p)) ⟨S2.gr, S2.low, S2.env, ⟨fun c hc => ?_, fun q hq => ?_⟩, fun c hc => ?_, S2.rm, S2.nd⟩ i rfl)
  · rcases List.mem_cons.mp hc with rfl | z
    · exact ⟨hb, n2⟩
    · exact S2.mok.box c z
  · obtain ⟨k0, k1, k2⟩ := S2.mok.res q hq
    refine ⟨k0, k1, fun z => ?_⟩
    rcases List.mem_cons.mp z with z | z
    · have := RHold.ne (m1.res q hq).1
      rw [z] at this
      exact this np
    · exact k2 z
  · rcases List.mem_cons.mp hc with rfl | z
    · right
      cases e : F.H0 c with
      | none => rfl
      | some u => exact absurd np (S1.gr.d c (by rw [e]; simp))
    · exact S2.bm c z
/-- f(box(..), more): the box is new -/
theorem ev_callNew {N : Nv} {ta tr : TA} {RlB : List Bd → Prop} {Rl : Rlt} {bs cs : List Bd} (h : A1 N M Γ ta bs) (hr : RlB bs) (ht : A1 N M Γ tr cs) (hq : ∀ p, Rl (.v (.ref p) :: cs) [p] P) : Ev N M Γ (tCall (Spc N Rl) [] E0 (tCons (tCall (SpcB N RlB) [] E0 ta) tr)) P := fun G H σ Q s e bx k => by
  refine h G H σ _ s e bx fun vs bs' G1 H1 g1 m1 p1 h1 => ?_
  subst p1
  rw [List.append_nil]
  refine ⟨G1, _, g1.s, h1, hr, fun p G2 H2 g2 np n2 hb => ?_⟩
  have m2 := m1.keep g2
  have gg := g1.trans g2.any
  refine ht G2 H2 σ _ gg.s (e.mono gg.g) m2 fun us cs' G3 H3 g3 m3 p3 h3 => ?_
  subst p3
  obtain ⟨x, y, z, eb⟩ := hb
  have fp : p ∉ M.B := fun q => by
    obtain ⟨⟨_, _, _, z⟩, _⟩ := m1.box p q
    rw [np] at z
    cases z
  have n3 : G3 p = none := by
    rw [g3.n p (NT.lst eb)]
    exact n2
  have b3 : BoxAt H3 p := ⟨x, y, z, g3.h _ _ fp eb⟩
  have g13 := gg.trans g3
  have hH : H p = none := by
    cases e : H p with
    | none => rfl
    | some u => exact absurd np (g1.d p (by rw [e]; simp))
  rw [List.append_nil]
  refine ⟨G3, .v (.ref p) :: cs', [p], P, g3.s, .cons rfl h3, fun b hb => ?_, hq p, fun v d G4 H4 g4 hb4 pd hv => ?_⟩
  · obtain rfl := List.mem_singleton.mp hb
    exact ⟨b3, n3⟩
  · refine k v d G4 H4 (g13.step g4 fun b hb => ?_) ?_ pd hv
    · obtain rfl := List.mem_singleton.mp hb
      exact .inr hH
    · refine ⟨fun b hb => ?_, fun q hq => ?_⟩
      · obtain ⟨⟨x', y', z', e'⟩, n'⟩ := m3.box b hb
        have ne : b ∉ [p] := fun z => fp (by rw [← List.mem_singleton.mp z]; exact hb)
        exact ⟨⟨x', y', z', g4.h _ _ ne e'⟩, by rw [g4.n b (NT.lst e')]; exact n'⟩
      · obtain ⟨k0, k1, k2⟩ := m3.res q hq
        have ne : q.1 ∉ [p] := fun z => by
          have := RHold.ne (m1.res q hq).1
          rw [List.mem_singleton.mp z] at this
          exact this np
        exact ⟨RHold.mono g4.g (fun o e' => g4.h _ _ ne e') k0, by rw [g4.n _ (RHold.nt k0)]; exact k1, k2⟩
end
end Ag

/-! The script's box, draws, tables, runs, logs. -/
namespace Ag
open PySem PySem.Spec PyProof.Rows L2
section
variable {N : Nv}
theorem rc_len_sq {ns : List Int} : RC N (rLen N.K N.w) [.sq ns] (fun d => d = .d (.int (ns.length : Nat))) := fun G H vs Q s h k => by
  obtain ⟨v, rfl, a, rfl, ha⟩ := vals_one h
  exact .inl ⟨a, _, rfl, .inl (s.seq ha), by rw [List.length_map]; exact k _ _ G H (.refl s) rfl (Dt.int _)⟩
theorem rv_ix_sq {ns : List Int} {j : Nat} (h : j < ns.length) : RV N (rIx N.K) (.sq ns) (.d (.int (j : Int))) (fun d => d = .d (.int ns[j])) := fun G H u v Q s hu hv k => by
  obtain ⟨a, rfl, ha⟩ := hu
  rw [hv.int]
  refine .inl ⟨a, _, _, .int ns[j], rfl, rfl, s.seq ha, ?_, k _ _ G H (.refl s) rfl (Dt.int _)⟩
  unfold atI
  rw [List.length_map, ixN_nat h]
  show (ns.map V.int)[j]? = _
  rw [List.getElem?_map, List.getElem?_eq_getElem h]
  rfl
end
def Rl__law_box : List Bd → Prop := fun bs => ∃ (ns : List Int) (k : Nat), bs = [.sq ns, .d (.int (k : Int))] ∧ k ≤ 1000
theorem cmul_l {i j : Int} (h : -(2 ^ 64) < i ∧ i < 2 ^ 64) : CMul i j := .inl h
theorem cmul_r {i j : Int} (h : -(2 ^ 64) < j ∧ j < 2 ^ 64) : CMul i j := .inr h
theorem si_ixL {N : Nv} {M : Mm} {Γ : Cnt} {ta tb : TE} {ns : List Int} {j : Nat} (ha : E1 N M Γ ta (.sq ns)) (hb : E1 N M Γ tb (.d (.int (j : Int)))) (hj : j < ns.length) : Ev N M Γ (tOp (rIx N.K) ta tb) AI := si_of (i := ns[j]) (e_op ha hb (rv_ix_sq hj))
/-- return [..], a new list, of which nothing is known -/
theorem s_retL {F : Fx} {L : Hp} {M : Mm} {G H : Hp} {σ : L2.St} {Γ : Cnt} {D : Ends} {tr : TA} {PA : List Bd → Prop} (S : Sta F L M G H σ Γ) (h : EvA F.N M Γ tr PA) (hl : ∀ bs, PA bs → bs.length ≤ 1000)
    (k : ∀ vs bs G' H' p, PA bs → HoldA F.N G' vs bs → Sta F L M G' H' σ Γ → H' p = none → D.rt (.ref p) (upd H' p (.lst vs))) : tRet (tLst tr) D σ H := h G H σ _ S.s S.env S.mok fun vs bs G2 H2 g2 m2 p2 h2 =>
  ⟨by rw [HoldA.length h2]; exact sz_le (by have := hl bs p2; omega), fun p np => k vs bs G2 H2 p p2 h2 (S.step g2 m2) np⟩
theorem W_box (N : Nv) : ∀ bs, Rl__law_box bs → ∀ (G H : Hp) (σ : L2.St) (D : Ends), Sta ⟨N, [], G, H⟩ G ⟨[], []⟩ G H σ (bs.map some ++ List.replicate 1 none) → (∀ p G' H', Gr [] G H G' H' → H p = none → G' p = none → BoxAt H' p → D.rt (.ref p) H') → R__law_box N D σ H := by
  rintro bs ⟨ns, k, rfl, hk⟩ G H σ D S kk
  refine q_asg (P := AI) S (si_0 (si_r' (si_of e_int) (e_var rfl) (fun i => cmul_r ⟨by omega, by omega⟩)) (si_of e_int)) fun v d G1 H1 pd S1 => ?_
  obtain ⟨c, rfl⟩ := pd
  have fin : ∀ (c : Int) (G' H' : Hp) (σ' : L2.St), Sta ⟨N, [], G, H⟩ G ⟨[], []⟩ G' H' σ' [some (.sq ns), some (.d (.int (k : Int))), some (.d (.int c))] → (tRet (tLst (tCons (tOp (rIx N.K) (tLst (tCons (tC (.int 0)) (tCons (tVar 2) tNil))) (tCB (rInt) (tCons (tOp (rI0 fun i j => .bl (decide (j ≤ i))) (tVar 2) (tOp (rI CPow fun i j => .int (i ^ j.toNat)) (tC (.int 10)) (tC (.int 18)))) tNil))) (tCons (tOp (rI0 fun i j => .int (i + j)) (tOp (rI (fun _ j => 0 < j) fun i j => .int (i % j)) (tCB (rInt) (tCons (tOp (rI0 fun i j => .int (i + j)) (tOp (rI CMul fun i j => .int (i * j)) (tOp (rI (fun _ j => 0 < j) fun i j => .int (i % j)) (tCB (rInt) (tCons (tVar 2) tNil)) (tC (.int 2147483477))) (tC (.int 36551))) (tOp (rI CMul fun i j => .int (i * j)) (tC (.int 31013)) (tVar 1))) tNil)) (tC (.int 2147483477))) (tC (.int 1))) (tCons (tC (.int 0)) tNil))))) D σ' H' := by
    intro c G' H' σ' S'
    have t0 : ∀ {M : Mm}, Ev N M [some (.sq ns), some (.d (.int (k : Int))), some (.d (.int c))] (tOp (rIx N.K) (tLst (tCons (tC (.int 0)) (tCons (tVar 2) tNil))) (tCB (rInt) (tCons (tOp (rI0 fun i j => .bl (decide (j ≤ i))) (tVar 2) (tOp (rI CPow fun i j => .int (i ^ j.toNat)) (tC (.int 10)) (tC (.int 18)))) tNil))) AI := by
      intro M
      have hb : E1 N M [some (.sq ns), some (.d (.int (k : Int))), some (.d (.int c))] (tCB (rInt) (tCons (tOp (rI0 fun i j => .bl (decide (j ≤ i))) (tVar 2) (tOp (rI CPow fun i j => .int (i ^ j.toNat)) (tC (.int 10)) (tC (.int 18)))) tNil)) (.d (.int (if decide ((10 : Int) ^ (18 : Int).toNat ≤ c) = true then 1 else 0))) := e_cb (a_cons (e_op (e_var rfl) (e_op e_int e_int (rv_I ⟨by decide, by decide, by decide⟩)) rv_B0) a_nil) rc_intB
      cases hh : decide ((10 : Int) ^ (18 : Int).toNat ≤ c) with
      | true =>
        rw [hh] at hb
        exact si_of (i := c) (e_ixL (ds := [.int 0, .int c]) (j := 1) (e_lst (ds := [.int 0, .int c]) (a_cons e_int (a_cons (e_var rfl) a_nil))) hb rfl)
      | false =>
        rw [hh] at hb
        exact si_of (i := 0) (e_ixL (ds := [.int 0, .int c]) (j := 0) (e_lst (ds := [.int 0, .int c]) (a_cons e_int (a_cons (e_var rfl) a_nil))) hb rfl)
    have t1 : ∀ {M : Mm}, Ev N M [some (.sq ns), some (.d (.int (k : Int))), some (.d (.int c))] (tOp (rI0 fun i j => .int (i + j)) (tOp (rI (fun _ j => 0 < j) fun i j => .int (i % j)) (tCB (rInt) (tCons (tOp (rI0 fun i j => .int (i + j)) (tOp (rI CMul fun i j => .int (i * j)) (tOp (rI (fun _ j => 0 < j) fun i j => .int (i % j)) (tCB (rInt) (tCons (tVar 2) tNil)) (tC (.int 2147483477))) (tC (.int 36551))) (tOp (rI CMul fun i j => .int (i * j)) (tC (.int 31013)) (tVar 1))) tNil)) (tC (.int 2147483477))) (tC (.int 1))) AI := fun {M} => si_0 (si_r' (si_int (si_0 (si_r' (si_r' (si_int (si_of (e_var rfl))) e_int (fun i => by decide)) e_int (fun i => cmul_r (by decide))) (si_r' (si_of e_int) (e_var rfl) (fun i => cmul_r ⟨by omega, by omega⟩)))) e_int (fun i => by decide)) (si_of e_int)
    have ta := ev_cons (PB := fun bs => ∃ x y z : Int, bs = [.d (.int x), .d (.int y), .d (.int z)]) (t0 (M := ⟨[], []⟩)) (ev_cons (PB := fun bs => ∃ y z : Int, bs = [.d (.int y), .d (.int z)]) t1 (ev_cons (PB := fun bs => ∃ z : Int, bs = [.d (.int z)]) (e_int (i := 0)) a_nil fun d ds e1 e2 => ⟨0, by rw [e1, e2]⟩) fun d ds e1 e2 => by
        obtain ⟨y, rfl⟩ := e1
        obtain ⟨z, rfl⟩ := e2
        exact ⟨y, z, rfl⟩) fun d ds e1 e2 => by
        obtain ⟨x, rfl⟩ := e1
        obtain ⟨y, z, rfl⟩ := e2
        exact ⟨x, y, z, rfl⟩
    refine s_retL S' ta (fun bs h => by
      obtain ⟨x, y, z, rfl⟩ := h
      exact Nat.le_of_ble_eq_true rfl) fun vs bs G2 H2 p p2 h2 S2 np => ?_
    obtain ⟨x, y, z, rfl⟩ := p2
    have hv : vs = [.int x, .int y, .int z] := DtA.ints (ns := [x, y, z]) (HoldA.data (ds := [.int x, .int y, .int z]) h2)
    subst hv
    have g3 := Gr.newM (o := .lst [.int x, .int y, .int z]) S2.s np
    have S3 := S2.pure g3
    have hp0 : H p = none := by
      cases e : H p with
      | none => rfl
      | some u => exact absurd np (S2.gr.d p (by show H p ≠ none; rw [e]; simp))
    refine kk p G2 _ S3.gr hp0 ?_ ⟨x, y, z, upd_same⟩
    cases e : G2 p with
    | none => rfl
    | some u =>
      rw [S2.s _ _ e] at np
      cases np
  refine q_if S1 (t_test (e_op (e_var rfl) (e_cb (a_cons (e_var rfl) a_nil) rc_len_sq) rv_B0)) (fun hc G2 H2 S2 => ?_) (fun hc G2 H2 S2 => ?_)
  · have hlt : k < ns.length := by
      have := of_decide_eq_true hc
      omega
    refine s_asg (P := AI) S2 (si_abs (si_ixL (e_var rfl) (e_var rfl) hlt)) fun v d G3 H3 pd S3 => ?_
    obtain ⟨c', rfl⟩ := pd
    exact fin c' G3 H3 _ S3
  · refine s_if S2 (t_test (e_op (e_cb (a_cons (e_var rfl) a_nil) rc_len_sq) e_int rv_B0)) (fun hc G3 H3 S3 => ?_) (fun hc G3 H3 S3 => ?_)
    · have hpos : 0 < ns.length := by
        have := of_decide_eq_true hc
        omega
      have hm : E1 N ⟨[], []⟩ [some (.sq ns), some (.d (.int (k : Int))), some (.d (.int c))] (tOp (rI (fun _ j => 0 < j) fun i j => .int (i % j)) (tCB (rInt) (tCons (tVar 1) tNil)) (tCB (rLen N.K N.w) (tCons (tVar 0) tNil))) (.d (.int ((k % ns.length : Nat) : Int))) := (e_op (e_cb (a_cons (e_var rfl) a_nil) rc_int) (e_cb (a_cons (e_var rfl) a_nil) rc_len_sq) (rv_I (by omega))).to rfl
      refine s_asg (P := AI) S3 (si_0 (si_of (e_var rfl)) (si_r' (si_r' (si_int (si_abs (si_ixL (e_var rfl) hm (Nat.mod_lt _ hpos)))) e_int (fun i => by decide)) e_int (fun i => cmul_r (by decide)))) fun v d G4 H4 pd S4 => ?_
      obtain ⟨c', rfl⟩ := pd
      exact fin c' G4 H4 _ S4
    · exact fin c G3 H3 _ S3

def Rl__law_take : Rlt := fun bs B P => ∃ (b : Addr) (m : Nat), bs = [.v (.ref b), .d (.int (m : Int))] ∧ 0 < m ∧ m < 1073741824 ∧ B = [b] ∧ P = fun d => ∃ n : Nat, n < m ∧ d = .d (.int (n : Nat))
theorem mod_nat {i : Int} {m : Nat} (h : 0 < m) : ∃ n : Nat, n < m ∧ i % (m : Int) = (n : Nat) := by
  have h1 := Int.emod_nonneg i (b := (m : Int)) (by omega)
  have h2 := Int.emod_lt_of_pos i (b := (m : Int)) (by omega)
  exact ⟨(i % (m : Int)).toNat, by omega, by omega⟩
theorem W__law_take (N : Nv) : Walk N (R__law_take N) Rl__law_take 2 := by
  rintro bs B P ⟨b, m, rfl, m0, m1, rfl, rfl⟩ G H σ D S k
  have bx : ∀ {Γ : Cnt} {i : Nat}, Γ[0]? = some (some (.v (.ref b))) → i < 3 → Ev N ⟨[b], []⟩ Γ (tOp (rIx N.K) (tVar 0) (tC (.int (i : Int)))) AI := fun h hi => ev_box (by simp) hi (e_var h) e_int
  refine q_ifP S (tp_any (bx (i := 0) rfl (by decide)) (si_of e_int)) (fun _ G1 H1 S1 => ?_) (fun _ G1 H1 S1 => ?_)
  · refine q_asg (P := fun d => ∃ i : Int, d = .d (.int (i % (m : Int)))) S1 (si_r (si_int (bx (i := 0) rfl (by decide))) (e_var rfl) (fun i => by omega)) fun v d G2 H2 pd S2 => ?_
    obtain ⟨i, rfl⟩ := pd
    refine q_boxset (b := b) (i := 0) S2 (by simp) (by decide) (si_r' (bx (i := 0) rfl (by decide)) (e_var rfl) (fun i => ⟨by omega, by omega⟩)) (e_var rfl) e_int fun G3 H3 S3 => ?_
    refine s_retF S3 (e_var rfl) (fun d h => ?_) k fun c hc => hc
    obtain ⟨n, hn, e⟩ := mod_nat (i := i) m0
    exact ⟨n, hn, by rw [h, e]⟩
  · refine q_boxset (b := b) (i := 2) S1 (by simp) (by decide) (si_0 (bx (i := 2) rfl (by decide)) (si_of e_int)) (e_var rfl) e_int fun G3 H3 S3 => ?_
    refine q_asg (P := AI) S3 (si_r' (si_int (si_0 (si_r' (si_0 (bx (i := 1) rfl (by decide)) (si_l e_int (bx (i := 2) rfl (by decide)) (fun j => cmul_l (by decide)))) e_int (fun i => cmul_r (by decide))) (si_of e_int))) e_int (fun i => by decide)) fun v d G4 H4 pd S4 => ?_
    obtain ⟨r, rfl⟩ := pd
    refine q_boxset (b := b) (i := 1) S4 (by simp) (by decide) (si_0 (si_r' (si_int (si_0 (si_r' (si_of (e_var rfl)) e_int (fun i => cmul_r (by decide))) (si_of e_int))) e_int (fun i => by decide)) (si_of e_int)) (e_var rfl) e_int fun G5 H5 S5 => ?_
    refine s_retF S5 (si_r (si_int (si_r' (si_0 (si_r' (si_of (e_var rfl)) e_int (fun i => cmul_r (by decide))) (bx (i := 1) rfl (by decide))) e_int (fun i => ⟨by decide, by decide⟩))) (e_var rfl) (fun i => by omega)) (fun d h => ?_) k fun c hc => hc
    obtain ⟨i, rfl⟩ := h
    obtain ⟨n, hn, e⟩ := mod_nat (i := i) m0
    exact ⟨n, hn, by rw [e]⟩

def Rl__law_pick : Rlt := fun bs B P => ∃ (b : Addr) (ds : List PyData), bs = [.v (.ref b), .d (.list ds)] ∧ ds ≠ [] ∧ ds.length < 1073741824 ∧ B = [b] ∧ P = fun d => ∃ x ∈ ds, d = .d x
/-- a call with a box -/
theorem ev_callBx {N : Nv} {M : Mm} {Γ : Cnt} {Rl : Rlt} {ta : TA} {bs : List Bd} {B : List Addr} {P : Bd → Prop} (h : A1 N M Γ ta bs) (hr : Rl bs B P) (hB : ∀ b ∈ B, b ∈ M.B) : Ev N M Γ (tCall (Spc N Rl) [] E0 ta) P := ev_call h fun bs' e => by
  subst e
  exact ⟨B, _, hr, hB, fun _ h => h⟩
theorem W__law_pick (N : Nv) : Walk N (R__law_pick N (Spc N Rl__law_take)) Rl__law_pick 0 := by
  rintro bs B P ⟨b, ds, rfl, hne, hl, rfl, rfl⟩ G H σ D S k
  refine s_retF S (ev_op (P := fun d => ∃ x ∈ ds, d = .d x) (e_var rfl) (ev_callBx (B := [b]) (a_cons (e_var rfl) (a_cons (e_cb (a_cons (e_var rfl) a_nil) (rc_len (.inr rfl))) a_nil)) ⟨b, ds.length, rfl, List.length_pos_iff.mpr hne, hl, rfl, rfl⟩ fun _ h => h) fun x y h1 h2 => ?_) (fun d h => h) k fun c hc => hc
  subst h1
  obtain ⟨n, hn, rfl⟩ := h2
  intro G H u v Q s hu hv k
  exact rv_ix (j := n) _ (.inr rfl) (ixN_nat hn) (List.getElem?_eq_getElem hn) G H u v Q s hu hv fun z d G' H' g e => k z d G' H' g ⟨_, List.getElem_mem hn, e⟩

/-! ### runs -/
def runL (ts : List (List Nat)) (s : Nat) (w : List Nat) : List Nat := (List.range (w.length + 1)).map fun i => run ts s (w.take i)
def Rl__law_run : Rlt := fun bs B P => ∃ (ts : List (List Nat)) (n s : Nat) (w : List Nat), bs = [.d (tlD ts), .d (.int (s : Int)), .d (tnD w)] ∧ MV ts n ∧ s < n ∧ (∀ d ∈ w, d < ts.length) ∧ w.length ≤ 1000 ∧ B = [] ∧ P = fun d => d = .d (.list (nsD (runL ts s w)))
theorem runL_last {ts : List (List Nat)} {s : Nat} {w : List Nat} : (nsD (runL ts s w)).getLast? = some (.int (run ts s w : Nat)) := by
  unfold runL nsD
  rw [List.range_succ, List.map_append, List.map_append, List.getLast?_append]
  simp
theorem runL_step {ts : List (List Nat)} {s : Nat} {w : List Nat} {i : Nat} : (List.range (i + 1 + 1)).map (fun i => run ts s (w.take i)) = (List.range (i + 1)).map (fun i => run ts s (w.take i)) ++ [run ts s (w.take (i + 1))] := by
  rw [List.range_succ, List.map_append]
  rfl
theorem W__law_run (N : Nv) : Walk N (R__law_run N) Rl__law_run 2 := by
  rintro bs B P ⟨ts, n, s, w, rfl, mv, hs, hw, hwl, rfl, rfl⟩ G H σ D S k
  refine q_newL (ds := [.int (s : Int)]) S (a_cons (e_var rfl) a_nil) (show 1 ≤ 90000 from by decide) fun p G1 H1 S1 => ?_
  refine q_for1 (a := 4) S1 (i_seq (ds := nsD w) (e_var rfl) (.inl rfl)) (fun i M' => M' = ⟨[], [(p, .lst (nsD ((List.range (i + 1)).map fun i => run ts s (w.take i))))]⟩) rfl (fun i x M' L' G' H' σ' hx pv S' => ?_) (fun M' G' H' σ' pv S' => ?_)
  · obtain rfl := pv
    obtain ⟨d, hd, rfl⟩ := nsD_get hx
    have hi : i < w.length := (List.getElem?_eq_some_iff.mp hd).1
    have hdl := hw d (List.mem_of_getElem? hd)
    refine s_app (j := 0) (l := p) (ds := nsD ((List.range (i + 1)).map fun i => run ts s (w.take i))) S' rfl (e_var rfl) (e_step mv (.inr rfl) (e_var rfl) (e_var rfl) (e_ixR (j := 0) (m := i) (x := .int (run ts s (w.take i) : Nat)) (i := -1) rfl (e_var rfl) (e_neg e_int) ?_ ?_) hdl (run_lt mv (fun d h => hw d (List.mem_of_mem_take h)) hs)) (fun d h => ⟨_, h⟩) ?_ fun y G2 H2 ey S2 => ?_
    · unfold nsD
      rw [List.length_map, List.length_map, List.length_range]
      exact ixN_last (by omega)
    · unfold nsD
      rw [List.getElem?_map, List.getElem?_map, List.getElem?_range (by omega)]
      rfl
    · unfold nsD
      rw [List.length_map, List.length_map, List.length_range]
      omega
    · have ey := bd_inj ey
      subst ey
      refine ⟨_, G2, ?_, S2.forget 4⟩
      show Mm.mk _ _ = Mm.mk _ _
      congr 1
      simp only [List.set_cons_zero]
      rw [runL_step]
      congr 3
      unfold nsD
      rw [List.map_append, take_succ_at hd, run_snoc]
      rfl
  · obtain rfl := pv
    have el : ((nsD w).map Bd.d).length = w.length := by
      unfold nsD
      rw [List.length_map, List.length_map]
    rw [el] at S'
    obtain ⟨G2, S2, _, _⟩ := S'.freeze (i := 3) (j := 0) rfl rfl
    exact s_retF S2 (e_var rfl) (fun d h => h) k fun c hc => by cases hc

/-! ### logs -/
def Rl__law_log : Rlt := fun bs B P => ∃ (b : Addr) (ts : List (List Nat)) (n m : Nat), bs = [.v (.ref b), .d (tlD ts), .d (.int (m : Int))] ∧ MV ts n ∧ m ≤ 1000 ∧ B = [b] ∧ P = fun d => ∃ w : List Nat, w.length ≤ m ∧ (∀ x ∈ w, x < ts.length) ∧ d = .d (tnD w)
theorem nats_of {p : Nat → Prop} : ∀ {xs : List Bd} {ys : List PyData}, Paired (fun _ y => ∃ i : Nat, p i ∧ y = .int (i : Nat)) xs ys → ∃ l : List Nat, l.length = xs.length ∧ (∀ i ∈ l, p i) ∧ ys = nsD l
  | [], [], .nil => ⟨[], rfl, fun i h => (by cases h), rfl⟩
  | _ :: _, _ :: _, .cons h r => by
    obtain ⟨i, hi, rfl⟩ := h
    obtain ⟨l, h1, h2, rfl⟩ := nats_of r
    refine ⟨i :: l, by simp [h1], fun j hj => ?_, rfl⟩
    rcases List.mem_cons.mp hj with rfl | z
    · exact hi
    · exact h2 j z
theorem W__law_log (N : Nv) : Walk N (R__law_log N (Spc N Rl__law_take)) Rl__law_log 1 := by
  rintro bs B P ⟨b, ts, n, m, rfl, mv, hm, rfl, rfl⟩ G H σ D S k
  have k1 := mv.k1
  have k8 := mv.k8
  have t1 : Ev N ⟨[b], []⟩ ([Bd.v (.ref b), .d (tlD ts), .d (.int (m : Int))].map some ++ List.replicate 1 none) (tLc (iRng1 (tCons (tCall (Spc N Rl__law_take) [] E0 (tCons (tVar 0) (tCons (tOp (rI0 fun i j => .int (i + j)) (tVar 2) (tC (.int 1))) tNil))) tNil)) (gName 3) tYes (tCall (Spc N Rl__law_take) [] E0 (tCons (tVar 0) (tCons (tCB (rLen N.K N.w) (tCons (tVar 1) tNil)) tNil))) [3]) (fun d => ∃ w : List Nat, w.length ≤ m ∧ (∀ x ∈ w, x < ts.length) ∧ d = .d (.list (nsD w))) := by
    refine ev_lcArg (P := fun d => ∃ j : Nat, j < m + 1 ∧ d = .d (.int (j : Nat))) (ev_callBx (B := [b]) (a_cons (e_var rfl) (a_cons (e_op (e_var rfl) e_int rv_I0) a_nil)) ⟨b, m + 1, rfl, by omega, by omega, rfl, rfl⟩ fun _ h => h) (fun d ⟨j, _, e⟩ => ⟨_, e⟩) fun j hj => ?_
    obtain ⟨j', hj', e⟩ := hj
    cases e
    refine (ev_lc (xs := rgD 0 j') (fun x => ((([Bd.v (.ref b), .d (tlD ts), .d (.int (m : Int))].map some ++ List.replicate 1 none).set 3 none).set 3 (some x))) (fun _ => true) (fun _ y => ∃ i : Nat, i < ts.length ∧ y = .int (i : Nat)) (i_rg1 (n := j') (a_cons e_int a_nil) (by omega)).i (by rw [rgD_len]; omega) (fun _ _ => g_name) (fun _ _ => t_yes) fun x _ _ => ?_).imp fun d hd => ?_
    · exact (ev_callBx (B := [b]) (a_cons (e_var rfl) (a_cons (e_cb (a_cons (e_var rfl) a_nil) (rc_len (.inr rfl))) a_nil)) ⟨b, ts.length, by rw [List.length_map], by omega, by omega, rfl, rfl⟩ fun _ h => h).imp fun d ⟨i, hi, e⟩ => ⟨_, e, i, hi, rfl⟩
    · obtain ⟨ys, rfl, hp⟩ := hd
      rw [filter_yes] at hp
      obtain ⟨l, h1, h2, rfl⟩ := nats_of (p := fun i => i < ts.length) hp
      rw [rgD_len] at h1
      exact ⟨l, by omega, h2, rfl⟩
  refine s_retF S (ev_cb (PA := fun bs => ∃ w : List Nat, w.length ≤ m ∧ (∀ x ∈ w, x < ts.length) ∧ bs = [.d (.list (nsD w))]) (ev_cons t1 a_nil fun d ds e1 e2 => ?_) fun bs hb => ?_) (fun d h => h) k fun c hc => hc
  · obtain ⟨w, h1, h2, rfl⟩ := e1
    exact ⟨w, h1, h2, by rw [e2]⟩
  · obtain ⟨w, h1, h2, rfl⟩ := hb
    exact fun G H vs Q s h k => rc_tup (.inr rfl) G H vs Q s h fun z d G' H' g e => k z d G' H' g ⟨w, h1, h2, e⟩
end Ag

/-! The drawn tables. -/
namespace Ag
open PySem PySem.Spec PyProof.Rows L2
theorem rep_flat {α : Type} (x : α) : ∀ n : Nat, (List.replicate n [x]).flatten = List.replicate n x
  | 0 => rfl
  | n + 1 => by rw [List.replicate_succ, List.flatten_cons, rep_flat x n]; rfl
def natsI (n : Nat) : List PyData := nsD (List.range n)
theorem rgD_nats (n : Nat) : rgD 0 n = (natsI n).map Bd.d := by
  unfold rgD natsI nsD
  rw [List.map_map]
  refine List.map_congr_left fun i _ => ?_
  show Bd.d (.int (0 + (i : Nat))) = Bd.d (.int (i : Nat))
  rw [Int.zero_add]
theorem natD_nat (n : Nat) : natD (.int (n : Int)) = n := by
  show ((n : Int)).toNat = n
  omega
/-- [e for i in range(n) if ..] -/
theorem e_lcRg {N : Nv} {M : Mm} {Γ : Cnt} {a n : Nat} {ta : TA} {tt : TT} {te : TE} (h : A1 N M Γ ta [.d (.int (n : Int))]) (hn : n ≤ 90000) (f : Nat → Bool) (g : Nat → PyData)
    (ht : ∀ i, i < n → EvT N M ((Γ.set a none).set a (some (.d (.int (i : Nat))))) tt (f i)) (he : ∀ i, i < n → f i = true → E1 N M ((Γ.set a none).set a (some (.d (.int (i : Nat))))) te (.d (g i))) :
    E1 N M Γ (tLc (iRng1 ta) (gName a) tt te [a]) (.d (.list (((List.range n).filter f).map g))) := by
  have hi := (i_rg1 h (by omega)).i
  rw [rgD_nats] at hi
  refine (e_lc1 (fun x => f (natD x)) (fun x => g (natD x)) hi (by unfold natsI nsD; rw [List.length_map, List.length_range]; omega) (fun x hx => ?_) fun x hx hf => ?_).to ?_
  · obtain ⟨i, hi, rfl⟩ := mem_nsD hx
    have hi := List.mem_range.mp hi
    exact (ht i hi).to (by rw [natD_nat])
  · obtain ⟨i, hi, rfl⟩ := mem_nsD hx
    have hi := List.mem_range.mp hi
    rw [natD_nat] at hf
    exact (he i hi hf).to (by rw [natD_nat])
  · unfold natsI nsD
    rw [List.filter_map, List.map_map]
    rfl
theorem e_lcRn {N : Nv} {M : Mm} {Γ : Cnt} {a n : Nat} {ta : TA} {te : TE} (h : A1 N M Γ ta [.d (.int (n : Int))]) (hn : n ≤ 90000) (g : Nat → Nat)
    (he : ∀ i, i < n → E1 N M ((Γ.set a none).set a (some (.d (.int (i : Nat))))) te (.d (.int (g i : Nat)))) : E1 N M Γ (tLc (iRng1 ta) (gName a) tYes te [a]) (.d (.list (nsD ((List.range n).map g)))) := by
  refine (e_lcRg h hn (fun _ => true) (fun i => .int (g i : Nat)) (fun _ _ => t_yes) fun i hi _ => he i hi).to ?_
  rw [filter_yes]
  unfold nsD
  rw [List.map_map]
  rfl
def Rl__law_tables : Rlt := fun bs B P => ∃ (b : Addr) (ss kk : List Nat), bs = [.v (.ref b), .d (.list (nsD ss)), .d (.list (nsD kk))] ∧ ss ≠ [] ∧ ss.length ≤ 100 ∧ (∀ s ∈ ss, 1 ≤ s ∧ s ≤ 12) ∧ kk ≠ [] ∧ kk.length ≤ 100 ∧ (∀ s ∈ kk, 1 ≤ s ∧ s ≤ 8) ∧ B = [b] ∧ P = fun d => ∃ (ts : List (List Nat)) (n : Nat), MV ts n ∧ n ∈ ss ∧ ts.length ∈ kk ∧ d = .d (tlD ts)
theorem nsD_len (l : List Nat) : (nsD l).length = l.length := by
  unfold nsD
  rw [List.length_map]
theorem W__law_tables (N : Nv) : Walk N (R__law_tables N (Spc N Rl__law_pick) (Spc N Rl__law_take)) Rl__law_tables 7 := by
  rintro bs B P ⟨b, ss, kk, rfl, s0, sl, sb, k0, kl, kb, rfl, rfl⟩ G H σ D S k
  refine q_tupNil (P := fun d => ∃ n ∈ ss, d = .d (.int (n : Nat))) S ((ev_callBx (B := [b]) (a_cons (e_var rfl) (a_cons (e_var rfl) a_nil)) ⟨b, nsD ss, rfl, by unfold nsD; simpa using s0, by rw [nsD_len]; omega, rfl, rfl⟩ fun _ h => h).imp fun d ⟨x, hx, e⟩ => by
    obtain ⟨n, hn, rfl⟩ := mem_nsD hx
    exact ⟨n, hn, e⟩) (fun d ⟨n, _, e⟩ => ⟨_, e⟩) fun x u p G1 H1 pd S1 => ?_
  obtain ⟨n, hn, e⟩ := pd
  cases e
  obtain ⟨n1, n12⟩ := sb n hn
  refine q_forArg (P := fun d => ∃ n ∈ kk, d = .d (.int (n : Nat))) S1 ((ev_callBx (B := [b]) (a_cons (e_var rfl) (a_cons (e_var rfl) a_nil)) ⟨b, nsD kk, rfl, by unfold nsD; simpa using k0, by rw [nsD_len]; omega, rfl, rfl⟩ fun _ h => h).imp fun d ⟨x, hx, e⟩ => by
    obtain ⟨n, hn, rfl⟩ := mem_nsD hx
    exact ⟨n, hn, e⟩) (fun d ⟨n, _, e⟩ => ⟨_, e⟩) fun m' G2 H2 pd S2 => ?_
  obtain ⟨m, hm, e⟩ := pd
  cases e
  obtain ⟨m1, m8⟩ := kb m hm
  let Γ (o6 o7 o8 : Option Bd) : Cnt := [some (.v (.ref b)), some (.d (.list (nsD ss))), some (.d (.list (nsD kk))), none, some (.d (.int (n : Nat))), some (.v (.ref p)), o6, o7, o8, none]
  refine q_for1 (a := 3) S2 (i_rg1 (n := m) (a_cons e_int a_nil) (by omega)) (fun i M' => ∃ ts : List (List Nat), ts.length = i ∧ (∀ t ∈ ts, t.length = n ∧ ∀ x ∈ t, x < n) ∧ M' = ⟨[b], [(p, .lst (ts.map tnD))]⟩) ⟨[], rfl, fun t h => (by cases h), rfl⟩ (fun i x M' L' G' H' σ' hx pv S' => ?_) (fun M' G' H' σ' pv S' => ?_)
  · obtain ⟨ts, hts, hrow, rfl⟩ := pv
    have S' := S'.forget 3
    have hi : i < m := (rgD_get hx).1
    have tk : ∀ {Γ : Cnt} {te : TE} {m : Nat}, Γ[0]? = some (some (.v (.ref b))) → 0 < m → m < 1073741824 → E1 N ⟨[b], [(p, .lst (ts.map tnD))]⟩ Γ te (.d (.int (m : Int))) → Ev N ⟨[b], [(p, .lst (ts.map tnD))]⟩ Γ (tCall (Spc N Rl__law_take) [] E0 (tCons (tVar 0) (tCons te tNil))) (fun d => ∃ n : Nat, n < m ∧ d = .d (.int (n : Nat))) := fun h0 h1 h2 h3 => ev_callBx (B := [b]) (a_cons (e_var h0) (a_cons h3 a_nil)) ⟨b, _, rfl, h1, h2, rfl, rfl⟩ fun _ h => h
    refine q_two (i := 7) (j := 8) (P := fun d => ∃ s y : Nat, y < n ∧ d = .d (.tuple [.int (s : Nat), .int (y : Nat)])) S' (ev_tup (PA := fun bs => ∃ s y : Nat, y < n ∧ bs = [.d (.int (s : Nat)), .d (.int (y : Nat))]) (ev_cons (PA := fun bs => ∃ y : Nat, y < n ∧ bs = [.d (.int (y : Nat))]) (tk (m := 6) rfl (by omega) (by omega) e_int) (ev_cons (tk (m := n) rfl (by omega) (by omega) (e_var rfl)) a_nil fun d ds h1 h2 => ?_) fun d ds h1 h2 => ?_) fun bs h => ?_) (fun d ⟨s, y, _, e⟩ => ⟨_, _, e⟩) fun u v x y G3 H3 pd S3 => ?_
    · obtain ⟨y, hy, rfl⟩ := h1
      exact ⟨y, hy, by rw [h2]⟩
    · obtain ⟨s, _, rfl⟩ := h1
      obtain ⟨y, hy, rfl⟩ := h2
      exact ⟨s, y, hy, rfl⟩
    · obtain ⟨s, y, hy, rfl⟩ := h
      exact ⟨[.int (s : Nat), .int (y : Nat)], rfl, Nat.le_of_ble_eq_true rfl, s, y, hy, rfl⟩
    · obtain ⟨s, y, hy, e⟩ := pd
      cases e
      have app : ∀ (l : List Nat) G' H' σ', l.length = n → (∀ x ∈ l, x < n) → Sta ⟨N, [b], G, H⟩ L' ⟨[b], [(p, .lst (ts.map tnD))]⟩ G' H' σ' (Γ (some (.d (.list (nsD l)))) (some (.d (.int (s : Nat)))) (some (.d (.int (y : Nat))))) →
          tDrop (tBM N.K "list" rAppend (tVar 5) (tCons (tCB (rTup N.K) (tCons (tVar 6) tNil)) tNil)) { D with nx := Nx ⟨N, [b], G, H⟩ L' (fun i M' => ∃ ts : List (List Nat), ts.length = i ∧ (∀ t ∈ ts, t.length = n ∧ ∀ x ∈ t, x < n) ∧ M' = ⟨[b], [(p, .lst (ts.map tnD))]⟩) (Γ none none none) i, ct := Nx ⟨N, [b], G, H⟩ L' (fun i M' => ∃ ts : List (List Nat), ts.length = i ∧ (∀ t ∈ ts, t.length = n ∧ ∀ x ∈ t, x < n) ∧ M' = ⟨[b], [(p, .lst (ts.map tnD))]⟩) (Γ none none none) i, bk := tRet (tVar 5) D } σ' H' := fun l G' H' σ' hl hx S' => by
        refine s_app (j := 0) (l := p) (ds := ts.map tnD) S' rfl (e_var rfl) (e_cb (a_cons (e_var rfl) a_nil) (rc_tup (.inr rfl))) (fun d h => ⟨_, h⟩) (by rw [List.length_map]; omega) fun z G4 H4 ez S4 => ?_
        have ez := bd_inj ez
        subst ez
        refine ⟨_, G4, ⟨ts ++ [l], by simp [hts], fun t ht => ?_, ?_⟩, ((S4.forget 6).forget 7).forget 8⟩
        · rcases List.mem_append.mp ht with ht | ht
          · exact hrow t ht
          · obtain rfl := List.mem_singleton.mp ht
            exact ⟨hl, hx⟩
        · rw [List.map_append]
          rfl
      refine q_asg (P := fun d => ∃ l : List Nat, l.length = n ∧ (∀ x ∈ l, x < n) ∧ d = .d (.list (nsD l))) S3 ((ev_lc (xs := rgD 0 n) (fun x => ((Γ none (some (.d (.int (s : Nat)))) (some (.d (.int (y : Nat))))).set 9 none).set 9 (some x)) (fun _ => true) (fun _ y => ∃ i : Nat, i < n ∧ y = .int (i : Nat)) (i_rg1 (n := n) (a_cons (e_var rfl) a_nil) (by omega)).i (by rw [rgD_len]; omega) (fun _ _ => g_name) (fun _ _ => t_yes) fun x _ _ => ?_).imp fun d hd => ?_) fun v4 d G4 H4 pd S4 => ?_
      · exact (tk (m := n) rfl (by omega) (by omega) (e_var rfl)).imp fun d ⟨i, hi, e⟩ => ⟨_, e, i, hi, rfl⟩
      · obtain ⟨ys, rfl, hp⟩ := hd
        rw [filter_yes] at hp
        obtain ⟨l, h1, h2, rfl⟩ := nats_of (p := fun i => i < n) hp
        rw [rgD_len] at h1
        exact ⟨l, h1, h2, rfl⟩
      · obtain ⟨l, hl, hlx, rfl⟩ := pd
        have st : ∀ {l : List Nat} (c : Nat), EvT N ⟨[b], [(p, .lst (ts.map tnD))]⟩ (Γ (some (.d (.list (nsD l)))) (some (.d (.int (s : Nat)))) (some (.d (.int (y : Nat))))) (tTest (tOp (rEqD N.K) (tVar 7) (tC (.int (c : Int))))) (decide ((s : Int) = (c : Int))) := fun c => t_test (e_eqI (e_var rfl) e_int)
        have S4 : Sta ⟨N, [b], G, H⟩ L' ⟨[b], [(p, .lst (ts.map tnD))]⟩ G4 H4 _ (Γ (some (.d (.list (nsD l)))) (some (.d (.int (s : Nat)))) (some (.d (.int (y : Nat))))) := S4
        have nx : ∀ (c : Nat) {l : List Nat} {te : TE} {tz : TS} {D : Ends} {G' H' : Hp} {σ' : L2.St} (g : Nat → Nat), (∀ i, i < n → g i < n) → l.length = n → (∀ x ∈ l, x < n) →
            (∀ l, E1 N ⟨[b], [(p, .lst (ts.map tnD))]⟩ (Γ (some (.d (.list (nsD l)))) (some (.d (.int (s : Nat)))) (some (.d (.int (y : Nat))))) te (.d (.list (nsD ((List.range n).map g))))) →
            Sta ⟨N, [b], G, H⟩ L' ⟨[b], [(p, .lst (ts.map tnD))]⟩ G' H' σ' (Γ (some (.d (.list (nsD l)))) (some (.d (.int (s : Nat)))) (some (.d (.int (y : Nat))))) →
            (∀ (l : List Nat) G' H' σ', l.length = n → (∀ x ∈ l, x < n) → Sta ⟨N, [b], G, H⟩ L' ⟨[b], [(p, .lst (ts.map tnD))]⟩ G' H' σ' (Γ (some (.d (.list (nsD l)))) (some (.d (.int (s : Nat)))) (some (.d (.int (y : Nat))))) → tz D σ' H') →
            tSeq (tIfS (tTest (tOp (rEqD N.K) (tVar 7) (tC (.int (c : Int))))) (tAsg te (gName 6)) tNext) tz D σ' H' := fun c {l te tz D G' H' σ'} g hg hl hlx he S' kz => by
          refine q_if S' (st c) (fun _ G5 H5 S5 => ?_) (fun _ G5 H5 S5 => kz l G5 H5 _ hl hlx S5)
          refine s_set S5 (he l) fun v G6 H6 S6 => kz _ G6 H6 _ (by rw [List.length_map, List.length_range]) (fun x hx => ?_) S6
          obtain ⟨i, hi, rfl⟩ := List.mem_map.mp hx
          exact hg i (List.mem_range.mp hi)
        refine nx 0 (fun i => (i + y) % n) (fun i _ => Nat.mod_lt _ (by omega)) hl hlx (fun l => e_lcRn (a_cons (e_var rfl) a_nil) (by omega) _ fun i hi => (e_op (e_cb (a_cons (e_op (e_var rfl) (e_var rfl) rv_I0) a_nil) rc_int) (e_var rfl) (rv_I (by omega))).to ?_) S4 fun l G5 H5 σ5 hl hlx S5 => ?_
        · show Bd.d (.int (((i : Int) + (y : Int)) % (n : Int))) = Bd.d (.int ((((i + y) % n : Nat)) : Int))
          rw [show ((i : Int) + (y : Int)) = ((i + y : Nat) : Int) by omega]
          rfl
        refine nx 1 (fun i => if i + 1 < n - 1 then i + 1 else n - 1) (fun i hi => by split <;> omega) hl hlx (fun l => e_lcRn (a_cons (e_var rfl) a_nil) (by omega) _ fun i hi => (e_cb (a_cons (e_op (e_var rfl) e_int rv_I0) (a_cons (e_op (e_var rfl) e_int rv_I0) a_nil)) rc_mn2).to ?_) S5 fun l G6 H6 σ6 hl hlx S6 => ?_
        · congr 2
          split <;> split <;> omega
        refine nx 2 (fun i => y) (fun i hi => hy) hl hlx (fun l => (e_op (e_lst (ds := [.int (y : Nat)]) (a_cons (e_var rfl) a_nil)) (e_var rfl) (rv_rep (by simp; omega) (by omega))).to ?_) S6 fun l G7 H7 σ7 hl hlx S7 => ?_
        · congr 2
          rw [List.map_const']
          unfold nsD
          rw [List.length_range, List.map_replicate]
          exact rep_flat _ n
        refine nx 3 (fun i => if y > i then y else i) (fun i hi => by split <;> omega) hl hlx (fun l => e_lcRn (a_cons (e_var rfl) a_nil) (by omega) _ fun i hi => (e_cb (a_cons (e_var rfl) (a_cons (e_var rfl) a_nil)) rc_mx2).to ?_) S7 fun l G8 H8 σ8 hl hlx S8 => ?_
        · congr 2
          split <;> split <;> omega
        exact app l G8 H8 σ8 hl hlx S8
  · obtain ⟨ts, hts, hrow, rfl⟩ := pv
    rw [rgD_len] at hts
    obtain ⟨G3, S3, _, _⟩ := S'.freeze (i := 5) (j := 0) rfl rfl
    exact s_retF S3 (e_var rfl) (fun d h => ⟨ts, n, ⟨by omega, by omega, n1, n12, hrow⟩, hn, by rw [hts]; exact hm, h⟩) k fun c hc => hc
end Ag

/-! All that logs do. -/
namespace Ag
open PySem PySem.Spec PyProof.Rows L2
abbrev Ent := List Nat × List Nat
def entD (e : Ent) : PyData := .tuple [tnD e.1, tnD e.2]
def lgD (es : List Ent) : PyData := .list (es.map entD)
def knD (es : List Ent) : List (List Int × PyData) := es.map fun e => (zs e.1, .bool true)
theorem knD_none {es : List Ent} {x : List Nat} : (lkE (knD es) (zs x)).isNone = true ↔ x ∉ es.map (·.1) := by
  induction es with
  | nil => simp [lkE, knD]
  | cons e es ih =>
    by_cases q : e.1 = x
    · have : lkE (knD (e :: es)) (zs x) = some (.bool true) := by
        unfold lkE knD
        rw [List.map_cons, List.find?_cons_of_pos (by simp [q])]
        rfl
      rw [this]
      simp [q]
    · have : lkE (knD (e :: es)) (zs x) = lkE (knD es) (zs x) := by
        unfold lkE knD
        rw [List.map_cons, List.find?_cons_of_neg (by simp; exact fun z => q (zs_inj z))]
      rw [this, ih]
      simp only [List.map_cons, List.mem_cons, not_or]
      exact ⟨fun h => ⟨fun z => q z.symm, h⟩, fun h => h.2⟩
theorem gd_tn {l : List Nat} (h : ∀ x ∈ l, x < 4096) : gd (tnD l) = true := by
  unfold tnD gd
  exact gdA_nats h
theorem dep_tn (l : List Nat) : (tnD l).depth = 1 := by
  unfold tnD
  simp only [PyData.depth]
  rw [dep_nats]
theorem nn_tn (l : List Nat) : nn (tnD l) ≤ l.length + 1 := by
  unfold tnD
  simp only [nn]
  have := nn_nats (l := l)
  omega
theorem gd_ent {e : Ent} (h1 : ∀ x ∈ e.1, x < 4096) (h2 : ∀ x ∈ e.2, x < 4096) : gd (entD e) = true := by
  simp only [entD, gd, gdA, gd_tn h1, gd_tn h2, Bool.and_self]
theorem dep_ent (e : Ent) : (entD e).depth = 2 := by
  simp only [entD, PyData.depth, PyData.depthAll, dep_tn]
  rfl
theorem shaped_lg {es : List Ent} (h : ∀ e ∈ es, (∀ x ∈ e.1, x < 4096) ∧ ∀ x ∈ e.2, x < 4096) : SeqAt.shaped (lgD es) = true := by
  refine gd_shaped ?_ ?_
  · show gdA (es.map entD) = true
    exact gdA_of fun x hx => by
      obtain ⟨e, he, rfl⟩ := List.mem_map.mp hx
      exact gd_ent (h e he).1 (h e he).2
  · show PyData.depthAll (es.map entD) + 1 ≤ 64
    have := depA_of (xs := es.map entD) (k := 2) fun x hx => by
      obtain ⟨e, he, rfl⟩ := List.mem_map.mp hx
      rw [dep_ent]
      exact Nat.le_refl _
    omega
/-- xs == [] -/
theorem e_isNil {N : Nv} {M : Mm} {Γ : Cnt} {te : TE} {xs : List PyData} (h : E1 N M Γ te (.d (.list xs))) (hs : SeqAt.shaped (.list xs) = true) : E1 N M Γ (tOp (rEqD N.K) te (tLst tNil)) (.d (.bool xs.isEmpty)) := (e_op h (e_lst (ds := []) a_nil) (rv_eqD hs rfl)).to (by
  simp only [PyData.eqv]
  cases xs <;> simp [PyData.eqvAll])
theorem e_isNilN {N : Nv} {M : Mm} {Γ : Cnt} {te : TE} {xs : List PyData} (h : E1 N M Γ te (.d (.list xs))) (hs : SeqAt.shaped (.list xs) = true) : E1 N M Γ (tOp (rNeD N.K) te (tLst tNil)) (.d (.bool (!xs.isEmpty))) := (e_op h (e_lst (ds := []) a_nil) (rv_neD hs rfl)).to (by
  simp only [PyData.eqv]
  cases xs <;> simp [PyData.eqvAll])
/-- what a deed makes of a doing -/
def dF (ts : List (List Nat)) (x : List Nat) (d : Nat) : List Nat := x.map (step ts d)
theorem doing_eq {ts : List (List Nat)} {n : Nat} : ∀ (w : List Nat), w.foldl (dF ts) (List.range n) = (List.range n).map fun s => run ts s w := by
  intro w
  have key : ∀ (w x : List Nat), w.foldl (dF ts) x = x.map fun s => run ts s w := by
    intro w
    induction w with
    | nil =>
      intro x
      show x = x.map fun s => s
      exact (List.map_id' x).symm
    | cons d w ih =>
      intro x
      rw [List.foldl_cons, ih]
      unfold dF
      rw [List.map_map]
      rfl
  exact key w _
theorem doings_small {ts : List (List Nat)} {n at' d : Nat} {es : List Ent} (mv : MV ts n) (n4 : n ≤ 4) (b : Bq ts.length (dF ts) (List.range n) es at' d) : es.length ≤ 256 ∧ ∀ e ∈ es, e.1.length = n ∧ (∀ x ∈ e.1, x < n) ∧ (∀ x ∈ e.2, x < ts.length) ∧ e.2.length ≤ 256 := by
  have h : ∀ e ∈ es, e.1.length = n ∧ (∀ x ∈ e.1, x < n) ∧ ∀ x ∈ e.2, x < ts.length := fun e he => by
    obtain ⟨r1, r2⟩ := b.R e he
    rw [r1, doing_eq]
    refine ⟨by rw [List.length_map, List.length_range], fun x hx => ?_, r2⟩
    obtain ⟨s, hs, rfl⟩ := List.mem_map.mp hx
    exact run_lt mv r2 (List.mem_range.mp hs)
  have l1 : es.length ≤ 256 := by
    have := nodup_len (m := maps n n) b.N fun x hx => by
      obtain ⟨e, he, rfl⟩ := List.mem_map.mp hx
      obtain ⟨q1, q2, _⟩ := h e he
      exact mem_maps q1 q2
    rw [maps_len, List.length_map] at this
    have hn : n ^ n ≤ 256 := by
      have := mv.n1
      have : n = 1 ∨ n = 2 ∨ n = 3 ∨ n = 4 := by omega
      rcases this with rfl | rfl | rfl | rfl <;> decide
    omega
  refine ⟨l1, fun e he => ⟨(h e he).1, (h e he).2.1, (h e he).2.2, ?_⟩⟩
  obtain ⟨i, hi⟩ := List.mem_iff_getElem?.mp he
  have := b.L i e hi
  have := (List.getElem?_eq_some_iff.mp hi).1
  omega
def Rl__law_doings : Rlt := fun bs B P => ∃ (ts : List (List Nat)) (n : Nat), bs = [.d (tlD ts)] ∧ MV ts n ∧ n ≤ 4 ∧ B = [] ∧ P = fun d => ∃ es : List Ent, Bfs ts.length (dF ts) (List.range n) es ∧ es.length ≤ 256 ∧ es ≠ [] ∧ (∀ e ∈ es, e.1.length = n ∧ (∀ x ∈ e.1, x < n) ∧ (∀ x ∈ e.2, x < ts.length) ∧ e.2.length ≤ 256) ∧ d = .d (lgD es)
theorem lg_get {es : List Ent} {i : Nat} {x : Bd} (h : ((es.map entD).map Bd.d)[i]? = some x) : ∃ e, es[i]? = some e ∧ x = .d (entD e) := by
  obtain ⟨d, h1, rfl⟩ := get_map_d h
  rw [List.getElem?_map] at h1
  cases q : es[i]? with
  | none =>
    rw [q] at h1
    cases h1
  | some n =>
    rw [q] at h1
    cases h1
    exact ⟨n, rfl, rfl⟩
theorem drop_of_append {α : Type} {es l es' : List α} (h : es' = es ++ l) : es'.drop es.length = l := by
  rw [h, List.drop_left]
theorem W__law_doings (N : Nv) : Walk N (R__law_doings N) Rl__law_doings 11 := by
  rintro bs B P ⟨ts, n, rfl, mv, n4, rfl, rfl⟩ G H σ D S k
  have n1 := mv.n1
  have k1 := mv.k1
  have k8 := mv.k8
  obtain ⟨t0, tr, e0⟩ : ∃ t0 tr, ts = t0 :: tr := by
    cases ts with
    | nil => simp at k1
    | cons a b => exact ⟨a, b, rfl⟩
  have h0 : t0.length = n := (mv.row t0 (by simp [e0])).1
  refine q_set (b := .d (tnD (List.range n))) S (e_tupRg (n := n) ((e_cb (a_cons (e_ixL (j := 0) (x := tnD t0) (e_var rfl) e_int (by rw [e0]; rfl)) a_nil) (rc_len (.inl rfl))).to (by rw [List.length_map, h0])) (by omega)) fun v1 G1 H1 S1 => ?_
  have ent0 : ∀ {M : Mm} {Γ : Cnt}, Γ[1]? = some (some (.d (tnD (List.range n)))) → E1 N M Γ (tLst (tCons (tTup (tCons (tVar 1) (tCons (tTup tNil) tNil))) tNil)) (.d (lgD [(List.range n, [])])) := fun h => e_lst (ds := [entD (List.range n, [])]) (a_cons (e_tup (ds := [tnD (List.range n), tnD []]) (a_cons (e_var h) (a_cons (e_tup (ds := []) a_nil) a_nil))) a_nil)
  refine q_par3D (ns := zs (List.range n)) (x := .bool true) S1 (fun M' => (e_var rfl).to (by rw [tnD_zs])) (fun M' => e_bl) (fun M' => ent0 rfl) (fun M' => ent0 rfl) fun pk u v G2 H2 S2 => ?_
  let Γ (es : List Ent) (at' : Nat) : Cnt := [some (.d (tlD ts)), some (.d (tnD (List.range n))), none, some (.v (.ref pk)), some (.d (lgD es)), some (.d (lgD (es.drop at'))), none, none, none, none, none, none]
  have fin : ∀ {L : Hp} {M' : Mm} {es : List Ent} {at' d' : Nat} {G' H' σ'} {Γ' : Cnt}, Bq ts.length (dF ts) (List.range n) es at' d' → es.length ≤ at' → Γ'[4]? = some (some (.d (lgD es))) → Sta ⟨N, [], G, H⟩ L M' G' H' σ' Γ' → tRet (tVar 4) D σ' H' := fun {L M' es at' d' G' H' σ' Γ'} bq hat hΓ S' => by
    obtain ⟨c1, c2⟩ := doings_small mv n4 bq
    refine s_retF S' (e_var hΓ) (fun d h => ⟨es, bq.done hat, c1, fun q => ?_, c2, h⟩) k fun c hc => by cases hc
    have := bq.Z
    rw [q] at this
    cases this
  refine q_for (vs := [2]) S2 (i_rg1 (n := 4000) (a_cons e_int a_nil) (by decide)) (fun t M' Γ' => ∃ es at', Bq ts.length (dF ts) (List.range n) es at' 0 ∧ at' < es.length ∧ t + 1 ≤ es.length ∧ M' = ⟨[], [(pk, .dt (knD es))]⟩ ∧ Γ' = Γ es at') (fun _ x Γ' => Γ'.set 2 (some x)) ⟨[(List.range n, [])], 0, Bq.start, by simp, by simp, rfl, rfl⟩ (fun _ _ _ _ _ _ => g_name) (fun t x M' Γ' L' G' H' σ' hx pv _ S' => ?_) (fun M' Γ' G' H' σ' pv S' => ?_)
  · obtain ⟨es, at', bq, hat, ht, rfl, rfl⟩ := pv
    have S' := S'.forget 2
    refine q_nil S' fun pl G3 H3 S3 => ?_
    refine q_for2 (a := 7) (b := 8) S3 (i_seq (ds := (es.drop at').map entD) (e_var rfl) (.inr rfl)) (fun x hx => ?_) (fun j M' => ∃ es' l, Bq ts.length (dF ts) (List.range n) es' (at' + j) 0 ∧ es' = es ++ l ∧ M' = ⟨[], [(pl, .lst (l.map entD)), (pk, .dt (knD es'))]⟩) ⟨es, [], bq, by simp, rfl⟩ (fun j p q M' L2 G' H' σ' hx pv S' => ?_) (fun M' G' H' σ' pv S' => ?_)
    · obtain ⟨i, hi⟩ := List.mem_iff_getElem?.mp hx
      obtain ⟨e, _, rfl⟩ := lg_get hi
      exact ⟨_, _, rfl⟩
    · obtain ⟨es', l, bq', hes, rfl⟩ := pv
      obtain ⟨⟨x, w⟩, hxw, e⟩ := lg_get hx
      cases e
      rw [List.getElem?_drop] at hxw
      have hxl : at' + j < es.length := (List.getElem?_eq_some_iff.mp hxw).1
      have hxw' : es'[at' + j]? = some (x, w) := by
        rw [hes, List.getElem?_append_left hxl]
        exact hxw
      obtain ⟨_, c2⟩ := doings_small mv n4 bq'
      obtain ⟨x1, x2, x3, x4⟩ := c2 _ (List.mem_of_getElem? hxw')
      refine s_for1 (a := 9) S' (i_rg1 (n := ts.length) (a_cons ((e_cb (a_cons (e_var rfl) a_nil) (rc_len (.inr rfl))).to (by rw [List.length_map])) a_nil) (by omega)) (fun d M' => ∃ es' l, Bq ts.length (dF ts) (List.range n) es' (at' + j) d ∧ es' = es ++ l ∧ M' = ⟨[], [(pl, .lst (l.map entD)), (pk, .dt (knD es'))]⟩) ⟨es', l, bq', hes, rfl⟩ (fun d y M' L3 G' H' σ' hd pv S' => ?_) (fun M' G' H' σ' pv S' => ?_)
      · obtain ⟨es', l, bq', hes, rfl⟩ := pv
        obtain ⟨hdl, rfl⟩ := rgD_get hd
        have e1 : (0 : Int) + (d : Nat) = (d : Nat) := by omega
        rw [e1] at S'
        have hxw' : es'[at' + j]? = some (x, w) := by
          rw [hes, List.getElem?_append_left hxl]
          exact hxw
        obtain ⟨c1, c2⟩ := doings_small mv n4 bq'
        have ll : l.length ≤ 256 := by
          have := congrArg List.length hes
          rw [List.length_append] at this
          omega
        have ha : E1 N ⟨[], [(pl, .lst (l.map entD)), (pk, .dt (knD es'))]⟩ [some (.d (tlD ts)), some (.d (tnD (List.range n))), none, some (.v (.ref pk)), some (.d (lgD es)), some (.d (lgD (es.drop at'))), some (.v (.ref pl)), some (.d (tnD x)), some (.d (tnD w)), some (.d (.int (d : Nat))), none, none] (tCB (rTup N.K) (tCons (tLc (iSeq N.K (tVar 7)) (gName 11) tYes (tOp (rIx N.K) (tOp (rIx N.K) (tVar 0) (tVar 9)) (tVar 11)) [11]) tNil)) (.d (tnD (dF ts x d))) := by
          have := e_lc1 (N := N) (M := ⟨[], [(pl, .lst (l.map entD)), (pk, .dt (knD es'))]⟩) (Γ := [some (.d (tlD ts)), some (.d (tnD (List.range n))), none, some (.v (.ref pk)), some (.d (lgD es)), some (.d (lgD (es.drop at'))), some (.v (.ref pl)), some (.d (tnD x)), some (.d (tnD w)), some (.d (.int (d : Nat))), none, none]) (a := 11) (tt := tYes) (te := tOp (rIx N.K) (tOp (rIx N.K) (tVar 0) (tVar 9)) (tVar 11)) (ds := nsD x) (fun _ => true) (fun y => .int (step ts d (natD y) : Nat)) (i_seq (tl := tVar 7) (c := tnD x) (e_var rfl) (.inl rfl)).i (by rw [nsD_len]; simp only at x1; omega) (fun _ _ => t_yes) fun y hy _ => by
            obtain ⟨s, hs, rfl⟩ := mem_nsD hy
            rw [natD_nat]
            exact e_step mv (.inr rfl) (e_var rfl) (e_var rfl) (e_var rfl) hdl (x2 s hs)
          refine (e_cb (a_cons this a_nil) (rc_tup (.inr rfl))).to ?_
          rw [filter_yes]
          unfold nsD dF tnD
          rw [List.map_map, List.map_map]
          rfl
        refine q_set (b := .d (tnD (dF ts x d))) S' ha fun v5 G5 H5 S5 => ?_
        have en := e_dnin (N := N) (M := ⟨[], [(pl, .lst (l.map entD)), (pk, .dt (knD es'))]⟩) (Γ := [some (.d (tlD ts)), some (.d (tnD (List.range n))), none, some (.v (.ref pk)), some (.d (lgD es)), some (.d (lgD (es.drop at'))), some (.v (.ref pl)), some (.d (tnD x)), some (.d (tnD w)), some (.d (.int (d : Nat))), some (.d (tnD (dF ts x d))), none]) (td := tVar 3) (ty := tVar 10) (j := 1) (ns := zs (dF ts x d)) rfl (e_var rfl) ((e_var rfl).to (by rw [tnD_zs]))
        by_cases hin : dF ts x d ∈ es'.map (·.1)
        · have hf : (lkE (knD es') (zs (dF ts x d))).isNone = false := by
            cases hh : (lkE (knD es') (zs (dF ts x d))).isNone with
            | false => rfl
            | true => exact absurd hin (knD_none.mp hh)
          rw [hf] at en
          refine s_if S5 (t_B en) (fun h => nomatch h) fun _ G9 H9 S9 => ?_
          exact ⟨_, G9, ⟨es', l, bq'.seen hxw' hin, hes, rfl⟩, (S9.forget 9).forget 10⟩
        · have hf := knD_none.mpr hin
          rw [hf] at en
          have hfn : lkE (knD es') (zs (dF ts x d)) = none := by simpa using hf
          have bq2 := bq'.new hxw' hdl hin
          refine s_if S5 (t_B en) (fun _ G9 H9 S9 => ?_) (fun h => nomatch h)
          refine q_dput (j := 1) (l := pk) (es := knD es') (ns := zs (dF ts x d)) S9 rfl (e_var rfl) ((e_var rfl).to (by rw [tnD_zs])) e_bl (fun d h => ⟨_, h⟩) hfn (by unfold knD; rw [List.length_map]; omega) fun y G10 H10 ey S10 => ?_
          have ey := bd_inj ey
          subst ey
          refine s_app (j := 0) (l := pl) (ds := l.map entD) S10 rfl (e_var rfl) (e_tup (ds := [tnD (dF ts x d), tnD (w ++ [d])]) (a_cons (e_var rfl) (a_cons ((e_op (e_var rfl) (e_tup (ds := [.int (d : Nat)]) (a_cons (e_var rfl) a_nil)) (rv_catA ?_)).to ?_) a_nil))) (fun d h => ⟨_, h⟩) (by rw [List.length_map]; omega) fun z G11 H11 ez S11 => ?_
          · rw [List.length_map]
            simp only at x4
            simp
            omega
          · unfold tnD
            rw [List.map_append]
            rfl
          · have ez := bd_inj ez
            subst ez
            refine ⟨_, G11, ⟨es' ++ [(dF ts x d, w ++ [d])], l ++ [(dF ts x d, w ++ [d])], bq2, ?_, ?_⟩, (S11.forget 9).forget 10⟩
            · rw [hes, List.append_assoc]
            · show Mm.mk _ _ = Mm.mk _ _
              congr 1
              simp only [List.set_cons_zero, List.set_cons_succ, List.map_append, knD]
              rfl
      · obtain ⟨es', l, bq', hes, rfl⟩ := pv
        rw [rgD_len] at bq'
        exact ⟨_, G', ⟨es', l, bq'.next, hes, rfl⟩, (S'.forget 7).forget 8⟩
    · obtain ⟨es', l, bq', hes, rfl⟩ := pv
      have el : (((es.drop at').map entD).map Bd.d).length = es.length - at' := by rw [List.length_map, List.length_map, List.length_drop]
      rw [el, show at' + (es.length - at') = es.length by omega] at bq'
      obtain ⟨c1, c2⟩ := doings_small mv n4 bq'
      obtain ⟨G5, S5, _, _⟩ := S'.freeze (i := 6) (j := 0) rfl rfl
      have hin : ∀ e ∈ l, (∀ x ∈ e.1, x < 4096) ∧ ∀ x ∈ e.2, x < 4096 := fun e he => by
        obtain ⟨_, y2, y3, _⟩ := c2 e (by rw [hes]; simp [he])
        exact ⟨fun x hx => by have := y2 x hx; omega, fun x hx => by have := y3 x hx; omega⟩
      have tn := t_test (e_isNil (N := N) (M := ⟨[], [(pk, .dt (knD es'))]⟩) (Γ := [some (.d (tlD ts)), some (.d (tnD (List.range n))), none, some (.v (.ref pk)), some (.d (lgD es)), some (.d (lgD (es.drop at'))), some (.d (lgD l)), none, none, none, none, none]) (te := tVar 6) (xs := l.map entD) (e_var rfl) (shaped_lg hin))
      cases l with
      | nil =>
        refine q_if (c := true) S5 tn (fun _ G6 H6 S6 => ?_) (fun h => nomatch h)
        rw [List.append_nil] at hes
        subst hes
        exact fin bq' (Nat.le_refl _) rfl S6
      | cons a l =>
        refine q_if (c := false) S5 tn (fun h => nomatch h) (fun _ G6 H6 S6 => ?_)
        refine s_par (x := .d (lgD (a :: l))) (y := .d (lgD es')) S6 (a_cons (e_var rfl) (a_cons ((e_op (e_var rfl) (e_var rfl) (rv_cat ?_)).to ?_) a_nil)) fun u v G7 H7 S7 => ?_
        · have := congrArg List.length hes
          rw [List.length_append] at this
          rw [List.length_map, List.length_map]
          omega
        · rw [hes]
          unfold lgD
          rw [List.map_append]
        · have hl2 := congrArg List.length hes
          rw [List.length_append] at hl2
          simp only [List.length_cons] at hl2
          refine ⟨_, G7, _, ⟨es', es.length, bq', by omega, by omega, rfl, ?_⟩, (S7.forget 6)⟩
          show _ = Γ es' es.length
          simp only [Γ]
          rw [drop_of_append hes]
          rfl
  · obtain ⟨es, at', bq, hat, ht, rfl, rfl⟩ := pv
    rw [rgD_len] at ht
    obtain ⟨c1, _⟩ := doings_small mv n4 bq
    omega
end Ag

/-! _law_parted. -/
namespace Ag
open PySem PySem.Spec PyProof.Rows L2
/-! ### plain -/
def lotA (ts : List (List Nat)) (n : Nat) (w : List Nat) (st a : Nat) : List Nat := (List.range n).filter fun s => decide (run ts s (w.take a) = st)
/-- where a log leads, each state once -/
def imgs (ts : List (List Nat)) (n : Nat) (w : List Nat) : List Nat := sd n ((List.range n).map fun s => run ts s w)
theorem run_append (ts : List (List Nat)) (s : Nat) (u v : List Nat) : run ts s (u ++ v) = run ts (run ts s u) v := by
  unfold run
  rw [List.foldl_append]
theorem run_take {ts : List (List Nat)} {w : List Nat} {a b s t : Nat} (h : a ≤ b) (e : run ts s (w.take a) = run ts t (w.take a)) : run ts s (w.take b) = run ts t (w.take b) := by
  have : w.take b = w.take a ++ (w.take b).drop a := by
    have h1 := (List.take_append_drop a (w.take b)).symm
    rw [List.take_take, Nat.min_eq_left h] at h1
    exact h1
  rw [this, run_append, run_append, e]
def minB (ls : List (List Nat)) (l : List Nat) : Bool := (ls.filter fun o => (!decide (o = l)) && (o.filter fun x => !decide (x ∈ l)).isEmpty).isEmpty
structure Lots (ts : List (List Nat)) (n : Nat) (w : List Nat) (c st : Nat) (ls : List (List Nat)) : Prop where
  N : ls.Nodup
  A : ∀ l ∈ ls, l ≠ [] ∧ ∃ a, c ≤ a ∧ l = lotA ts n w st a
theorem Lots.few {ts : List (List Nat)} {n : Nat} {w : List Nat} {c st : Nat} {ls : List (List Nat)} (mv : MV ts n) (hw : ∀ d ∈ w, d < ts.length) (q : Lots ts n w c st ls) : (ls.filter (minB ls)).length ≤ (imgs ts n (w.take c)).length := by
  have sub : ∀ l ∈ ls, ∀ m ∈ ls, minB ls m = true → (∀ x ∈ l, x ∈ m) → l = m := fun l hl m hm hb hx => by
    unfold minB at hb
    rw [List.isEmpty_iff, List.filter_eq_nil_iff] at hb
    have := hb l hl
    by_cases e : l = m
    · exact e
    · exfalso
      apply this
      have : (l.filter fun x => !decide (x ∈ m)) = [] := List.filter_eq_nil_iff.mpr fun x h => by simp [hx x h]
      simp [e, this]
  have mem : ∀ a s, s ∈ lotA ts n w st a ↔ s < n ∧ run ts s (w.take a) = st := fun a s => by
    unfold lotA
    rw [List.mem_filter, List.mem_range, decide_eq_true_eq]
  have key : ∀ l ∈ ls.filter (minB ls), ∀ m ∈ ls.filter (minB ls), ∀ x ∈ l, ∀ y ∈ m, run ts x (w.take c) = run ts y (w.take c) → l = m := fun l hl m hm x hx y hy e => by
    obtain ⟨hl1, hl2⟩ := List.mem_filter.mp hl
    obtain ⟨hm1, hm2⟩ := List.mem_filter.mp hm
    obtain ⟨_, a, ha, el⟩ := q.A l hl1
    obtain ⟨_, b, hb, em⟩ := q.A m hm1
    have hxa := (mem a x).mp (by rw [← el]; exact hx)
    have hyb := (mem b y).mp (by rw [← em]; exact hy)
    by_cases hab : a ≤ b
    · refine sub l hl1 m hm1 hm2 fun z hz => ?_
      have hza := (mem a z).mp (by rw [← el]; exact hz)
      rw [em]
      refine (mem b z).mpr ⟨hza.1, ?_⟩
      have h1 : run ts z (w.take b) = run ts x (w.take b) := run_take hab (hza.2.trans hxa.2.symm)
      have h2 : run ts x (w.take b) = run ts y (w.take b) := run_take hb e
      exact (h1.trans h2).trans hyb.2
    · refine (sub m hm1 l hl1 hl2 fun z hz => ?_).symm
      have hzb := (mem b z).mp (by rw [← em]; exact hz)
      rw [el]
      refine (mem a z).mpr ⟨hzb.1, ?_⟩
      have h1 : run ts z (w.take a) = run ts y (w.take a) := run_take (by omega) (hzb.2.trans hyb.2.symm)
      have h2 : run ts y (w.take a) = run ts x (w.take a) := run_take ha e.symm
      exact (h1.trans h2).trans hxa.2
  have inj : ((ls.filter (minB ls)).map fun l => run ts (l.headD 0) (w.take c)).Nodup := by
    have hd : ∀ l ∈ ls.filter (minB ls), l.headD 0 ∈ l := fun l hl => by
      obtain ⟨h1, _⟩ := q.A l (List.mem_filter.mp hl).1
      cases l with
      | nil => exact absurd rfl h1
      | cons a b => simp
    have nd : (ls.filter (minB ls)).Nodup := q.N.sublist List.filter_sublist
    unfold List.Nodup at nd ⊢
    rw [List.pairwise_map]
    refine nd.imp_of_mem fun {a b} ha hb ne e => ne (key a ha b hb _ (hd a ha) _ (hd b hb) e)
  have := nodup_len (m := imgs ts n (w.take c)) inj fun x hx => by
    obtain ⟨l, hl, rfl⟩ := List.mem_map.mp hx
    obtain ⟨h1, a, _, el⟩ := q.A l (List.mem_filter.mp hl).1
    have hd : l.headD 0 ∈ l := by
      cases l with
      | nil => exact absurd rfl h1
      | cons a b => simp
    have hn : l.headD 0 < n := by
      have h2 := hd
      rw [el] at h2
      rw [el]
      exact ((mem a _).mp h2).1
    exact mem_sd.mpr ⟨run_lt mv (fun d h => hw d (List.mem_of_mem_take h)) hn, List.mem_map.mpr ⟨_, List.mem_range.mpr hn, rfl⟩⟩
  rw [List.length_map] at this
  exact this
/-! ### the walk -/
def nlD (l : List Nat) : PyData := .list (nsD l)
def llD (ls : List (List Nat)) : PyData := .list (ls.map nlD)
theorem gd_nl {l : List Nat} (h : ∀ x ∈ l, x < 4096) : gd (nlD l) = true := by
  unfold nlD gd
  exact gdA_nats h
theorem dep_nl (l : List Nat) : (nlD l).depth = 1 := by
  unfold nlD nsD
  simp only [PyData.depth]
  rw [dep_nats]
theorem nb_nl (l : List Nat) : nb (nlD l) = true := by
  unfold nlD nb
  exact nb_nats
theorem nlD_inj {a b : List Nat} (h : nlD a = nlD b) : a = b := by
  unfold nlD at h
  exact nats_inj (PyData.list.inj h)
theorem eqv_nl (a b : List Nat) : PyData.eqv (nlD a) (nlD b) = decide (a = b) := by
  by_cases h : a = b
  · rw [decide_eq_true h, h]
    exact (eqv_iff _ _ (nb_nl b) (nb_nl b)).mpr rfl
  · rw [decide_eq_false h]
    cases q : PyData.eqv (nlD a) (nlD b) with
    | false => rfl
    | true => exact absurd (nlD_inj ((eqv_iff _ _ (nb_nl a) (nb_nl b)).mp q)) h
theorem shaped_nl {l : List Nat} (h : ∀ x ∈ l, x < 4096) : SeqAt.shaped (nlD l) = true := gd_shaped (gd_nl h) (by rw [dep_nl]; decide)
theorem shaped_ll {ls : List (List Nat)} (h : ∀ l ∈ ls, ∀ x ∈ l, x < 4096) : SeqAt.shaped (llD ls) = true := by
  refine gd_shaped ?_ ?_
  · show gdA (ls.map nlD) = true
    exact gdA_of fun x hx => by
      obtain ⟨l, hl, rfl⟩ := List.mem_map.mp hx
      exact gd_nl (h l hl)
  · show PyData.depthAll (ls.map nlD) + 1 ≤ 64
    have := depA_of (xs := ls.map nlD) (k := 1) fun x hx => by
      obtain ⟨l, hl, rfl⟩ := List.mem_map.mp hx
      rw [dep_nl]
      exact Nat.le_refl _
    omega
theorem any_nl (ls : List (List Nat)) (l : List Nat) : ((ls.map nlD).any fun z => PyData.eqv z (nlD l)) = decide (l ∈ ls) := by
  rw [List.any_map]
  by_cases h : l ∈ ls
  · rw [decide_eq_true h, List.any_eq_true]
    exact ⟨l, h, by show PyData.eqv (nlD l) (nlD l) = true; rw [eqv_nl]; simp⟩
  · rw [decide_eq_false h, List.any_eq_false]
    intro x hx
    show ¬ PyData.eqv (nlD x) (nlD l) = true
    rw [eqv_nl]
    simp
    exact fun e => h (e ▸ hx)
theorem any_ns (l : List Nat) (x : Nat) : ((nsD l).any fun z => PyData.eqv z (.int (x : Nat))) = decide (x ∈ l) := by
  unfold nsD
  rw [List.any_map]
  by_cases h : x ∈ l
  · rw [decide_eq_true h, List.any_eq_true]
    exact ⟨x, h, by show PyData.eqv (.int (x : Nat)) (.int (x : Nat)) = true; rw [eqv_int]; simp⟩
  · rw [decide_eq_false h, List.any_eq_false]
    intro y hy
    show ¬ PyData.eqv (.int (y : Nat)) (.int (x : Nat)) = true
    rw [eqv_int]
    simp
    exact fun e => h ((show y = x by omega) ▸ hy)
def Rl__law_parted : Rlt := fun bs B P => ∃ (ts : List (List Nat)) (n : Nat) (w : List Nat) (c st : Nat), bs = [.d (tlD ts), .d (tnD w), .d (.int (c : Int)), .d (.int (st : Int))] ∧ MV ts n ∧ (∀ d ∈ w, d < ts.length) ∧ w.length ≤ 1000 ∧ c ≤ w.length ∧ B = [] ∧ P = fun d => ∃ m : Nat, m ≤ (imgs ts n (w.take c)).length ∧ d = .d (.int (m : Nat))
theorem e_len0 {N : Nv} {M : Mm} {Γ : Cnt} {te : TE} {ts : List (List Nat)} {n : Nat} (mv : MV ts n) (h : E1 N M Γ te (.d (tlD ts))) : E1 N M Γ (tCB (rLen N.K N.w) (tCons (tOp (rIx N.K) te (tC (.int 0))) tNil)) (.d (.int (n : Nat))) := by
  obtain ⟨t0, tr, e0⟩ : ∃ t0 tr, ts = t0 :: tr := by
    cases ts with
    | nil =>
      have := mv.k1
      simp at this
    | cons a b => exact ⟨a, b, rfl⟩
  have h0 : t0.length = n := (mv.row t0 (by simp [e0])).1
  exact (e_cb (a_cons (e_ixL (j := 0) (x := tnD t0) h e_int (by rw [e0]; rfl)) a_nil) (rc_len (.inl rfl))).to (by rw [List.length_map, h0])
theorem tn_take (w : List Nat) (c : Nat) : PyData.tuple ((w.map fun n => PyData.int (n : Nat)).take c) = tnD (w.take c) := by
  unfold tnD
  rw [List.map_take]
theorem isEmpty_map {α β : Type} (f : α → β) (l : List α) : (l.map f).isEmpty = l.isEmpty := by cases l <;> rfl
theorem W__law_parted (N : Nv) : Walk N (R__law_parted N (Spc N Rl__law_run)) Rl__law_parted 6 := by
  rintro bs B P ⟨ts, n, w, c, st, rfl, mv, hw, hwl, hc, rfl, rfl⟩ G H σ D S k
  have n12 := mv.n12
  refine q_nil S fun p G1 H1 S1 => ?_
  let Γ (o : Bd) : Cnt := [some (.d (tlD ts)), some (.d (tnD w)), some (.d (.int (c : Int))), some (.d (.int (st : Int))), some o, none, none, none, none, none]
  refine q_for1 (a := 5) S1 (i_rg2 (lo := c) (hi := w.length + 1) (a_cons (e_var rfl) (a_cons ((e_op (e_cb (a_cons (e_var rfl) a_nil) (rc_len (.inl rfl))) e_int rv_I0).to (by rw [List.length_map]; rfl)) a_nil)) (by omega) (by omega)) (fun i M' => ∃ ls, Lots ts n w c st ls ∧ ls.length ≤ i ∧ M' = ⟨[], [(p, .lst (ls.map nlD))]⟩) ⟨[], ⟨.nil, fun l h => by cases h⟩, Nat.le_refl _, rfl⟩ (fun i x M' L' G' H' σ' hx pv S' => ?_) (fun M' G' H' σ' pv S' => ?_)
  · obtain ⟨ls, lots, hlen, rfl⟩ := pv
    obtain ⟨hi, rfl⟩ := rgD_get hx
    have ea : ((c : Nat) : Int) + (i : Nat) = ((c + i : Nat) : Int) := by omega
    rw [ea] at S'
    have ha : c + i ≤ w.length := by omega
    have hwt : ∀ d ∈ w.take (c + i), d < ts.length := fun d h => hw d (List.mem_of_mem_take h)
    have kl : E1 N ⟨[], [(p, .lst (ls.map nlD))]⟩ [some (.d (tlD ts)), some (.d (tnD w)), some (.d (.int (c : Int))), some (.d (.int (st : Int))), some (.v (.ref p)), some (.d (.int ((c + i : Nat) : Int))), none, none, none, none] (tLc (iRng1 (tCons (tCB (rLen N.K N.w) (tCons (tOp (rIx N.K) (tVar 0) (tC (.int 0))) tNil)) tNil)) (gName 7) (tTest (tOp (rEqD N.K) (tOp (rIx N.K) (tCall (Spc N Rl__law_run) [] E0 (tCons (tVar 0) (tCons (tVar 7) (tCons (tSl (rSl N.K) (tVar 1) tNoPart (tPart (tVar 5))) tNil)))) (tUn (rU fun i => .int (-i)) (tC (.int 1)))) (tVar 3))) (tVar 7) [7]) (.d (nlD (lotA ts n w st (c + i)))) := by
      refine (e_lcRg (a_cons (e_len0 mv (e_var rfl)) a_nil) (by omega) (fun s => decide (run ts s (w.take (c + i)) = st)) (fun s => .int (s : Nat)) (fun s hs => ?_) fun s hs _ => e_var rfl).to ?_
      · refine (t_test (e_eqI (a := ((run ts s (w.take (c + i)) : Nat) : Int)) (e_ixL1 (e_call (a_cons (e_var rfl) (a_cons (e_var rfl) (a_cons ((e_slTo (e_var rfl) (e_var rfl)).to (by rw [tn_take])) a_nil))) ⟨ts, n, s, w.take (c + i), rfl, mv, hs, hwt, by rw [List.length_take]; omega, rfl, rfl⟩) (e_neg e_int) runL_last) (e_var rfl))).to ?_
        exact decide_eq_decide.mpr ⟨fun h => by omega, fun h => by omega⟩
      · rfl
    refine q_set (b := .d (nlD (lotA ts n w st (c + i)))) S' kl fun v2 G2 H2 S2 => ?_
    have hlt : ∀ x ∈ lotA ts n w st (c + i), x < 4096 := fun x hx => by
      have := List.mem_range.mp (List.mem_filter.mp hx).1
      omega
    have hls : ∀ l ∈ ls, ∀ x ∈ l, x < 4096 := fun l hl x hx => by
      obtain ⟨_, a, _, el⟩ := lots.A l hl
      rw [el] at hx
      have := List.mem_range.mp (List.mem_filter.mp hx).1
      omega
    have t1 := t_test (e_isNilN (N := N) (M := ⟨[], [(p, .lst (ls.map nlD))]⟩) (Γ := [some (.d (tlD ts)), some (.d (tnD w)), some (.d (.int (c : Int))), some (.d (.int (st : Int))), some (.v (.ref p)), some (.d (.int ((c + i : Nat) : Int))), some (.d (nlD (lotA ts n w st (c + i)))), none, none, none]) (te := tVar 6) (xs := nsD (lotA ts n w st (c + i))) (e_var rfl) (shaped_nl hlt))
    have t2 : EvT N ⟨[], [(p, .lst (ls.map nlD))]⟩ [some (.d (tlD ts)), some (.d (tnD w)), some (.d (.int (c : Int))), some (.d (.int (st : Int))), some (.v (.ref p)), some (.d (.int ((c + i : Nat) : Int))), some (.d (nlD (lotA ts n w st (c + i)))), none, none, none] (tTest (tOp (rNotInD N.K) (tVar 6) (tVar 4))) (!decide (lotA ts n w st (c + i) ∈ ls)) := t_test (e_thaw (j := 0) (i := 4) (l := p) (ds := ls.map nlD) rfl rfl ((e_op (e_var rfl) (e_var rfl) (rv_niD (shaped_nl hlt) (shaped_ll hls))).to (by rw [any_nl])) rfl)
    refine s_if S2 (t_and t1 fun _ => t2) (fun hcnd G3 H3 S3 => ?_) (fun _ G3 H3 S3 => ?_)
    · refine s_app (j := 0) (l := p) (ds := ls.map nlD) S3 rfl (e_var rfl) (e_var rfl) (fun d h => ⟨_, h⟩) (by rw [List.length_map]; omega) fun z G4 H4 ez S4 => ?_
      have ez := bd_inj ez
      subst ez
      simp only [Bool.and_eq_true, Bool.not_eq_true', decide_eq_false_iff_not] at hcnd
      refine ⟨_, G4, ⟨ls ++ [lotA ts n w st (c + i)], ⟨?_, fun l hl => ?_⟩, by simp; omega, ?_⟩, (S4.forget 5).forget 6⟩
      · refine List.nodup_append.mpr ⟨lots.N, by simp, fun u hu v hv => ?_⟩
        have hv : v = lotA ts n w st (c + i) := by simpa using hv
        subst hv
        exact fun z => hcnd.2 (z ▸ hu)
      · rcases List.mem_append.mp hl with hl | hl
        · exact lots.A l hl
        · obtain rfl := List.mem_singleton.mp hl
          refine ⟨fun q => ?_, c + i, by omega, rfl⟩
          have := hcnd.1
          rw [q] at this
          cases this
      · rw [List.map_append]
        rfl
    · exact ⟨_, G3, ⟨ls, lots, by omega, rfl⟩, (S3.forget 5).forget 6⟩
  · obtain ⟨ls, lots, hlen, rfl⟩ := pv
    rw [rgD_len] at hlen
    obtain ⟨G2, S2, _, _⟩ := S'.freeze (i := 4) (j := 0) rfl rfl
    have hls : ∀ l ∈ ls, ∀ x ∈ l, x < 4096 := fun l hl x hx => by
      obtain ⟨_, a, _, el⟩ := lots.A l hl
      rw [el] at hx
      have := List.mem_range.mp (List.mem_filter.mp hx).1
      omega
    have hlz : ∀ l ∈ ls, l.length ≤ 90000 := fun l hl => by
      obtain ⟨_, a, _, el⟩ := lots.A l hl
      rw [el]
      have := List.length_filter_le (fun s => decide (run ts s (w.take a) = st)) (List.range n)
      rw [List.length_range] at this
      unfold lotA
      omega
    have hlsl : ls.length ≤ 1001 := by omega
    let g (x : PyData) : List Nat := natsD x
    have gn : ∀ l, g (nlD l) = l := fun l => by
      show ((nsD l).map natD) = l
      unfold nsD
      rw [List.map_map]
      exact (List.map_congr_left (g := id) fun i _ => natD_nat i).trans (List.map_id _)
    have i3 : ∀ {Γ : Cnt} (o l : List Nat), o ∈ ls → l ∈ ls → Γ[8]? = some (some (.d (nlD o))) → Γ[6]? = some (some (.d (nlD l))) → Γ.length = 10 → E1 N ⟨[], []⟩ Γ (tLc (iSeq N.K (tVar 8)) (gName 9) (tTest (tOp (rNotInD N.K) (tVar 9) (tVar 6))) (tVar 9) [9]) (.d (nlD (o.filter fun x => !decide (x ∈ l)))) := fun {Γ} o l ho hl h8 h6 hg => by
      have g6 : ∀ y, ((Γ.set 9 none).set 9 y)[6]? = some (some (.d (nlD l))) := fun y => by
        rw [List.getElem?_set_ne (by decide), List.getElem?_set_ne (by decide)]
        exact h6
      have g9 : ∀ y, ((Γ.set 9 none).set 9 (some y))[9]? = some (some y) := fun y => List.getElem?_set_self (by rw [List.length_set, hg]; decide)
      refine (e_lc1 (ds := nsD o) (fun x => !decide (natD x ∈ l)) id (i_seq (tl := tVar 8) (c := nlD o) (e_var h8) (.inr rfl)).i (by rw [nsD_len]; exact hlz o ho) (fun x hx => ?_) fun x hx _ => e_var (g9 _)).to ?_
      · obtain ⟨y, hy, rfl⟩ := mem_nsD hx
        refine t_test ((e_op (e_var (g9 _)) (e_var (g6 _)) (rv_niD rfl (shaped_nl (hls l hl)))).to ?_)
        rw [any_ns, natD_nat]
      · rw [List.map_id]
        unfold nsD nlD nsD
        rw [List.filter_map]
        rfl
    have i2 : ∀ {Γ : Cnt} (l : List Nat), l ∈ ls → Γ[4]? = some (some (.d (llD ls))) → Γ[6]? = some (some (.d (nlD l))) → Γ.length = 10 → E1 N ⟨[], []⟩ Γ (tLc (iSeq N.K (tVar 4)) (gName 8) (tAnd (tTest (tOp (rNeD N.K) (tVar 8) (tVar 6))) (tTest (tOp (rEqD N.K) (tLc (iSeq N.K (tVar 8)) (gName 9) (tTest (tOp (rNotInD N.K) (tVar 9) (tVar 6))) (tVar 9) [9]) (tLst tNil)))) (tVar 8) [8]) (.d (llD (ls.filter fun o => (!decide (o = l)) && (o.filter fun x => !decide (x ∈ l)).isEmpty))) := fun {Γ} l hl h4 h6 hg => by
      have g6 : ∀ y, ((Γ.set 8 none).set 8 y)[6]? = some (some (.d (nlD l))) := fun y => by
        rw [List.getElem?_set_ne (by decide), List.getElem?_set_ne (by decide)]
        exact h6
      have g8 : ∀ y, ((Γ.set 8 none).set 8 (some y))[8]? = some (some y) := fun y => List.getElem?_set_self (by rw [List.length_set, hg]; decide)
      refine (e_lc1 (ds := ls.map nlD) (fun x => (!decide (g x = l)) && ((g x).filter fun x => !decide (x ∈ l)).isEmpty) id (i_seq (tl := tVar 4) (c := llD ls) (e_var h4) (.inr rfl)).i (by rw [List.length_map]; omega) (fun x hx => ?_) fun x hx _ => e_var (g8 _)).to ?_
      · obtain ⟨o, ho, rfl⟩ := List.mem_map.mp hx
        rw [gn]
        refine t_and (t_test ((e_op (e_var (g8 _)) (e_var (g6 _)) (rv_neD (shaped_nl (hls o ho)) (shaped_nl (hls l hl)))).to (by rw [eqv_nl]))) fun _ => ?_
        refine (t_test (e_isNil (i3 o l ho hl (g8 _) (g6 _) (by rw [List.length_set, List.length_set, hg])) (shaped_nl fun x hx => hls o ho x (List.mem_filter.mp hx).1))).to ?_
        unfold nsD
        rw [isEmpty_map]
      · rw [List.map_id, List.filter_map]
        unfold llD
        congr 3
        exact List.filter_congr fun o _ => by
          show ((!decide (g (nlD o) = l)) && ((g (nlD o)).filter fun x => !decide (x ∈ l)).isEmpty) = _
          rw [gn]
    have i1 : E1 N ⟨[], []⟩ (Γ (.d (llD ls))) (tLc (iSeq N.K (tVar 4)) (gName 6) (tTest (tOp (rEqD N.K) (tLc (iSeq N.K (tVar 4)) (gName 8) (tAnd (tTest (tOp (rNeD N.K) (tVar 8) (tVar 6))) (tTest (tOp (rEqD N.K) (tLc (iSeq N.K (tVar 8)) (gName 9) (tTest (tOp (rNotInD N.K) (tVar 9) (tVar 6))) (tVar 9) [9]) (tLst tNil)))) (tVar 8) [8]) (tLst tNil))) (tVar 6) [6]) (.d (llD (ls.filter (minB ls)))) := by
      refine (e_lc1 (ds := ls.map nlD) (fun x => minB ls (g x)) id (i_seq (tl := tVar 4) (c := llD ls) (e_var rfl) (.inr rfl)).i (by rw [List.length_map]; omega) (fun x hx => ?_) fun x hx _ => e_var rfl).to ?_
      · obtain ⟨l, hl, rfl⟩ := List.mem_map.mp hx
        rw [gn]
        refine (t_test (e_isNil (i2 l hl rfl rfl rfl) (shaped_ll fun o ho => hls o (List.mem_filter.mp ho).1))).to ?_
        rw [isEmpty_map]
        rfl
      · rw [List.map_id, List.filter_map]
        unfold llD
        congr 3
        exact List.filter_congr fun o _ => by
          show minB ls (g (nlD o)) = _
          rw [gn]
    refine s_retF S2 (e_cb (a_cons i1 a_nil) (rc_len (.inr rfl))) (fun d h => ⟨(ls.filter (minB ls)).length, lots.few mv hw, by rw [h, List.length_map]⟩) k fun c hc => by cases hc
end Ag

/-! Plain: least lots, pairs, what holds. -/
namespace Ag
open PySem PySem.Spec PyProof.Rows L2
theorem sd_congr {n : Nat} {l m : List Nat} (h : ∀ x, x ∈ l ↔ x ∈ m) : sd n l = sd n m := by
  unfold sd
  exact List.filter_congr fun x _ => decide_eq_decide.mpr (h x)
theorem lot_run {ts : List (List Nat)} {n : Nat} (mv : MV ts n) : ∀ (v X : List Nat), (∀ x ∈ v, x < ts.length) → (∀ x ∈ X, x < n) → v.foldl (lotF ts n) (sd n X) = sd n (X.map fun s => run ts s v)
  | [], X, _, _ => by
    show sd n X = sd n (X.map fun s => s)
    rw [List.map_id']
  | d :: v, X, hv, hX => by
    have e : lotF ts n (sd n X) d = sd n (X.map (step ts d)) := by
      unfold lotF
      refine sd_congr fun x => ?_
      rw [List.mem_map, List.mem_map]
      constructor
      · rintro ⟨y, hy, rfl⟩
        exact ⟨y, (mem_sd.mp hy).2, rfl⟩
      · rintro ⟨y, hy, rfl⟩
        exact ⟨y, mem_sd.mpr ⟨hX y hy, hy⟩, rfl⟩
    rw [List.foldl_cons, e, lot_run mv v _ (fun x h => hv x (by simp [h])) fun x hx => by
      obtain ⟨y, hy, rfl⟩ := List.mem_map.mp hx
      exact (mv.at (hv d (by simp)) (hX y hy)).2.2, List.map_map]
    rfl
theorem sd_range (n : Nat) : sd n (List.range n) = List.range n := by
  unfold sd
  exact List.filter_eq_self.mpr fun x hx => decide_eq_true hx
theorem lot_img {ts : List (List Nat)} {n : Nat} (mv : MV ts n) {v : List Nat} (hv : ∀ x ∈ v, x < ts.length) : lotR ts n v = imgs ts n v := by
  unfold lotR imgs
  have := lot_run mv v (List.range n) hv fun x hx => List.mem_range.mp hx
  rw [sd_range] at this
  exact this
theorem mem_imgs {ts : List (List Nat)} {n : Nat} (mv : MV ts n) {v : List Nat} (hv : ∀ x ∈ v, x < ts.length) {x : Nat} : x ∈ imgs ts n v ↔ ∃ s, s < n ∧ run ts s v = x := by
  unfold imgs
  rw [mem_sd, List.mem_map]
  constructor
  · rintro ⟨_, s, hs, e⟩
    exact ⟨s, List.mem_range.mp hs, e⟩
  · rintro ⟨s, hs, rfl⟩
    exact ⟨run_lt mv hv hs, s, List.mem_range.mpr hs, rfl⟩
theorem imgs_nodup (ts : List (List Nat)) (n : Nat) (v : List Nat) : (imgs ts n v).Nodup := (sd_sorted _ _).imp fun h => by omega
theorem nar_doings {ts : List (List Nat)} {n m : Nat} {es : List Ent} {e : Ent} (mv : MV ts n) (b : Bfs ts.length (dF ts) (List.range n) es) (hm : ∀ e ∈ es, m ≤ (sd n e.1).length) (h : (es.filter fun e => decide ((sd n e.1).length = m)).head? = some e) : Nar ts n m e.2 := by
  obtain ⟨h1, h2, h3⟩ := b.first (fun x => decide ((sd n x).length = m)) h
  obtain ⟨r1, r2⟩ := b.R e h2
  have key : ∀ v : List Nat, (∀ x ∈ v, x < ts.length) → lotR ts n v = sd n (v.foldl (dF ts) (List.range n)) := fun v hv => by
    rw [lot_img mv hv, doing_eq]
    rfl
  refine ⟨r2, ?_, fun v hv => ?_, fun v hv hl => h3 v hv ?_⟩
  · rw [key _ r2, ← r1]
    simpa using h1
  · obtain ⟨e', he', q1, _⟩ := b.C v hv
    rw [key _ hv, ← q1]
    exact hm e' he'
  · rw [key _ hv] at hl
    exact decide_eq_true hl
/-- a pair that no doing makes one -/
theorem ever_es {ts : List (List Nat)} {n a c : Nat} {es : List Ent} (b : Bfs ts.length (dF ts) (List.range n) es) (ha : a < n) (hc : c < n) : (es.filter fun e => decide (e.1.getD a 0 = e.1.getD c 0)).isEmpty = !everB ts a c := by
  have key : ∀ (v : List Nat) (s : Nat), s < n → (v.foldl (dF ts) (List.range n)).getD s 0 = run ts s v := fun v s hs => by
    rw [doing_eq, List.getD_eq_getElem?_getD, List.getElem?_map, List.getElem?_range hs]
    rfl
  cases hev : everB ts a c with
  | true =>
    obtain ⟨v, hv, e⟩ := everB_t.mp hev
    obtain ⟨e', he', q1, _⟩ := b.C v hv
    have hm : e' ∈ es.filter fun e => decide (e.1.getD a 0 = e.1.getD c 0) := List.mem_filter.mpr ⟨he', by rw [q1, key v a ha, key v c hc]; exact decide_eq_true e⟩
    cases q : es.filter fun e => decide (e.1.getD a 0 = e.1.getD c 0) with
    | nil =>
      rw [q] at hm
      cases hm
    | cons _ _ => rfl
  | false =>
    have : es.filter (fun e => decide (e.1.getD a 0 = e.1.getD c 0)) = [] := List.filter_eq_nil_iff.mpr fun e he h => by
      obtain ⟨r1, r2⟩ := b.R e he
      rw [r1, key _ a ha, key _ c hc] at h
      have : everB ts a c = true := everB_t.mpr ⟨e.2, r2, of_decide_eq_true h⟩
      rw [hev] at this
      cases this
    rw [this]
    rfl
theorem ever_symm {ts : List (List Nat)} {a b : Nat} (h : Ever ts a b) : Ever ts b a := by
  obtain ⟨w, hw, e⟩ := h
  exact ⟨w, hw, e.symm⟩
theorem mem_nevs {ts : List (List Nat)} {n : Nat} {p : Pr} : p ∈ nevs ts n ↔ p.1 < p.2 ∧ p.2 < n ∧ everB ts p.1 p.2 = false := by
  unfold nevs
  rw [List.mem_filter, mem_prs, and_assoc]
  constructor
  · rintro ⟨h1, h2, h3⟩
    exact ⟨h1, h2, by simpa using h3⟩
  · rintro ⟨h1, h2, h3⟩
    exact ⟨h1, h2, by simp [h3]⟩
theorem least_one {ts : List (List Nat)} {n m : Nat} {w : List Nat} (mv : MV ts n) (nar : Nar ts n m w) : m = 1 ↔ nevs ts n = [] := by
  have e1 : (imgs ts n w).length = m := by rw [← lot_img mv nar.ok]; exact nar.eq
  have n1 := mv.n1
  constructor
  · intro hm
    subst hm
    cases q : nevs ts n with
    | nil => rfl
    | cons p ps =>
      exfalso
      have hp : p ∈ nevs ts n := by rw [q]; simp
      obtain ⟨h1, h2, h3⟩ := mem_nevs.mp hp
      have hx := (mem_imgs mv nar.ok).mpr ⟨p.1, by omega, rfl⟩
      have hy := (mem_imgs mv nar.ok).mpr ⟨p.2, h2, rfl⟩
      have : run ts p.1 w = run ts p.2 w := by
        cases hi : imgs ts n w with
        | nil =>
          rw [hi] at hx
          cases hx
        | cons a as =>
          rw [hi] at e1 hx hy
          have : as = [] := by
            cases as with
            | nil => rfl
            | cons _ _ => simp at e1
          subst this
          rw [List.mem_singleton.mp hx, List.mem_singleton.mp hy]
      have : everB ts p.1 p.2 = true := everB_t.mpr ⟨w, nar.ok, this⟩
      rw [h3] at this
      cases this
  · intro hn
    have h0 : 1 ≤ m := by
      have hx := (mem_imgs mv nar.ok).mpr ⟨0, by omega, rfl⟩
      have := List.length_pos_of_mem hx
      omega
    have hall : ∀ a b, a < n → b < n → a ≠ b → Ever ts a b := fun a b ha hb ne => by
      have key : ∀ a b, a < b → b < n → Ever ts a b := fun a b h1 h2 => by
        cases q : everB ts a b with
        | true => exact everB_t.mp q
        | false =>
          have : (a, b) ∈ nevs ts n := mem_nevs.mpr ⟨h1, h2, q⟩
          rw [hn] at this
          cases this
      rcases Nat.lt_or_gt_of_ne ne with h | h
      · exact key a b h hb
      · exact ever_symm (key b a h ha)
    by_cases hm : m = 1
    · exact hm
    · exfalso
      obtain ⟨a, b, rest, hi⟩ : ∃ a b rest, imgs ts n w = a :: b :: rest := by
        match hh : imgs ts n w with
        | [] =>
          rw [hh] at e1
          simp at e1
          omega
        | [a] =>
          rw [hh] at e1
          simp at e1
          omega
        | a :: b :: rest => exact ⟨a, b, rest, rfl⟩
      have nd := imgs_nodup ts n w
      rw [hi] at nd
      have hab : a ≠ b := by
        rw [List.nodup_cons] at nd
        exact fun z => nd.1 (by simp [z])
      have ln : ∀ x ∈ imgs ts n w, x < n := fun x hx => (mem_sd.mp hx).1
      obtain ⟨v, hv, e⟩ := hall a b (ln a (by simp [hi])) (ln b (by simp [hi])) hab
      have hwv : ∀ x ∈ w ++ v, x < ts.length := fun x hx => by
        rcases List.mem_append.mp hx with h | h
        · exact nar.ok x h
        · exact hv x h
      have := nodup_len (m := (a :: rest).map fun x => run ts x v) (imgs_nodup ts n (w ++ v)) fun x hx => by
        obtain ⟨s, hs, rfl⟩ := (mem_imgs mv hwv).mp hx
        have hm := (mem_imgs mv nar.ok).mpr ⟨s, hs, rfl⟩
        rw [hi] at hm
        rw [run_append]
        refine List.mem_map.mpr ?_
        rcases List.mem_cons.mp hm with q | q
        · exact ⟨a, by simp, by rw [q]⟩
        · rcases List.mem_cons.mp q with q | q
          · exact ⟨a, by simp, by rw [q]; exact e⟩
          · exact ⟨_, by simp [q], rfl⟩
      have h2 := nar.le (w ++ v) hwv
      rw [lot_img mv hwv] at h2
      have h3 : m = (a :: b :: rest).length := by rw [← hi]; exact e1.symm
      simp only [List.length_map, List.length_cons] at this h3
      omega
theorem nodup_same {α : Type} [DecidableEq α] {l m : List α} (h1 : l.Nodup) (h2 : m.Nodup) (h : ∀ x, x ∈ l ↔ x ∈ m) : l.length = m.length :=
  Nat.le_antisymm (nodup_len h1 fun x hx => (h x).mp hx) (nodup_len h2 fun x hx => (h x).mpr hx)
theorem zs_nodup {l : List Nat} (h : l.Nodup) : (zs l).Nodup := by
  unfold zs List.Nodup at *
  rw [List.pairwise_map]
  exact h.imp fun ne e => ne (by omega)
theorem zs_mem {l m : List Nat} (h : ∀ x, x ∈ l ↔ x ∈ m) (k : Int) : k ∈ zs l ↔ k ∈ zs m := by
  rw [mem_zs, mem_zs]
  constructor
  · rintro ⟨x, hx, rfl⟩
    exact ⟨x, (h x).mp hx, rfl⟩
  · rintro ⟨x, hx, rfl⟩
    exact ⟨x, (h x).mpr hx, rfl⟩
/-- how many different ones -/
theorem distinct_len {n : Nat} {l : List Nat} {out : List Int} (hl : ∀ x ∈ l, x < n) (h1 : out.Nodup) (h2 : ∀ k, k ∈ out ↔ k ∈ zs l) : out.length = (sd n l).length := by
  rw [← len_zs (sd n l)]
  refine nodup_same h1 (zs_nodup ((sd_sorted n l).imp fun h => by omega)) fun k => ?_
  rw [h2]
  exact zs_mem (fun x => by rw [mem_sd]; exact ⟨fun h => ⟨hl x h, h⟩, fun h => h.2⟩) k
theorem imgN_eq {ts : List (List Nat)} {n : Nat} (mv : MV ts n) {w : List Nat} (hw : ∀ x ∈ w, x < ts.length) : imgN ts n w = (imgs ts n w).length := by
  unfold imgN
  obtain ⟨h1, h2⟩ := ddK_facts (zs ((List.range n).map fun s => run ts s w))
  exact distinct_len (fun x hx => by
    obtain ⟨s, hs, rfl⟩ := List.mem_map.mp hx
    exact run_lt mv hw (List.mem_range.mp hs)) h2 h1
theorem natsD_ns (l : List Nat) : (nsD l).map natD = l := by
  unfold nsD
  rw [List.map_map]
  exact (List.map_congr_left (g := id) fun i _ => natD_nat i).trans (List.map_id _)
theorem allB_ns {l : List Nat} {k : Nat} (h : ∀ x ∈ l, x < k) : allB (nsD l) (k : Nat) = true := allB_nats h
theorem rh_reset {ts : List (List Nat)} {n : Nat} (mv : MV ts n) {w : List Nat} (hw : ∀ x ∈ w, x < ts.length) {c : PyData} (hc : c = .tuple (nsD w) ∨ c = .list (nsD w)) : rhB ts n (.tuple [.str "reset", c]) = decide ((imgs ts n w).length = 1) := by
  have e1 : itemsD c = nsD w := by rcases hc with rfl | rfl <;> rfl
  have e2 : isSeqD c = true := by rcases hc with rfl | rfl <;> rfl
  have q0 : nth (.tuple [.str "reset", c]) 0 = .str "reset" := rfl
  have q1 : nth (.tuple [.str "reset", c]) 1 = c := rfl
  unfold rhB
  rw [q0, q1, e1, e2]
  have e3 : natsD c = w := by
    unfold natsD
    rw [e1, natsD_ns]
  rw [e3, imgN_eq mv hw, allB_ns hw]
  simp [isSeqD, itemsD, isT, strD]
theorem asc_two {a b n : Nat} : ascB (.list [.int (a : Nat), .int (b : Nat)]) (n : Nat) = (decide (a < b) && decide (b < n)) := by
  show (true && (true && (((decide ((0 : Int) ≤ (a : Nat)) && decide (((a : Nat) : Int) < (n : Nat))) && ((decide ((0 : Int) ≤ (b : Nat)) && decide (((b : Nat) : Int) < (n : Nat))) && true)) && (decide (((a : Nat) : Int) < (b : Nat)) && true)))) = (decide (a < b) && decide (b < n))
  rw [Bool.eq_iff_iff]
  simp only [Bool.and_eq_true, decide_eq_true_iff]
  constructor
  · rintro ⟨_, _, ⟨⟨_, h1⟩, ⟨_, h2⟩, _⟩, h3, _⟩
    omega
  · rintro ⟨h1, h2⟩
    exact ⟨trivial, trivial, ⟨⟨by omega, by omega⟩, ⟨by omega, by omega⟩, trivial⟩, by omega, trivial⟩
theorem rh_pair {ts : List (List Nat)} {n a b : Nat} {x : PyData} (hx : x = .list [.str "pair", .list [.int (a : Nat), .int (b : Nat)]]) : rhB ts n x = decide ((a, b) ∈ nevs ts n) := by
  subst hx
  have q0 : nth (.list [.str "pair", .list [.int (a : Nat), .int (b : Nat)]]) 0 = .str "pair" := rfl
  have q1 : nth (.list [.str "pair", .list [.int (a : Nat), .int (b : Nat)]]) 1 = .list [.int (a : Nat), .int (b : Nat)] := rfl
  have q2 : nth (.list [.int (a : Nat), .int (b : Nat)]) 0 = .int (a : Nat) := rfl
  have q3 : nth (.list [.int (a : Nat), .int (b : Nat)]) 1 = .int (b : Nat) := rfl
  unfold rhB
  rw [q0, q1, q2, q3, natD_nat, natD_nat, asc_two]
  have ne : ¬ (strD (.str "pair") = ("reset" : Str)) := by decide +kernel
  rw [if_neg ne]
  have e : decide ((a, b) ∈ nevs ts n) = ((decide (a < b) && decide (b < n)) && !everB ts a b) := by
    rw [Bool.eq_iff_iff, decide_eq_true_iff, mem_nevs]
    simp [and_assoc]
  rw [e]
  simp [isSeqD, itemsD, isT, strD]
end Ag

/-! More for the law: tuples taken apart, repr against repr, set sizes. -/
namespace Ag
open PySem PySem.Spec PyProof.Rows L2
section
variable {F : Fx} {L : Hp} {M : Mm} {G H : Hp} {σ : L2.St} {Γ : Cnt} {D : Ends} {tz : TS} {tr : TA}
/-- a, b, c = .. whatever they are -/
theorem q_tup3 {i j l : Nat} {P : Bd → Bd → Bd → Prop} (S : Sta F L M G H σ Γ) (h : EvA F.N M Γ tr (fun bs => ∃ x y z, bs = [x, y, z] ∧ P x y z))
    (k : ∀ u v w x y z G' H', P x y z → Sta F L M G' H' (((σ.set i (some u)).set j (some v)).set l (some w)) (((Γ.set i (some x)).set j (some y)).set l (some z)) → tz D (((σ.set i (some u)).set j (some v)).set l (some w)) H') :
    tSeq (tAsg (tTup tr) (gTup F.N.K 3 (gCons (gName i) (gCons (gName j) (gCons (gName l) gNil))))) tz D σ H := by
  refine h G H σ _ S.s S.env S.mok fun vs bs G1 H1 g1 m1 p1 h1 => ?_
  obtain ⟨x, y, z, rfl, pp⟩ := p1
  have S1 := S.step g1 m1
  cases h1 with
  | cons a r =>
    cases r with
    | cons b r =>
      cases r with
      | cons c r =>
        cases r
        rename_i u v w
        refine ⟨show 3 ≤ sizeLine from by decide, fun q nq => ?_⟩
        have S2 := S1.pure (Gr.newM (o := .tup [u, v, w]) S1.s nq)
        exact ⟨q, _, rfl, .of upd_same, rfl, u, _, rfl, v, _, rfl, w, _, rfl, rfl, k u v w x y z _ _ pp (((S2.set i a).set j b).set l c)⟩
theorem q_tup2 {i j : Nat} {P : Bd → Bd → Prop} (S : Sta F L M G H σ Γ) (h : EvA F.N M Γ tr (fun bs => ∃ x y, bs = [x, y] ∧ P x y))
    (k : ∀ u v x y G' H', P x y → Sta F L M G' H' ((σ.set i (some u)).set j (some v)) ((Γ.set i (some x)).set j (some y)) → tz D ((σ.set i (some u)).set j (some v)) H') :
    tSeq (tAsg (tTup tr) (gTup F.N.K 2 (gCons (gName i) (gCons (gName j) gNil)))) tz D σ H := by
  refine h G H σ _ S.s S.env S.mok fun vs bs G1 H1 g1 m1 p1 h1 => ?_
  obtain ⟨x, y, rfl, pp⟩ := p1
  have S1 := S.step g1 m1
  obtain ⟨u, v, rfl, a, b⟩ := vals_two h1
  refine ⟨show 2 ≤ sizeLine from by decide, fun q nq => ?_⟩
  have S2 := S1.pure (Gr.newM (o := .tup [u, v]) S1.s nq)
  exact ⟨q, _, rfl, .of upd_same, rfl, u, _, rfl, v, _, rfl, rfl, k u v x y _ _ pp ((S2.set i a).set j b)⟩
end
section
variable {N : Nv} {M : Mm} {Γ : Cnt} {ta tb te : TE}
theorem e_neS1 {x : Str} (ha : E1 N M Γ ta (.d (.str x))) (hb : E1 N M Γ tb (.d (.str x))) : E1 N M Γ (tOp rNe ta tb) (.d (.bool false)) := fun G H σ Q s e bx k =>
  ha G H σ _ s e bx fun v d G1 H1 g1 b1 p1 h1 => hb G1 H1 σ _ g1.s (e.mono g1.g) b1 fun v2 d2 G2 H2 g2 b2 p2 h2 => by
    subst p1 p2
    rw [h1.str, h2.str]
    refine ⟨rfl, k _ _ G2 H2 (g1.trans g2) b2 rfl ?_⟩
    rw [show (!decide (V.str x = V.str x)) = false by simp]
    exact Dt.bl _
theorem e_eqS1 {x : Str} (ha : E1 N M Γ ta (.d (.str x))) (hb : E1 N M Γ tb (.d (.str x))) : E1 N M Γ (tOp rEq ta tb) (.d (.bool true)) := fun G H σ Q s e bx k =>
  ha G H σ _ s e bx fun v d G1 H1 g1 b1 p1 h1 => hb G1 H1 σ _ g1.s (e.mono g1.g) b1 fun v2 d2 G2 H2 g2 b2 p2 h2 => by
    subst p1 p2
    rw [h1.str, h2.str]
    refine ⟨rfl, k _ _ G2 H2 (g1.trans g2) b2 rfl ?_⟩
    rw [show decide (V.str x = V.str x) = true by simp]
    exact Dt.bl _
/-- repr(a) != repr(b), alike -/
theorem e_reprNe {x : PyData} (ha : E1 N M Γ ta (.d x)) (hb : E1 N M Γ tb (.d x)) (g : gd x = true) (hd : x.depth ≤ 60) (hn : nn x ≤ 70000) : E1 N M Γ (tOp rNe (tCB (rRepr N.K) (tCons ta tNil)) (tCB (rRepr N.K) (tCons tb tNil))) (.d (.bool false)) :=
  e_neS1 (e_cb (a_cons ha a_nil) (rc_reprS g hd hn)) (e_cb (a_cons hb a_nil) (rc_reprS g hd hn))
theorem e_reprEq {x : PyData} (ha : E1 N M Γ ta (.d x)) (hb : E1 N M Γ tb (.d x)) (g : gd x = true) (hd : x.depth ≤ 60) (hn : nn x ≤ 70000) : E1 N M Γ (tOp rEq (tCB (rRepr N.K) (tCons ta tNil)) (tCB (rRepr N.K) (tCons tb tNil))) (.d (.bool true)) :=
  e_eqS1 (e_cb (a_cons ha a_nil) (rc_reprS g hd hn)) (e_cb (a_cons hb a_nil) (rc_reprS g hd hn))
theorem e_neS_any {a b : Bool} (ha : E1 N M Γ ta (.d (.bool a))) (hb : E1 N M Γ tb (.d (.bool b))) : E1 N M Γ (tOp (rNeD N.K) ta tb) (.d (.bool (!decide (a = b)))) := (e_op ha hb (rv_neD rfl rfl)).to (by rw [eqv_bool])
theorem e_eqB {a b : Bool} (ha : E1 N M Γ ta (.d (.bool a))) (hb : E1 N M Γ tb (.d (.bool b))) : E1 N M Γ (tOp (rEqD N.K) ta tb) (.d (.bool (decide (a = b)))) := (e_op ha hb (rv_eqD rfl rfl)).to (by rw [eqv_bool])
/-- len(set(l)), l a tuple of numbers -/
theorem e_setLen {n : Nat} {l : List Nat} {c : PyData} (h : E1 N M Γ te (.d c)) (hc : c = .tuple (nsD l) ∨ c = .list (nsD l)) (hl : ∀ x ∈ l, x < n) (hz : l.length ≤ 1000) : E1 N M Γ (tCB (rLen N.K N.w) (tCons (tCB (rSetI N.K N.w) (tCons te tNil)) tNil)) (.d (.int ((sd n l).length : Nat))) := by
  have e : nsD l = (zs l).map .int := by
    unfold nsD
    rw [zs_int]
  rw [e] at hc
  refine ev_cb (PA := fun bs => ∃ out : List Int, out.Nodup ∧ (∀ k, k ∈ out ↔ k ∈ zs l) ∧ bs = [.st out]) (ev_cons (ev_cb (a_cons h a_nil) fun bs e => by
    subst e
    exact rc_set hc (by rw [len_zs]; exact hz)) a_nil fun d ds h1 h2 => ?_) fun bs hb => ?_
  · obtain ⟨out, a, b, rfl⟩ := h1
    exact ⟨out, a, b, by rw [h2]⟩
  · obtain ⟨out, a, b, rfl⟩ := hb
    rw [← distinct_len hl a b]
    exact rc_len_st
theorem e_isBl {a b : Bool} (ha : E1 N M Γ ta (.d (.bool a))) (hb : E1 N M Γ tb (.d (.bool b))) : E1 N M Γ (tOp rIsBl ta tb) (.d (.bool (decide (a = b)))) := e_op ha hb rv_isB
theorem e_notBl {a b : Bool} (ha : E1 N M Γ ta (.d (.bool a))) (hb : E1 N M Γ tb (.d (.bool b))) : E1 N M Γ (tOp rNotBl ta tb) (.d (.bool (!decide (a = b)))) := e_op ha hb rv_notB
end
/-! data -/
theorem gd_p {p : Pr} (h1 : p.1 < 4096) (h2 : p.2 < 4096) : gd (pD p) = true := by
  simp only [pD, gd, gdA, Bool.and_true]
  have a := gd_nat h1
  have b := gd_nat h2
  simp only [gd] at a b
  rw [a, b]
  rfl
theorem dep_p (p : Pr) : (pD p).depth = 1 := by
  simp [pD, PyData.depth, PyData.depthAll]
theorem nb_p (p : Pr) : nb (pD p) = true := rfl
theorem pD_inj {p q : Pr} (h : pD p = pD q) : p = q := by
  unfold pD at h
  simp only [PyData.tuple.injEq, List.cons.injEq, PyData.int.injEq] at h
  exact Prod.ext (by omega) (by omega)
theorem eqv_p (p q : Pr) : PyData.eqv (pD p) (pD q) = decide (p = q) := by
  by_cases h : p = q
  · rw [decide_eq_true h, h]
    exact (eqv_iff _ _ (nb_p q) (nb_p q)).mpr rfl
  · rw [decide_eq_false h]
    cases e : PyData.eqv (pD p) (pD q) with
    | false => rfl
    | true => exact absurd (pD_inj ((eqv_iff _ _ (nb_p p) (nb_p q)).mp e)) h
def plD (l : List Pr) : PyData := .list (l.map pD)
theorem shaped_p {p : Pr} (h1 : p.1 < 4096) (h2 : p.2 < 4096) : SeqAt.shaped (pD p) = true := gd_shaped (gd_p h1 h2) (by rw [dep_p]; decide)
theorem shaped_pl {l : List Pr} (h : ∀ p ∈ l, p.1 < 4096 ∧ p.2 < 4096) : SeqAt.shaped (plD l) = true := by
  refine gd_shaped ?_ ?_
  · show gdA (l.map pD) = true
    exact gdA_of fun x hx => by
      obtain ⟨p, hp, rfl⟩ := List.mem_map.mp hx
      exact gd_p (h p hp).1 (h p hp).2
  · show PyData.depthAll (l.map pD) + 1 ≤ 64
    have := depA_of (xs := l.map pD) (k := 1) fun x hx => by
      obtain ⟨p, hp, rfl⟩ := List.mem_map.mp hx
      rw [dep_p]
      exact Nat.le_refl _
    omega
theorem any_p (l : List Pr) (p : Pr) : ((l.map pD).any fun z => PyData.eqv z (pD p)) = decide (p ∈ l) := by
  rw [List.any_map]
  by_cases h : p ∈ l
  · rw [decide_eq_true h, List.any_eq_true]
    exact ⟨p, h, by show PyData.eqv (pD p) (pD p) = true; rw [eqv_p]; simp⟩
  · rw [decide_eq_false h, List.any_eq_false]
    intro x hx
    show ¬ PyData.eqv (pD x) (pD p) = true
    rw [eqv_p]
    simp only [decide_eq_true_eq]
    exact fun e => h (e ▸ hx)
theorem gd_due {l : List Pr} {w : List Nat} (h : ∀ p ∈ l, p.1 < 4096 ∧ p.2 < 4096) (hw : ∀ x ∈ w, x < 4096) : gd (dueD l w) = true := by
  cases l with
  | nil =>
    simp only [dueD, gd, gdA, gd_tn hw, Bool.and_true]
    decide +kernel
  | cons p l =>
    have := h p (by simp)
    simp only [dueD, gd, gdA, gd_p this.1 this.2, Bool.and_true]
    decide +kernel
theorem dep_due (l : List Pr) (w : List Nat) : (dueD l w).depth = 2 := by
  cases l with
  | nil =>
    simp only [dueD, PyData.depth, PyData.depthAll, dep_tn]
    rfl
  | cons p l =>
    simp only [dueD, PyData.depth, PyData.depthAll, dep_p]
    rfl
theorem nn_due (l : List Pr) (w : List Nat) : nn (dueD l w) ≤ w.length + 10 := by
  cases l with
  | nil =>
    simp only [dueD, nn, nnA]
    have := nn_tn w
    omega
  | cons p l =>
    simp only [dueD, nn, nnA, pD]
    omega
theorem nb_due (l : List Pr) (w : List Nat) : nb (dueD l w) = true := by
  cases l with
  | nil =>
    simp only [dueD, nb, nbA, tnD, nb_nats, Bool.and_self]
  | cons p l =>
    rfl
theorem rh_due {ts : List (List Nat)} {n m : Nat} {w : List Nat} (mv : MV ts n) (nar : Nar ts n m w) : rhB ts n (dueD (nevs ts n) w) = true := by
  cases q : nevs ts n with
  | nil =>
    have hm := (least_one mv nar).mpr q
    subst hm
    have e : dueD [] w = .tuple [.str "reset", .tuple (nsD w)] := rfl
    rw [e, rh_reset mv nar.ok (.inl rfl), ← lot_img mv nar.ok, nar.eq]
    rfl
  | cons p l =>
    have hp : p ∈ nevs ts n := by rw [q]; simp
    obtain ⟨h1, h2, h3⟩ := mem_nevs.mp hp
    have q0 : nth (dueD (p :: l) w) 0 = .str "pair" := rfl
    have q1 : nth (dueD (p :: l) w) 1 = .tuple [.int (p.1 : Nat), .int (p.2 : Nat)] := rfl
    have q2 : nth (.tuple [.int (p.1 : Nat), .int (p.2 : Nat)]) 0 = .int (p.1 : Nat) := rfl
    have q3 : nth (.tuple [.int (p.1 : Nat), .int (p.2 : Nat)]) 1 = .int (p.2 : Nat) := rfl
    have ne : ¬ (strD (.str "pair") = ("reset" : Str)) := by decide +kernel
    have ha : ascB (.tuple [.int (p.1 : Nat), .int (p.2 : Nat)]) (n : Nat) = (decide (p.1 < p.2) && decide (p.2 < n)) := asc_two (a := p.1) (b := p.2) (n := n)
    unfold rhB
    rw [q0, q1, q2, q3, natD_nat, natD_nat, if_neg ne, ha, h3, decide_eq_true h1, decide_eq_true h2]
    rfl
/-- values that are no paper -/
def oddL (ts : List (List Nat)) (n : Nat) (w : List Nat) : List PyData :=
  [.none, .int 5, .str "reset", .tuple [.str "reset"], .tuple [.str "reset", .none], .tuple [.str "reset", .list [.int (ts.length : Nat)]], .tuple [.str "reset", .tuple [.bool true]], .tuple [.str "reset", tnD w, .int 0], .tuple [tnD w, .str "reset"]] ++
  [.tuple [.str "pair", .tuple [.int 0]], .tuple [.str "pair", .tuple [.int 0, .int (n : Nat)]], .tuple [.str "pair", .tuple [.int 0, .int 0]], .tuple [.str "pair", .none], .tuple [.str "pair", .tuple [.bool false, .int 1]], .tuple [.str "Pair", .tuple [.int 0, .int 1]]]
theorem rh_odd {ts : List (List Nat)} {n : Nat} {w : List Nat} {x : PyData} (hx : x ∈ oddL ts n w) : rhB ts n x = false := by
  have ne : ¬ (strD (.str "pair") = ("reset" : Str)) := by decide +kernel
  have ne2 : ¬ (strD (.str "Pair") = ("reset" : Str)) := by decide +kernel
  have ne3 : ¬ (strD (.str "Pair") = ("pair" : Str)) := by decide +kernel
  have two : ∀ {y : PyData}, ascB y (n : Nat) = false → rhB ts n (.tuple [.str "pair", y]) = false := fun {y} h => by
    have q0 : nth (.tuple [.str "pair", y]) 0 = .str "pair" := rfl
    have q1 : nth (.tuple [.str "pair", y]) 1 = y := rfl
    unfold rhB
    rw [q0, q1, if_neg ne, h]
    simp
  have one : ∀ {y : PyData}, allB (itemsD y) (ts.length : Nat) = false → rhB ts n (.tuple [.str "reset", y]) = false := fun {y} h => by
    have q0 : nth (.tuple [.str "reset", y]) 0 = .str "reset" := rfl
    have q1 : nth (.tuple [.str "reset", y]) 1 = y := rfl
    unfold rhB
    rw [q0, q1, if_pos (show strD (.str "reset") = ("reset" : Str) from rfl), h]
    simp
  simp only [oddL, List.mem_append, List.mem_cons, List.not_mem_nil, or_false] at hx
  rcases hx with (rfl | rfl | rfl | rfl | rfl | rfl | rfl | rfl | rfl) | (rfl | rfl | rfl | rfl | rfl | rfl)
  · rfl
  · rfl
  · rfl
  · rfl
  · rfl
  · refine one ?_
    show ((decide ((0 : Int) ≤ (ts.length : Nat)) && decide (((ts.length : Nat) : Int) < (ts.length : Nat))) && true) = false
    simp
  · exact one rfl
  · rfl
  · rfl
  · unfold rhB
    rw [show nth (.tuple [.str "pair", .tuple [.int 0]]) 0 = .str "pair" from rfl, if_neg ne]
    simp [nth, itemsD]
  · refine two ?_
    have := asc_two (a := 0) (b := n) (n := n)
    rw [show (decide (n < n)) = false by simp, Bool.and_false] at this
    exact this
  · refine two ?_
    have := asc_two (a := 0) (b := 0) (n := n)
    rw [show (decide (0 < 0)) = false by simp, Bool.false_and] at this
    exact this
  · unfold rhB
    rw [show nth (.tuple [.str "pair", .none]) 1 = .none from rfl]
    simp [isSeqD]
  · exact two rfl
  · unfold rhB
    rw [show nth (.tuple [.str "Pair", .tuple [.int 0, .int 1]]) 0 = .str "Pair" from rfl, if_neg ne2, decide_eq_false ne3]
    simp
end Ag

/-! _law_right. -/
namespace Ag
open PySem PySem.Spec PyProof.Rows L2
/-! ### plain: the pairs that never meet, as they are found -/
noncomputable def nvP (ts : List (List Nat)) (n a j : Nat) : List Pr := (((List.range a).flatMap (prow n)) ++ ((List.range j).map fun i => (a, a + 1 + i))).filter fun p => !everB ts p.1 p.2
theorem nvP_zero (ts : List (List Nat)) (n : Nat) : nvP ts n 0 0 = [] := rfl
theorem nvP_step (ts : List (List Nat)) (n a j : Nat) : nvP ts n a (j + 1) = nvP ts n a j ++ (if everB ts a (a + 1 + j) = true then [] else [(a, a + 1 + j)]) := by
  unfold nvP
  rw [List.range_succ, List.map_append, ← List.append_assoc, List.filter_append]
  congr 1
  cases h : everB ts a (a + 1 + j) with
  | true =>
    rw [if_pos rfl]
    exact List.filter_eq_nil_iff.mpr fun x hx => by
      obtain rfl := List.mem_singleton.mp hx
      show ¬ (!everB ts a (a + 1 + j)) = true
      rw [h]
      decide
  | false =>
    rw [if_neg (by decide)]
    show List.filter _ [(a, a + 1 + j)] = _
    rw [List.filter_cons_of_pos (by show (!everB ts a (a + 1 + j)) = true; rw [h]; rfl)]
    rfl
theorem nvP_next (ts : List (List Nat)) (n a : Nat) : nvP ts n a (n - (a + 1)) = nvP ts n (a + 1) 0 := by
  unfold nvP
  rw [List.range_succ, List.flatMap_append, List.append_assoc]
  congr 2
  show _ = (prow n a ++ []) ++ []
  rw [List.append_nil, List.append_nil]
  rfl
theorem nvP_all (ts : List (List Nat)) (n : Nat) : nvP ts n n 0 = nevs ts n := by
  unfold nvP nevs prs
  show List.filter _ (_ ++ []) = _
  rw [List.append_nil]
theorem nvP_len1 (ts : List (List Nat)) (n a : Nat) : ∀ j, (nvP ts n a j).length ≤ (nvP ts n a 0).length + j
  | 0 => Nat.le_refl _
  | j + 1 => by
    rw [nvP_step, List.length_append]
    have := nvP_len1 ts n a j
    split
    · simp
      omega
    · simp
      omega
theorem nvP_len {ts : List (List Nat)} {n : Nat} (hn : n ≤ 12) : ∀ a j, j ≤ n → (nvP ts n a j).length ≤ 12 * a + j
  | 0, j, _ => by
    have := nvP_len1 ts n 0 j
    rw [nvP_zero] at this
    simp at this
    omega
  | a + 1, j, _ => by
    have h1 := nvP_len1 ts n (a + 1) j
    rw [← nvP_next] at h1
    have h2 := nvP_len (ts := ts) hn a (n - (a + 1)) (by omega)
    omega
def Dgs (ts : List (List Nat)) (n : Nat) (es : List Ent) : Prop := Bfs ts.length (dF ts) (List.range n) es ∧ es.length ≤ 256 ∧ es ≠ [] ∧ (∀ e ∈ es, e.1.length = n ∧ (∀ x ∈ e.1, x < n) ∧ (∀ x ∈ e.2, x < ts.length) ∧ e.2.length ≤ 256)
theorem sd_le (n : Nat) (l : List Nat) : (sd n l).length ≤ n := by
  unfold sd
  have := List.length_filter_le (fun x => decide (x ∈ l)) (List.range n)
  rw [List.length_range] at this
  exact this
theorem natsD_tn (l : List Nat) : natsD (tnD l) = l := natsD_ns l
theorem gd_mm {m : Nat} (h : m < 4096) : gd (nlD [m, m]) = true := gd_nl fun x hx => by
  simp at hx
  omega
theorem nn_nl (l : List Nat) : nn (nlD l) ≤ l.length + 1 := by
  unfold nlD nsD
  simp only [nn]
  have := nn_nats (l := l)
  omega
theorem odd_ok {ts : List (List Nat)} {n : Nat} {w : List Nat} {x : PyData} (hw : w.length ≤ 1000) (hx : x ∈ oddL ts n w) : (itemsD (nth x 1)).length ≤ 1000 ∧ PyData.strOk (strD (nth x 0)) = true := by
  simp only [oddL, List.mem_append, List.mem_cons, List.not_mem_nil, or_false] at hx
  rcases hx with (rfl | rfl | rfl | rfl | rfl | rfl | rfl | rfl | rfl) | (rfl | rfl | rfl | rfl | rfl | rfl)
  all_goals refine ⟨?_, ?_⟩
  all_goals first
    | exact Nat.le_of_ble_eq_true rfl
    | (show (w.map fun n => PyData.int (n : Nat)).length ≤ 1000; rw [List.length_map]; exact hw)
    | (show PyData.strOk "" = true; decide +kernel)
    | (show PyData.strOk "reset" = true; decide +kernel)
    | (show PyData.strOk "pair" = true; decide +kernel)
    | (show PyData.strOk "Pair" = true; decide +kernel)
    | skip
/-! ### calls -/
section
variable {N : Nv} {M : Mm} {Γ : Cnt} {te tv : TE} {ts : List (List Nat)} {n m : Nat} {w : List Nat}
theorem e_width (mv : MV ts n) (nar : Nar ts n m w) (h : E1 N M Γ te (.m ts)) : E1 N M Γ (tCall (Spc N Rl_width) [] E0 (tCons te tNil)) (.d (.int (m : Nat))) :=
  (ev_callP (a_cons h a_nil) ⟨ts, n, rfl, mv, rfl, rfl⟩).imp fun d ⟨m', w', nar', e⟩ => by rw [e, (nar.uniq nar').1]
theorem e_widthK (mv : MV ts n) (nar : Nar ts n m w) (h : E1 N M Γ te (.m ts)) : E1 N M Γ (tKw 1 (Spc N Rl_width) (fun zs => zs) (tCons te tNil)) (.d (.int (m : Nat))) :=
  (ev_kw1 (a_cons h a_nil) ⟨ts, n, rfl, mv, rfl, rfl⟩).imp fun d ⟨m', w', nar', e⟩ => by rw [e, (nar.uniq nar').1]
theorem e_wlog (mv : MV ts n) (nar : Nar ts n m w) (h : E1 N M Γ te (.m ts)) : E1 N M Γ (tCall (Spc N Rl_width_log) [] E0 (tCons te tNil)) (.d (tnD w)) :=
  (ev_callP (a_cons h a_nil) ⟨ts, n, rfl, mv, rfl, rfl⟩).imp fun d ⟨m', w', nar', e⟩ => by rw [e, (nar.uniq nar').2]
theorem e_wlogK (mv : MV ts n) (nar : Nar ts n m w) (h : E1 N M Γ te (.m ts)) : E1 N M Γ (tKw 1 (Spc N Rl_width_log) (fun zs => zs) (tCons te tNil)) (.d (tnD w)) :=
  (ev_kw1 (a_cons h a_nil) ⟨ts, n, rfl, mv, rfl, rfl⟩).imp fun d ⟨m', w', nar', e⟩ => by rw [e, (nar.uniq nar').2]
theorem e_paper (mv : MV ts n) (nar : Nar ts n m w) (h : E1 N M Γ te (.m ts)) : E1 N M Γ (tCall (Spc N Rl_reset_paper) [] E0 (tCons te tNil)) (.d (dueD (nevs ts n) w)) :=
  ev_callP (a_cons h a_nil) ⟨ts, n, m, w, rfl, mv, nar, rfl, rfl⟩
theorem e_paperK (mv : MV ts n) (nar : Nar ts n m w) (h : E1 N M Γ te (.m ts)) : E1 N M Γ (tKw 1 (Spc N Rl_reset_paper) (fun zs => zs) (tCons te tNil)) (.d (dueD (nevs ts n) w)) :=
  ev_kw1 (a_cons h a_nil) ⟨ts, n, m, w, rfl, mv, nar, rfl, rfl⟩
theorem e_holds {x : PyData} (mv : MV ts n) (h : E1 N M Γ te (.m ts)) (hx : E1 N M Γ tv (.d x)) (h1 : (itemsD (nth x 1)).length ≤ 1000) (h2 : PyData.strOk (strD (nth x 0)) = true) : E1 N M Γ (tCall (Spc N Rl_reset_holds) [] E0 (tCons te (tCons tv tNil))) (.d (.bool (rhB ts n x))) :=
  e_call (a_cons h (a_cons hx a_nil)) ⟨ts, n, x, rfl, mv, h1, h2, rfl, rfl⟩
theorem e_holdsK {x : PyData} (mv : MV ts n) (h : E1 N M Γ te (.m ts)) (hx : E1 N M Γ tv (.d x)) (h1 : (itemsD (nth x 1)).length ≤ 1000) (h2 : PyData.strOk (strD (nth x 0)) = true) : E1 N M Γ (tKw 2 (Spc N Rl_reset_holds) swp (tCons tv (tCons te tNil))) (.d (.bool (rhB ts n x))) :=
  e_kw2s (a_cons hx (a_cons h a_nil)) ⟨ts, n, x, rfl, mv, h1, h2, rfl, rfl⟩
end
theorem t_or_ff {N : Nv} {M : Mm} {Γ : Cnt} {t u : TT} (h1 : EvT N M Γ t false) (h2 : EvT N M Γ u false) : EvT N M Γ (tOr t u) false := t_or h1 fun _ => h2
theorem due_facts (l : List Pr) {w : List Nat} (hw : w.length ≤ 1000) : (itemsD (nth (dueD l w) 1)).length ≤ 1000 ∧ PyData.strOk (strD (nth (dueD l w) 0)) = true := by
  cases l with
  | nil =>
    refine ⟨?_, by show PyData.strOk "reset" = true; decide +kernel⟩
    show (w.map fun n => PyData.int (n : Nat)).length ≤ 1000
    rw [List.length_map]
    exact hw
  | cons p l => exact ⟨Nat.le_of_ble_eq_true rfl, by show PyData.strOk "pair" = true; decide +kernel⟩
theorem nevs_small {ts : List (List Nat)} {n : Nat} (hn : n ≤ 12) : ∀ p ∈ nevs ts n, p.1 < 4096 ∧ p.2 < 4096 := fun p hp => by
  obtain ⟨h1, h2, _⟩ := mem_nevs.mp hp
  exact ⟨by omega, by omega⟩
def Rl__law_right : Rlt := fun bs B P => ∃ (b : Addr) (ts : List (List Nat)) (n : Nat), bs = [.v (.ref b), .d (tlD ts)] ∧ MV ts n ∧ n ≤ 4 ∧ B = [b] ∧ P = fun d => d = .d (.bool true)
/-- no doing makes the two one -/
theorem e_never {N : Nv} {M : Mm} {Γ : Cnt} {ts : List (List Nat)} {n a c : Nat} {es : List Ent} (dg : Dgs ts n es) (mv : MV ts n) (ha : a < n) (hc : c < n) (h12 : Γ[12]? = some (some (.d (lgD es)))) (h6 : Γ[6]? = some (some (.d (.int (a : Nat))))) (h13 : Γ[13]? = some (some (.d (.int (c : Nat))))) (hl : Γ.length = 17) :
    E1 N M Γ (tOp (rEqD N.K) (tLc (iSeq N.K (tVar 12)) (gTup N.K 2 (gCons (gName 14) (gCons (gName 15) gNil))) (tTest (tOp (rEqD N.K) (tOp (rIx N.K) (tVar 14) (tVar 6)) (tOp (rIx N.K) (tVar 14) (tVar 13)))) (tVar 14) [14, 15]) (tLst tNil)) (.d (.bool (!everB ts a c))) := by
  obtain ⟨bf, e1, e2, e3⟩ := dg
  have n12 := mv.n12
  have g (i : Nat) (h14 : i ≠ 14) (h15 : i ≠ 15) : ∀ x y, (((wipeG Γ [14, 15]).set 14 x).set 15 y)[i]? = Γ[i]? := fun x y => by
    show (((((Γ.set 15 none).set 14 none).set 14 x).set 15 y))[i]? = _
    rw [List.getElem?_set_ne (Ne.symm h15), List.getElem?_set_ne (Ne.symm h14), List.getElem?_set_ne (Ne.symm h14), List.getElem?_set_ne (Ne.symm h15)]
  have g14 : ∀ x y, (((wipeG Γ [14, 15]).set 14 (some x)).set 15 y)[14]? = some (some x) := fun x y => by
    rw [List.getElem?_set_ne (by decide)]
    exact List.getElem?_set_self (by show 14 < ((Γ.set 15 none).set 14 none).length; rw [List.length_set, List.length_set, hl]; decide)
  have hi : EvI N M Γ (iSeq N.K (tVar 12)) ((es.map fun e => (tnD e.1, tnD e.2)).map fun p => Bd.d (.tuple [p.1, p.2])) := by
    have := (i_seq (N := N) (M := M) (Γ := Γ) (tl := tVar 12) (c := lgD es) (e_var h12) (.inr rfl)).i
    rw [List.map_map] at this ⊢
    exact this
  have k := e_lc2 (N := N) (M := M) (Γ := Γ) (a := 14) (b := 15) (tt := tTest (tOp (rEqD N.K) (tOp (rIx N.K) (tVar 14) (tVar 6)) (tOp (rIx N.K) (tVar 14) (tVar 13)))) (te := tVar 14) (fun p => decide ((natsD p.1).getD a 0 = (natsD p.1).getD c 0)) (fun p => p.1) hi (by rw [List.length_map]; omega) (fun x hx => by
    obtain ⟨e, he, rfl⟩ := List.mem_map.mp hx
    obtain ⟨q1, q2, q3, q4⟩ := e3 e he
    have at' : ∀ i, i < n → (e.1.map fun n => PyData.int (n : Nat))[i]? = some (.int ((e.1.getD i 0 : Nat) : Int)) := fun i hi => by
      rw [List.getElem?_map, List.getD_eq_getElem?_getD, List.getElem?_eq_getElem (by omega)]
      rfl
    refine (t_test (e_eqI (e_ixT (j := a) (e_var (g14 _ _)) (e_var ((g 6 (by decide) (by decide) _ _).trans h6)) (at' a ha)) (e_ixT (j := c) (e_var (g14 _ _)) (e_var ((g 13 (by decide) (by decide) _ _).trans h13)) (at' c hc)))).to ?_
    show _ = decide ((natsD (tnD e.1)).getD a 0 = (natsD (tnD e.1)).getD c 0)
    rw [natsD_tn]
    exact decide_eq_decide.mpr ⟨fun h => by omega, fun h => by omega⟩) (fun x hx _ => e_var (g14 _ _))
  refine (e_isNil k ?_).to ?_
  · refine gd_shaped ?_ ?_
    · unfold gd
      exact gdA_of fun x hx => by
        obtain ⟨p, hp, rfl⟩ := List.mem_map.mp hx
        obtain ⟨e, he, rfl⟩ := List.mem_map.mp (List.mem_filter.mp hp).1
        obtain ⟨q1, q2, q3, q4⟩ := e3 e he
        exact gd_tn fun x hx => by
          have := q2 x hx
          omega
    · show PyData.depthAll _ + 1 ≤ 64
      have := depA_of (xs := List.map (fun p : PyData × PyData => p.1) (List.filter (fun p : PyData × PyData => decide ((natsD p.1).getD a 0 = (natsD p.1).getD c 0)) (es.map fun e => (tnD e.1, tnD e.2)))) (k := 1) fun x hx => by
        obtain ⟨p, hp, rfl⟩ := List.mem_map.mp hx
        obtain ⟨e, he, rfl⟩ := List.mem_map.mp (List.mem_filter.mp hp).1
        show (tnD e.1).depth ≤ 1
        rw [dep_tn]
        exact Nat.le_refl _
      omega
  · rw [isEmpty_map, List.filter_map, isEmpty_map, ← ever_es bf ha hc]
    congr 3
    exact List.filter_congr fun e _ => by
      show decide ((natsD (tnD e.1)).getD a 0 = (natsD (tnD e.1)).getD c 0) = _
      rw [natsD_tn]
theorem filter_head_of {es : List Ent} {f : Ent → Nat} {m j : Nat} (h1 : (es.map fun e => ((f e : Nat) : Int))[j]? = some (m : Int)) (h2 : ∀ i, i < j → (es.map fun e => ((f e : Nat) : Int))[i]? ≠ some (m : Int)) : ∃ e, es[j]? = some e ∧ (es.filter fun e => decide (f e = m)).head? = some e := by
  rw [List.getElem?_map] at h1
  cases q : es[j]? with
  | none =>
    rw [q] at h1
    cases h1
  | some e =>
    rw [q] at h1
    have h1 : ((f e : Nat) : Int) = m := Option.some.inj h1
    refine ⟨e, rfl, filter_head q (fun i y hi hy => ?_) (decide_eq_true (by omega))⟩
    have := h2 i hi
    rw [List.getElem?_map, hy] at this
    exact decide_eq_false fun z => this (by rw [← z]; rfl)
def szE (n : Nat) (e : Ent) : Nat := (sd n e.1).length
/-- what is known of the names in _law_right -/
abbrev GR (b : Addr) (ts : List (List Nat)) (n : Nat) (es : List Ent) (m : Nat) (w : List Nat) (o5 o6 o7 o8 o9 o13 o14 o15 o16 : Option Bd) : Cnt :=
  [some (.v (.ref b)), some (.d (tlD ts)), some (.d (.list ((es.map fun e => ((szE n e : Nat) : Int)).map .int))), some (.d (.int (m : Nat))), some (.d (tnD w)), o5, o6, o7, o8, o9, some (.m ts), some (.d (.int (n : Nat))), some (.d (lgD es)), o13, o14, o15, o16]
set_option maxHeartbeats 4000000 in
theorem W__law_right (N : Nv) : Walk N (R__law_right N (SpI N Rl_init) (Spc N Rl__law_doings) (Spc N Rl_width) (Spc N Rl_width_log) (Spc N Rl_reset_paper) (Spc N Rl__law_pick) (Spc N Rl__law_take) (Spc N Rl_reset_holds)) Rl__law_right 15 := by
  rintro bs B P ⟨b, ts, n, rfl, mv, n4, rfl, rfl⟩ G H σ D S k
  have n1 := mv.n1
  have n12 := mv.n12
  have k8 := mv.k8
  refine q_tup3 (P := fun x y z => x = .m ts ∧ y = .d (.int (n : Nat)) ∧ ∃ es, Dgs ts n es ∧ z = .d (lgD es)) S (ev_cons (PB := fun bs => ∃ x y z, bs = [x, y, z] ∧ (x = .m ts ∧ y = .d (.int (n : Nat)) ∧ ∃ es, Dgs ts n es ∧ z = .d (lgD es))) (e_make (Rl := Rl_init) (a_cons (e_var rfl) a_nil) ⟨n, rfl, mv⟩) (ev_cons (PB := fun bs => ∃ es, Dgs ts n es ∧ bs = [.d (.int (n : Nat)), .d (lgD es)]) (e_len0 mv (e_var rfl)) (ev_cons (PB := fun bs => ∃ es, Dgs ts n es ∧ bs = [.d (lgD es)]) (ev_callP (a_cons (e_var rfl) a_nil) ⟨ts, n, rfl, mv, n4, rfl, rfl⟩) a_nil fun d ds h1 h2 => ?_) fun d ds h1 h2 => ?_) fun d ds h1 h2 => ?_) fun u v w x y z G1 H1 pp S1 => ?_
  · obtain ⟨es, q1, q2, q3, q4, rfl⟩ := h1
    exact ⟨es, ⟨q1, q2, q3, q4⟩, by rw [h2]⟩
  · obtain ⟨es, dg, rfl⟩ := h2
    exact ⟨es, dg, by rw [h1]⟩
  · obtain ⟨es, dg, rfl⟩ := h2
    exact ⟨_, _, _, rfl, h1, rfl, es, dg, rfl⟩
  obtain ⟨rfl, rfl, es, dg, rfl⟩ := pp
  obtain ⟨bf, es1, es2, es3⟩ := dg
  have k2 : E1 N ⟨[b], []⟩ [some (.v (.ref b)), some (.d (tlD ts)), none, none, none, none, none, none, none, none, some (.m ts), some (.d (.int (n : Nat))), some (.d (lgD es)), none, none, none, none] (tLc (iSeq N.K (tVar 12)) (gTup N.K 2 (gCons (gName 14) (gCons (gName 15) gNil))) tYes (tCB (rLen N.K N.w) (tCons (tCB (rSetI N.K N.w) (tCons (tVar 14) tNil)) tNil)) [14, 15]) (.d (.list ((es.map fun e => ((szE n e : Nat) : Int)).map .int))) := by
    have hi : EvI N ⟨[b], []⟩ [some (.v (.ref b)), some (.d (tlD ts)), none, none, none, none, none, none, none, none, some (.m ts), some (.d (.int (n : Nat))), some (.d (lgD es)), none, none, none, none] (iSeq N.K (tVar 12)) ((es.map fun e => (tnD e.1, tnD e.2)).map fun p => Bd.d (.tuple [p.1, p.2])) := by
      have := (i_seq (N := N) (M := ⟨[b], []⟩) (Γ := [some (.v (.ref b)), some (.d (tlD ts)), none, none, none, none, none, none, none, none, some (.m ts), some (.d (.int (n : Nat))), some (.d (lgD es)), none, none, none, none]) (tl := tVar 12) (c := lgD es) (e_var rfl) (.inr rfl)).i
      rw [List.map_map] at this ⊢
      exact this
    refine (e_lc2 (a := 14) (b := 15) (fun _ => true) (fun p => .int ((sd n (natsD p.1)).length : Nat)) hi (by rw [List.length_map]; omega) (fun _ _ => t_yes) (fun x hx _ => ?_)).to ?_
    · obtain ⟨e, he, rfl⟩ := List.mem_map.mp hx
      obtain ⟨q1, q2, q3, q4⟩ := es3 e he
      exact (e_setLen (n := n) (l := e.1) (c := tnD e.1) (e_var rfl) (.inl rfl) q2 (by omega)).to (by show _ = Bd.d (.int ((sd n (natsD (tnD e.1))).length : Nat)); rw [natsD_tn])
    · rw [filter_yes, List.map_map, List.map_map]
      congr 2
      exact List.map_congr_left fun e _ => by
        show PyData.int ((sd n (natsD (tnD e.1))).length : Nat) = _
        rw [natsD_tn]
        rfl
  refine q_set S1 k2 fun v2 G2 H2 S2 => ?_
  refine q_asg (P := fun d => ∃ m : Nat, (∃ e ∈ es, szE n e = m) ∧ (∀ e ∈ es, m ≤ szE n e) ∧ d = .d (.int (m : Nat))) S2 ((ev_cb (a_cons (e_var (b := .d (.list ((es.map fun e => ((szE n e : Nat) : Int)).map .int))) rfl) a_nil) fun bs e => by
    subst e
    exact rc_mn (by
      rw [List.length_map]
      exact List.length_pos_iff.mpr es2)).imp fun d h => ?_) fun v3 d G3 H3 pd S3 => ?_
  · obtain ⟨m, hm, hle, rfl⟩ := h
    obtain ⟨e, he, rfl⟩ := List.mem_map.mp hm
    exact ⟨szE n e, ⟨e, he, rfl⟩, fun e' he' => by have := hle _ (List.mem_map.mpr ⟨e', he', rfl⟩); omega, rfl⟩
  obtain ⟨m, ⟨e1, he1, hem⟩, hle, rfl⟩ := pd
  have hmn : m ≤ n := by
    rw [← hem]
    exact sd_le n e1.1
  refine q_asg (P := fun d => ∃ w : List Nat, Nar ts n m w ∧ w.length ≤ 256 ∧ d = .d (tnD w)) S3 (ev_op (P1 := fun d => ∃ e ∈ es, Nar ts n m e.2 ∧ d = .d (entD e)) (P2 := fun d => d = .d (.int (1 : Int))) (ev_op (P1 := fun d => d = .d (lgD es)) (e_var rfl) (e_index (ns := es.map fun e => ((szE n e : Nat) : Int)) (x := (m : Int)) (e_var rfl) (e_var rfl) (List.mem_map.mpr ⟨e1, he1, by rw [hem]⟩)) fun x y h1 h2 => ?_) e_int fun x y h1 h2 => ?_) fun v4 d G4 H4 pd S4 => ?_
  · obtain ⟨j, rfl, h3, h4⟩ := h2
    subst h1
    obtain ⟨e, he, hh⟩ := filter_head_of (f := szE n) h3 h4
    have hj := (List.getElem?_eq_some_iff.mp he).1
    exact fun G H u v Q s hu hv k => rv_ix (ds := es.map entD) (j := j) (x := entD e) (lgD es) (.inr rfl) (ixN_nat (by rw [List.length_map]; exact hj)) (by rw [List.getElem?_map, he]; rfl) G H u v Q s hu hv fun z d G' H' g q => k z d G' H' g ⟨e, List.mem_of_getElem? he, nar_doings mv bf hle hh, q⟩
  · obtain ⟨e, he, nar, rfl⟩ := h1
    subst h2
    exact fun G H u v Q s hu hv k => rv_ix (ds := [tnD e.1, tnD e.2]) (j := 1) (x := tnD e.2) (entD e) (.inl rfl) rfl rfl G H u v Q s hu hv fun z d G' H' g q => k z d G' H' g ⟨e.2, nar, (es3 e he).2.2.2, q⟩
  obtain ⟨w, nar, hwl, rfl⟩ := pd
  have hw4 : ∀ x ∈ w, x < 4096 := fun x hx => by
    have := nar.ok x hx
    omega
  have S4 : Sta ⟨N, [b], G, H⟩ G ⟨[b], []⟩ G4 H4 _ (GR b ts n es m w none none none none none none none none none) := S4
  refine q_skip S4 (t_test (e_reprNe (x := nlD [m, m]) (e_lst (ds := [.int (m : Nat), .int (m : Nat)]) (a_cons (e_width mv nar (e_var rfl)) (a_cons (e_widthK mv nar (e_var rfl)) a_nil))) ((e_op (e_lst (ds := [.int (m : Nat)]) (a_cons (e_var rfl) a_nil)) e_int (rv_rep (n := 2) (by simp) (by decide))).to rfl) (gd_mm (by omega)) (by rw [dep_nl]; decide) (Nat.le_trans (nn_nl _) (by simp)))) fun G5 H5 S5 => ?_
  refine q_skip S5 (t_test (e_reprNe (x := .list [tnD w, tnD w]) (e_lst (ds := [tnD w, tnD w]) (a_cons (e_wlog mv nar (e_var rfl)) (a_cons (e_wlogK mv nar (e_var rfl)) a_nil))) ((e_op (e_lst (ds := [tnD w]) (a_cons (e_var rfl) a_nil)) e_int (rv_rep (n := 2) (by simp) (by decide))).to rfl) (by simp only [gd, gdA, gd_tn hw4, Bool.and_self]) (by simp only [PyData.depth, PyData.depthAll, dep_tn]; decide) (by
    simp only [nn, nnA]
    have := nn_tn w
    omega))) fun G6 H6 S6 => ?_
  refine q_nil S6 fun pp G7 H7 S7 => ?_
  have S7 : Sta ⟨N, [b], G, H⟩ G ⟨[b], [(pp, .lst [])]⟩ G7 H7 _ (GR b ts n es m w (some (.v (.ref pp))) none none none none none none none none) := S7
  refine q_for1 (a := 6) S7 (i_rg1 (n := n) (a_cons (e_var rfl) a_nil) (by omega)) (fun a M' => M' = ⟨[b], [(pp, .lst ((nvP ts n a 0).map pD))]⟩) rfl (fun a x M' L' G' H' σ' hx pv S' => ?_) (fun M' G' H' σ' pv S' => ?_)
  · subst pv
    obtain ⟨ha, rfl⟩ := rgD_get hx
    have ea : (0 : Int) + (a : Nat) = (a : Nat) := by omega
    rw [ea] at S'
    have S' : Sta ⟨N, [b], G, H⟩ L' ⟨[b], [(pp, .lst ((nvP ts n a 0).map pD))]⟩ G' H' σ' (GR b ts n es m w (some (.v (.ref pp))) (some (.d (.int (a : Nat)))) none none none none none none none) := S'
    refine s_for1 (a := 13) S' (i_rg2 (lo := a + 1) (hi := n) (a_cons ((e_op (e_var rfl) e_int rv_I0).to (by show Bd.d (.int ((a : Int) + 1)) = _; rw [show ((a : Int) + 1) = ((a + 1 : Nat) : Int) by omega])) (a_cons (e_var rfl) a_nil)) (by omega) (by omega)) (fun j M' => M' = ⟨[b], [(pp, .lst ((nvP ts n a j).map pD))]⟩) rfl (fun j x M' L2 G' H' σ' hx pv' S' => ?_) (fun M' G' H' σ' pv' S' => ?_)
    · subst pv'
      obtain ⟨hj, rfl⟩ := rgD_get hx
      have eb : (((a + 1 : Nat) : Int) + (j : Nat)) = ((a + 1 + j : Nat) : Int) := by omega
      rw [eb] at S'
      have S' : Sta ⟨N, [b], G, H⟩ L2 ⟨[b], [(pp, .lst ((nvP ts n a j).map pD))]⟩ G' H' σ' (GR b ts n es m w (some (.v (.ref pp))) (some (.d (.int (a : Nat)))) none none none (some (.d (.int ((a + 1 + j : Nat) : Int)))) none none none) := S'
      have tn := t_test (e_never (N := N) (M := ⟨[b], [(pp, .lst ((nvP ts n a j).map pD))]⟩) (Γ := GR b ts n es m w (some (.v (.ref pp))) (some (.d (.int (a : Nat)))) none none none (some (.d (.int ((a + 1 + j : Nat) : Int)))) none none none) (a := a) (c := a + 1 + j) ⟨bf, es1, es2, es3⟩ mv ha (by omega) rfl rfl rfl rfl)
      have nl := nvP_len (ts := ts) n12 a j (by omega)
      refine s_if S' tn (fun hc G8 H8 S8 => ?_) (fun hc G8 H8 S8 => ?_)
      · have hc : everB ts a (a + 1 + j) = false := by simpa using hc
        refine s_app (j := 0) (l := pp) (ds := (nvP ts n a j).map pD) S8 rfl (e_var rfl) (e_tup (ds := [.int (a : Nat), .int ((a + 1 + j : Nat) : Int)]) (a_cons (e_var rfl) (a_cons (e_var rfl) a_nil))) (fun d h => ⟨_, h⟩) (by rw [List.length_map]; omega) fun z G9 H9 ez S9 => ?_
        have ez := bd_inj ez
        subst ez
        refine ⟨_, G9, ?_, S9.forget 13⟩
        show Mm.mk _ _ = Mm.mk [b] [(pp, .lst ((nvP ts n a (j + 1)).map pD))]
        rw [nvP_step, hc, if_neg (by decide), List.map_append]
        rfl
      · have hc : everB ts a (a + 1 + j) = true := by simpa using hc
        refine ⟨_, G8, ?_, S8.forget 13⟩
        show Mm.mk _ _ = Mm.mk [b] [(pp, .lst ((nvP ts n a (j + 1)).map pD))]
        rw [nvP_step, hc, if_pos rfl, List.append_nil]
    · subst pv'
      rw [rgD_len, nvP_next] at S'
      exact ⟨_, G', rfl, S'.forget 6⟩
  subst pv
  rw [rgD_len, nvP_all] at S'
  obtain ⟨G8, S8, _, _⟩ := S'.freeze (i := 5) (j := 0) rfl rfl
  have S8 : Sta ⟨N, [b], G, H⟩ G ⟨[b], []⟩ G8 H' σ' (GR b ts n es m w (some (.d (plD (nevs ts n)))) none none none none none none none none) := S8
  have hpl := nevs_small (ts := ts) n12
  have hone : m = 1 ↔ nevs ts n = [] := least_one mv nar
  obtain ⟨du1, du2⟩ := due_facts (nevs ts n) (w := w) (by omega)
  have gdu := gd_due (l := nevs ts n) (w := w) hpl hw4
  have sdu : SeqAt.shaped (dueD (nevs ts n) w) = true := gd_shaped gdu (by rw [dep_due]; decide)
  refine q_set (b := .d (dueD (nevs ts n) w)) S8 (e_if (c := decide ((m : Int) = 1)) (t_test (e_eqI (e_var rfl) e_int)) (fun h => ?_) (fun h => ?_)) fun v9 G9 H9 S9 => ?_
  · have hn := hone.mp (by have := of_decide_eq_true h; omega)
    exact (e_tup (ds := [.str "reset", tnD w]) (a_cons e_str (a_cons (e_var rfl) a_nil))).to (by rw [hn]; rfl)
  · have hn : nevs ts n ≠ [] := fun z => by
      have := of_decide_eq_false h
      have := hone.mpr z
      omega
    cases q : nevs ts n with
    | nil => exact absurd q hn
    | cons p l =>
      refine (e_tup (ds := [.str "pair", pD p]) (a_cons e_str (a_cons (e_ixL (ds := (p :: l).map pD) (j := 0) (e_var rfl) e_int rfl) a_nil))).to rfl
  have S9 : Sta ⟨N, [b], G, H⟩ G ⟨[b], []⟩ G9 H9 _ (GR b ts n es m w (some (.d (plD (nevs ts n)))) none (some (.d (dueD (nevs ts n) w))) none none none none none none) := S9
  have t3 : EvT N ⟨[b], []⟩ (GR b ts n es m w (some (.d (plD (nevs ts n)))) none (some (.d (dueD (nevs ts n) w))) none none none none none none) (tTest (tOp (rNeD N.K) (tOp (rEqD N.K) (tVar 3) (tC (.int 1))) (tOp (rEqD N.K) (tVar 5) (tLst tNil)))) false := by
    refine (t_test (e_neS_any (e_eqI (a := (m : Int)) (b := 1) (e_var rfl) e_int) (e_isNil (xs := (nevs ts n).map pD) (e_var rfl) (shaped_pl hpl)))).to ?_
    rw [isEmpty_map]
    cases q : nevs ts n with
    | nil =>
      have := hone.mpr q
      subst this
      rfl
    | cons p l =>
      have : ¬ m = 1 := fun z => by
        have := hone.mp z
        rw [q] at this
        cases this
      rw [decide_eq_false (show ¬ ((m : Int) = 1) by omega)]
      rfl
  refine q_skip S9 (t_or_ff (t_test (e_reprNe (e_paper mv nar (e_var rfl)) (e_var rfl) gdu (by rw [dep_due]; decide) (Nat.le_trans (nn_due _ _) (by omega)))) (t_or_ff (t_test ((e_op (e_paperK mv nar (e_var rfl)) (e_var rfl) (rv_neD sdu sdu)).to (by rw [(eqv_iff _ _ (nb_due (nevs ts n) w) (nb_due (nevs ts n) w)).mpr rfl]; rfl))) t3)) fun G10 H10 S10 => ?_
  refine q_for1 (a := 8) S10 (i_rg1 (n := 4) (a_cons e_int a_nil) (by decide)) (fun i M' => M' = ⟨[b], []⟩) rfl (fun i x M' L' G' H' σ' hx pv S' => ?_) (fun M' G' H' σ' pv S' => ?_)
  · subst pv
    have S' : Sta ⟨N, [b], G, H⟩ L' ⟨[b], []⟩ G' H' σ' (GR b ts n es m w (some (.d (plD (nevs ts n)))) none (some (.d (dueD (nevs ts n) w))) none none none none none none) := S'.forget 8
    refine q_two (i := 14) (j := 15) (P := fun d => ∃ e ∈ es, d = .d (entD e)) S' ((ev_callBx (B := [b]) (a_cons (e_var rfl) (a_cons (e_var rfl) a_nil)) ⟨b, es.map entD, rfl, by simpa using es2, by rw [List.length_map]; omega, rfl, rfl⟩ fun _ h => h).imp fun d ⟨x, hx, e⟩ => by
      obtain ⟨y, hy, rfl⟩ := List.mem_map.mp hx
      exact ⟨y, hy, e⟩) (fun d ⟨e, _, q⟩ => ⟨_, _, q⟩) fun u v x y G11 H11 pd S11 => ?_
    obtain ⟨e, he, q⟩ := pd
    cases q
    have S11 : Sta ⟨N, [b], G, H⟩ L' ⟨[b], []⟩ G11 H11 _ (GR b ts n es m w (some (.d (plD (nevs ts n)))) none (some (.d (dueD (nevs ts n) w))) none none none (some (.d (tnD e.1))) (some (.d (tnD e.2))) none) := S11
    obtain ⟨q1, q2, q3, q4⟩ := es3 e he
    have tk : ∀ {Γ : Cnt}, Γ[0]? = some (some (.v (.ref b))) → Γ[11]? = some (some (.d (.int (n : Nat)))) → Ev N ⟨[b], []⟩ Γ (tCall (Spc N Rl__law_take) [] E0 (tCons (tVar 0) (tCons (tVar 11) tNil))) (fun d => ∃ i : Nat, i < n ∧ d = .d (.int (i : Nat))) := fun h0 h1 => ev_callBx (B := [b]) (a_cons (e_var h0) (a_cons (e_var h1) a_nil)) ⟨b, n, rfl, by omega, by omega, rfl, rfl⟩ fun _ h => h
    refine q_tup2 (i := 6) (j := 13) (P := fun x y => ∃ a c : Nat, a < n ∧ c < n ∧ x = .d (.int (a : Nat)) ∧ y = .d (.int (c : Nat))) S11 (ev_cons (PB := fun bs => ∃ x y, bs = [x, y] ∧ ∃ a c : Nat, a < n ∧ c < n ∧ x = .d (.int (a : Nat)) ∧ y = .d (.int (c : Nat))) (tk rfl rfl) (ev_cons (PB := fun bs => ∃ c : Nat, c < n ∧ bs = [.d (.int (c : Nat))]) (tk rfl rfl) a_nil fun d ds h1 h2 => ?_) fun d ds h1 h2 => ?_) fun u v x y G12 H12 pd S12 => ?_
    · obtain ⟨c, hc, rfl⟩ := h1
      exact ⟨c, hc, by rw [h2]⟩
    · obtain ⟨a, ha, rfl⟩ := h1
      obtain ⟨c, hc, rfl⟩ := h2
      exact ⟨_, _, rfl, a, c, ha, hc, rfl, rfl⟩
    · obtain ⟨a, c, ha, hc, rfl, rfl⟩ := pd
      have S12 : Sta ⟨N, [b], G, H⟩ L' ⟨[b], []⟩ G12 H12 _ (GR b ts n es m w (some (.d (plD (nevs ts n)))) (some (.d (.int (a : Nat)))) (some (.d (dueD (nevs ts n) w))) none none (some (.d (.int (c : Nat)))) (some (.d (tnD e.1))) (some (.d (tnD e.2))) none) := S12
      have hr : rhB ts n (.tuple [.str "reset", .list (nsD e.2)]) = decide ((imgs ts n e.2).length = 1) := rh_reset mv q3 (.inr rfl)
      have he1 : sd n e.1 = imgs ts n e.2 := by
        obtain ⟨r1, _⟩ := bf.R e he
        rw [r1, doing_eq]
        rfl
      refine q_skip S12 (t_test (e_reprNe (x := .bool (decide ((imgs ts n e.2).length = 1))) ((e_holds (x := .tuple [.str "reset", .list (nsD e.2)]) mv (e_var rfl) (e_tup (ds := [.str "reset", .list (nsD e.2)]) (a_cons e_str (a_cons (e_cb (a_cons (e_var rfl) a_nil) (rc_lst (.inl rfl))) a_nil))) (by show (nsD e.2).length ≤ 1000; rw [nsD_len]; omega) (by show PyData.strOk "reset" = true; decide +kernel)).to (by rw [hr])) ((e_eqI (e_setLen (n := n) (l := e.1) (c := tnD e.1) (e_var rfl) (.inl rfl) q2 (by omega)) e_int).to (by rw [he1]; congr 2; exact decide_eq_decide.mpr ⟨fun h => by omega, fun h => by omega⟩)) rfl (by simp [PyData.depth]) (by simp [nn]))) fun G13 H13 S13 => ?_
      have hp : rhB ts n (.list [.str "pair", .list [.int (a : Nat), .int (c : Nat)]]) = decide ((a, c) ∈ nevs ts n) := rh_pair rfl
      refine s_if (c := false) S13 (t_test (e_reprNe (x := .bool (decide ((a, c) ∈ nevs ts n))) ((e_holdsK (x := .list [.str "pair", .list [.int (a : Nat), .int (c : Nat)]]) mv (e_var rfl) (e_lst (ds := [.str "pair", .list [.int (a : Nat), .int (c : Nat)]]) (a_cons e_str (a_cons (e_lst (ds := [.int (a : Nat), .int (c : Nat)]) (a_cons (e_var rfl) (a_cons (e_var rfl) a_nil))) a_nil))) (Nat.le_of_ble_eq_true rfl) (by show PyData.strOk "pair" = true; decide +kernel)).to (by rw [hp])) ((e_op (e_tup (ds := [.int (a : Nat), .int (c : Nat)]) (a_cons (e_var rfl) (a_cons (e_var rfl) a_nil))) (e_var rfl) (rv_inD (x := pD (a, c)) (ds := (nevs ts n).map pD) (shaped_p (by show a < 4096; omega) (by show c < 4096; omega)) (shaped_pl hpl))).to (by rw [any_p])) rfl (by simp [PyData.depth]) (by simp [nn]))) (fun h => nomatch h) fun _ G14 H14 S14 => ?_
      exact ⟨_, G14, rfl, (((S14.forget 6).forget 13).forget 14).forget 15⟩
  subst pv
  refine q_set (b := .d (.list [.none, .int 5, .str "reset", .tuple [.str "reset"], .tuple [.str "reset", .none], .tuple [.str "reset", .list [.int (ts.length : Nat)]], .tuple [.str "reset", .tuple [.bool true]], .tuple [.str "reset", tnD w, .int 0], .tuple [tnD w, .str "reset"]])) S' (e_lst (a_cons e_non (a_cons e_int (a_cons e_str (a_cons (e_tup (ds := [.str "reset"]) (a_cons e_str a_nil)) (a_cons (e_tup (ds := [.str "reset", .none]) (a_cons e_str (a_cons e_non a_nil))) (a_cons (e_tup (ds := [.str "reset", .list [.int (ts.length : Nat)]]) (a_cons e_str (a_cons (e_lst (ds := [.int (ts.length : Nat)]) (a_cons ((e_cb (a_cons (e_var rfl) a_nil) (rc_len (.inr rfl))).to (by rw [List.length_map])) a_nil)) a_nil))) (a_cons (e_tup (ds := [.str "reset", .tuple [.bool true]]) (a_cons e_str (a_cons (e_tup (ds := [.bool true]) (a_cons e_bl a_nil)) a_nil))) (a_cons (e_tup (ds := [.str "reset", tnD w, .int 0]) (a_cons e_str (a_cons (e_var rfl) (a_cons e_int a_nil)))) (a_cons (e_tup (ds := [tnD w, .str "reset"]) (a_cons (e_var rfl) (a_cons e_str a_nil))) a_nil)))))))))) fun v15 G15 H15 S15 => ?_
  refine q_set (b := .d (.list (oddL ts n w))) S15 (e_op (e_var rfl) (e_lst (ds := [.tuple [.str "pair", .tuple [.int 0]], .tuple [.str "pair", .tuple [.int 0, .int (n : Nat)]], .tuple [.str "pair", .tuple [.int 0, .int 0]], .tuple [.str "pair", .none], .tuple [.str "pair", .tuple [.bool false, .int 1]], .tuple [.str "Pair", .tuple [.int 0, .int 1]]]) (a_cons (e_tup (ds := [.str "pair", .tuple [.int 0]]) (a_cons e_str (a_cons (e_tup (ds := [.int 0]) (a_cons e_int a_nil)) a_nil))) (a_cons (e_tup (ds := [.str "pair", .tuple [.int 0, .int (n : Nat)]]) (a_cons e_str (a_cons (e_tup (ds := [.int 0, .int (n : Nat)]) (a_cons e_int (a_cons (e_var rfl) a_nil))) a_nil))) (a_cons (e_tup (ds := [.str "pair", .tuple [.int 0, .int 0]]) (a_cons e_str (a_cons (e_tup (ds := [.int 0, .int 0]) (a_cons e_int (a_cons e_int a_nil))) a_nil))) (a_cons (e_tup (ds := [.str "pair", .none]) (a_cons e_str (a_cons e_non a_nil))) (a_cons (e_tup (ds := [.str "pair", .tuple [.bool false, .int 1]]) (a_cons e_str (a_cons (e_tup (ds := [.bool false, .int 1]) (a_cons e_bl (a_cons e_int a_nil))) a_nil))) (a_cons (e_tup (ds := [.str "Pair", .tuple [.int 0, .int 1]]) (a_cons e_str (a_cons (e_tup (ds := [.int 0, .int 1]) (a_cons e_int (a_cons e_int a_nil))) a_nil))) a_nil))))))) (rv_cat (by simp))) fun v16 G16 H16 S16 => ?_
  have S16 : Sta ⟨N, [b], G, H⟩ G ⟨[b], []⟩ G16 H16 _ (GR b ts n es m w (some (.d (plD (nevs ts n)))) none (some (.d (dueD (nevs ts n) w))) none (some (.d (.list (oddL ts n w)))) none none none none) := S16
  have kf : E1 N ⟨[b], []⟩ (GR b ts n es m w (some (.d (plD (nevs ts n)))) none (some (.d (dueD (nevs ts n) w))) none (some (.d (.list (oddL ts n w)))) none none none none) (tLc (iSeq N.K (tVar 9)) (gName 16) (tTest (tOp rNotBl (tCall (Spc N Rl_reset_holds) [] E0 (tCons (tVar 10) (tCons (tVar 16) tNil))) (tC (.bl false)))) (tVar 16) [16]) (.d (.list [])) := by
    refine (e_lc1 (ds := oddL ts n w) (fun x => !decide (rhB ts n x = false)) id (i_seq (tl := tVar 9) (c := .list (oddL ts n w)) (e_var rfl) (.inr rfl)).i (by simp [oddL]) (fun x hx => ?_) fun x hx _ => e_var rfl).to ?_
    · obtain ⟨o1, o2⟩ := odd_ok (by omega) hx
      exact t_test (e_notBl (e_holds mv (e_var rfl) (e_var rfl) o1 o2) e_bl)
    · have : (oddL ts n w).filter (fun x => !decide (rhB ts n x = false)) = [] := List.filter_eq_nil_iff.mpr fun x hx => by rw [rh_odd hx]; decide
      rw [this]
      rfl
  refine s_retF S16 (e_and (e_isNil kf rfl) fun _ => e_isBl (e_holds mv (e_var rfl) (e_var rfl) du1 du2) e_bl) (fun d h => h.trans ?_) k fun c hc => hc
  rw [rh_due mv nar]
  rfl
end Ag

/-! Plain: pairs kept apart, again and again, till nothing changes. -/
namespace Ag
open PySem PySem.Spec PyProof.Rows L2
def sp (t : List Nat) (p : Pr) : Pr := if t.getD p.1 0 ≤ t.getD p.2 0 then (t.getD p.1 0, t.getD p.2 0) else (t.getD p.2 0, t.getD p.1 0)
def okB (ts : List (List Nat)) (A : List Pr) (p : Pr) : Bool := ts.all fun t => decide (sp t p ∈ A)
def nxA (ts : List (List Nat)) (A : List Pr) : List Pr := A.filter (okB ts A)
structure InvA (ts : List (List Nat)) (n : Nat) (A : List Pr) : Prop where
  F : A = (prs n).filter fun p => decide (p ∈ A)
  V : ∀ p ∈ nevs ts n, p ∈ A
section
variable {ts : List (List Nat)} {n : Nat} {A : List Pr} {p : Pr}
theorem InvA.sub (h : InvA ts n A) (hp : p ∈ A) : p.1 < p.2 ∧ p.2 < n := by
  rw [h.F] at hp
  exact mem_prs.mp (List.mem_filter.mp hp).1
theorem InvA.start : InvA ts n (prs n) where
  F := (List.filter_eq_self.mpr fun p hp => decide_eq_true hp).symm
  V := fun p hp => (List.mem_filter.mp hp).1
theorem okB_at (h : okB ts A p = true) {d : Nat} (hd : d < ts.length) : sp (ts.getD d []) p ∈ A := by
  unfold okB at h
  rw [List.all_eq_true] at h
  have hm : ts.getD d [] ∈ ts := by
    rw [List.getD_eq_getElem?_getD, List.getElem?_eq_getElem hd]
    exact List.getElem_mem hd
  exact of_decide_eq_true (h _ hm)
theorem sp_cases (ts : List (List Nat)) (d : Nat) (p : Pr) : (sp (ts.getD d []) p = (step ts d p.1, step ts d p.2) ∧ step ts d p.1 ≤ step ts d p.2) ∨ (sp (ts.getD d []) p = (step ts d p.2, step ts d p.1) ∧ step ts d p.2 < step ts d p.1) := by
  unfold sp
  by_cases h : (ts.getD d []).getD p.1 0 ≤ (ts.getD d []).getD p.2 0
  · exact .inl ⟨if_pos h, h⟩
  · exact .inr ⟨if_neg h, Nat.lt_of_not_le h⟩
theorem InvA.next (mv : MV ts n) (h : InvA ts n A) : InvA ts n (nxA ts A) where
  F := by
    have e : (prs n).filter (fun p => decide (p ∈ nxA ts A)) = ((prs n).filter fun p => decide (p ∈ A)).filter (okB ts A) := by
      rw [List.filter_filter]
      refine List.filter_congr fun p hp => ?_
      rw [Bool.eq_iff_iff, decide_eq_true_iff]
      unfold nxA
      rw [List.mem_filter, Bool.and_eq_true, decide_eq_true_iff]
      exact And.comm
    rw [e, ← h.F]
    rfl
  V := fun p hp => by
    refine List.mem_filter.mpr ⟨h.V p hp, ?_⟩
    unfold okB
    rw [List.all_eq_true]
    intro t ht
    obtain ⟨d, hd⟩ := List.mem_iff_getElem?.mp ht
    have hd1 : d < ts.length := (List.getElem?_eq_some_iff.mp hd).1
    have et : ts.getD d [] = t := by
      rw [List.getD_eq_getElem?_getD, hd]
      rfl
    obtain ⟨h1, h2, h3⟩ := mem_nevs.mp hp
    have nv : ¬ Ever ts p.1 p.2 := fun z => by
      rw [everB_t.mpr z] at h3
      cases h3
    have nv2 : ¬ Ever ts (step ts d p.1) (step ts d p.2) := fun ⟨w, hw, e⟩ => nv ⟨d :: w, fun x hx => by
      rcases List.mem_cons.mp hx with rfl | hx
      · exact hd1
      · exact hw x hx, e⟩
    have b1 := (mv.at hd1 (show p.1 < n by omega)).2.2
    have b2 := (mv.at hd1 h2).2.2
    have ef : ∀ {a b : Nat}, ¬ Ever ts a b → everB ts a b = false := fun {a b} z => by
      cases q : everB ts a b with
      | false => rfl
      | true => exact absurd (everB_t.mp q) z
    refine decide_eq_true (h.V _ ?_)
    rw [← et]
    rcases sp_cases ts d p with ⟨e, hle⟩ | ⟨e, hlt⟩
    · rw [e]
      refine mem_nevs.mpr ⟨?_, b2, ef nv2⟩
      show step ts d p.1 < step ts d p.2
      have : step ts d p.1 ≠ step ts d p.2 := fun z => nv2 ⟨[], (fun x hx => by cases hx), z⟩
      omega
    · rw [e]
      exact mem_nevs.mpr ⟨hlt, b1, ef fun z => nv2 (ever_symm z)⟩
theorem InvA.never (h : InvA ts n A) (e : nxA ts A = A) : ∀ (w : List Nat), (∀ x ∈ w, x < ts.length) → ∀ p ∈ A, run ts p.1 w ≠ run ts p.2 w
  | [], _, p, hp => fun z => by
    have := (h.sub hp).1
    have z : p.1 = p.2 := z
    omega
  | d :: w, hw, p, hp => fun z => by
    have hk : okB ts A p = true := by
      rw [← e] at hp
      exact (List.mem_filter.mp hp).2
    have hm := okB_at hk (hw d (by simp))
    have ih := InvA.never h e w (fun x hx => hw x (by simp [hx])) _ hm
    have z : run ts (step ts d p.1) w = run ts (step ts d p.2) w := z
    rcases sp_cases ts d p with ⟨q, _⟩ | ⟨q, _⟩
    · rw [q] at ih
      exact ih z
    · rw [q] at ih
      exact ih z.symm
theorem InvA.fix (h : InvA ts n A) (e : nxA ts A = A) : A = nevs ts n := by
  rw [h.F]
  unfold nevs
  refine List.filter_congr fun p hp => ?_
  rw [Bool.eq_iff_iff, decide_eq_true_iff]
  constructor
  · intro hA
    cases q : everB ts p.1 p.2 with
    | false => rfl
    | true =>
      obtain ⟨w, hw, e2⟩ := everB_t.mp q
      exact absurd e2 (h.never e w hw p hA)
  · intro q
    exact h.V p (List.mem_filter.mpr ⟨hp, q⟩)
theorem nxA_less (h : nxA ts A ≠ A) : (nxA ts A).length < A.length := by
  rcases Nat.lt_or_ge (nxA ts A).length A.length with q | q
  · exact q
  · exact absurd ((List.filter_sublist (p := okB ts A) (l := A)).eq_of_length_le q) h
end
theorem prs_less {n : Nat} (h1 : 6 ≤ n) (h2 : n ≤ 8) : (prs n).length < n * n ∧ (prs n).length ≤ 64 := by
  have : n = 6 ∨ n = 7 ∨ n = 8 := by omega
  rcases this with rfl | rfl | rfl <;> decide
theorem sort_two {x y : Nat} {ns : List Int} (h : ns.Perm [(x : Int), (y : Int)]) (hp : ns.Pairwise (· ≤ ·)) : ns = if x ≤ y then [(x : Int), (y : Int)] else [(y : Int), (x : Int)] := by
  have hl := h.length_eq
  match ns, hl with
  | [a, b], _ =>
    have h1 : a ∈ [(x : Int), (y : Int)] := h.mem_iff.mp (by simp)
    have h2 : b ∈ [(x : Int), (y : Int)] := h.mem_iff.mp (by simp)
    have h3 : (x : Int) ∈ [a, b] := h.mem_iff.mpr (by simp)
    have h4 : (y : Int) ∈ [a, b] := h.mem_iff.mpr (by simp)
    simp only [List.mem_cons, List.not_mem_nil, or_false] at h1 h2 h3 h4
    have hab : a ≤ b := by
      rw [List.pairwise_cons] at hp
      exact hp.1 b (by simp)
    split
    · rw [show a = (x : Int) by omega, show b = (y : Int) by omega]
    · rw [show a = (y : Int) by omega, show b = (x : Int) by omega]
theorem plD_inj : ∀ {a b : List Pr}, a.map pD = b.map pD → a = b
  | [], [], _ => rfl
  | [], _ :: _, h => by simp at h
  | _ :: _, [], h => by simp at h
  | p :: a, q :: b, h => by
    rw [List.map_cons, List.map_cons] at h
    injection h with h1 h2
    rw [pD_inj h1, plD_inj h2]
theorem nb_pl (l : List Pr) : nb (plD l) = true := by
  unfold plD
  simp only [nb]
  induction l with
  | nil => rfl
  | cons p l ih => simp only [List.map_cons, nbA, nb_p, ih, Bool.and_self]
theorem eqv_pl (a b : List Pr) : PyData.eqv (plD a) (plD b) = decide (a = b) := by
  by_cases h : a = b
  · rw [decide_eq_true h, h]
    exact (eqv_iff _ _ (nb_pl b) (nb_pl b)).mpr rfl
  · rw [decide_eq_false h]
    cases q : PyData.eqv (plD a) (plD b) with
    | false => rfl
    | true => exact absurd (plD_inj (PyData.list.inj ((eqv_iff _ _ (nb_pl a) (nb_pl b)).mp q))) h
end Ag

/-! _law_wide_right: what its expressions give. -/
namespace Ag
open PySem PySem.Spec PyProof.Rows L2
section
variable {Γ : Cnt} {a b i : Nat}
theorem gs {o x : Option Bd} (h : Γ[i]? = some x) (ne : a ≠ i) : (Γ.set a o)[i]? = some x := by
  rw [List.getElem?_set_ne ne]
  exact h
theorem gw {o x : Option Bd} (h : Γ[i]? = some x) (ne : a ≠ i) : ((Γ.set a none).set a o)[i]? = some x := gs (gs h ne) ne
theorem gself {y : Bd} (h : a < Γ.length) : ((Γ.set a none).set a (some y))[a]? = some (some y) := List.getElem?_set_self (by rw [List.length_set]; exact h)
theorem gp1 {x : Bd} {y : Option Bd} (h : a < Γ.length) (ne : b ≠ a) : (((wipeG Γ [a, b]).set a (some x)).set b y)[a]? = some (some x) := by
  rw [List.getElem?_set_ne ne]
  exact List.getElem?_set_self (by show a < ((Γ.set b none).set a none).length; rw [List.length_set, List.length_set]; exact h)
theorem gp2 {x : Option Bd} {y : Bd} (h : b < Γ.length) : (((wipeG Γ [a, b]).set a x).set b (some y))[b]? = some (some y) := List.getElem?_set_self (by
  show b < (((Γ.set b none).set a none).set a x).length
  simp only [List.length_set]
  exact h)
theorem gp3 {x y z : Option Bd} (h : Γ[i]? = some z) (h1 : a ≠ i) (h2 : b ≠ i) : (((wipeG Γ [a, b]).set a x).set b y)[i]? = some z := by
  show ((((Γ.set b none).set a none).set a x).set b y)[i]? = _
  rw [List.getElem?_set_ne h2, List.getElem?_set_ne h1, List.getElem?_set_ne h1, List.getElem?_set_ne h2]
  exact h
end
section
variable {N : Nv} {M : Mm} {Γ : Cnt} {tl te : TE}
/-- [e for x in l], numbers of numbers -/
theorem e_lcN {a : Nat} {l : List Nat} {c : PyData} (h : E1 N M Γ tl (.d c)) (hc : c = .tuple (nsD l) ∨ c = .list (nsD l)) (hl : l.length ≤ 90000) (g : Nat → Nat) (he : ∀ x ∈ l, E1 N M ((Γ.set a none).set a (some (.d (.int (x : Nat))))) te (.d (.int (g x : Nat)))) : E1 N M Γ (tLc (iSeq N.K tl) (gName a) tYes te [a]) (.d (.list (nsD (l.map g)))) := by
  refine (e_lc1 (ds := nsD l) (fun _ => true) (fun y => .int (g (natD y) : Nat)) (i_seq h hc).i (by rw [nsD_len]; exact hl) (fun _ _ => t_yes) fun y hy _ => ?_).to ?_
  · obtain ⟨s, hs, rfl⟩ := mem_nsD hy
    rw [natD_nat]
    exact he s hs
  · rw [filter_yes]
    unfold nsD
    rw [List.map_map, List.map_map]
    rfl
/-- .. that are drawn -/
theorem ev_lcN {a n : Nat} {l : List Nat} {c : PyData} (h : E1 N M Γ tl (.d c)) (hc : c = .tuple (nsD l) ∨ c = .list (nsD l)) (hl : l.length ≤ 90000) (he : ∀ x ∈ l, Ev N M ((Γ.set a none).set a (some (.d (.int (x : Nat))))) te (fun d => ∃ i : Nat, i < n ∧ d = .d (.int (i : Nat)))) : Ev N M Γ (tLc (iSeq N.K tl) (gName a) tYes te [a]) (fun d => ∃ l' : List Nat, l'.length = l.length ∧ (∀ x ∈ l', x < n) ∧ d = .d (.list (nsD l'))) := by
  refine (ev_lc (xs := (nsD l).map Bd.d) (fun x => (Γ.set a none).set a (some x)) (fun _ => true) (fun _ y => ∃ i : Nat, i < n ∧ y = .int (i : Nat)) (i_seq h hc).i (by rw [List.length_map, nsD_len]; exact hl) (fun _ _ => g_name) (fun _ _ => t_yes) fun x hx _ => ?_).imp fun d hd => ?_
  · obtain ⟨y, hy, rfl⟩ := List.mem_map.mp hx
    obtain ⟨s, hs, rfl⟩ := mem_nsD hy
    exact (he s hs).imp fun d ⟨i, hi, e⟩ => ⟨_, e, i, hi, rfl⟩
  · obtain ⟨ys, rfl, hp⟩ := hd
    rw [filter_yes] at hp
    obtain ⟨l', h1, h2, rfl⟩ := nats_of (p := fun i => i < n) hp
    rw [List.length_map, nsD_len] at h1
    exact ⟨l', h1, h2, rfl⟩
/-- [e for i in range(lo, hi)] -/
theorem e_lcR2 {a lo hi : Nat} {ta : TA} (h : A1 N M Γ ta [.d (.int (lo : Int)), .d (.int (hi : Int))]) (hh : hi ≤ 1000) (hl : lo ≤ 1001) (g : Nat → PyData) (he : ∀ i, i < hi - lo → E1 N M ((Γ.set a none).set a (some (.d (.int ((lo + i : Nat) : Int))))) te (.d (g (lo + i)))) : E1 N M Γ (tLc (iRng2 ta) (gName a) tYes te [a]) (.d (.list ((List.range (hi - lo)).map fun i => g (lo + i)))) := by
  have hi' := (i_rg2 h (by omega) (by omega)).i
  have er : rgD (lo : Int) (hi - lo) = ((List.range (hi - lo)).map fun i => PyData.int ((lo + i : Nat) : Int)).map Bd.d := by
    unfold rgD
    rw [List.map_map]
    refine List.map_congr_left fun i _ => ?_
    show Bd.d (.int ((lo : Int) + (i : Nat))) = Bd.d (.int ((lo + i : Nat) : Int))
    rw [Int.natCast_add]
  rw [er] at hi'
  refine (e_lc1 (fun _ => true) (fun x => g (natD x)) hi' (by rw [List.length_map, List.length_range]; omega) (fun _ _ => t_yes) fun x hx _ => ?_).to ?_
  · obtain ⟨i, hi2, rfl⟩ := List.mem_map.mp hx
    rw [natD_nat]
    exact he i (List.mem_range.mp hi2)
  · rw [filter_yes, List.map_map]
    rfl
/-- tuple(sorted(set([found[deed][state] for state in lot]))) -/
theorem e_laterS {ts : List (List Nat)} {n d : Nat} {lot : List Nat} (mv : MV ts n) (hd : d < ts.length) (hl : ∀ x ∈ lot, x < n) (hz : lot.length ≤ 12) (h20 : Γ[20]? = some (some (.d (tnD lot)))) (h9 : Γ[9]? = some (some (.d (tlD ts)))) (h1 : Γ[1]? = some (some (.d (.int (d : Nat))))) (hg : Γ.length = 29) :
    E1 N M Γ (tCB (rTup N.K) (tCons (tCB (rSrt N.K N.w) (tCons (tCB (rSetI N.K N.w) (tCons (tLc (iSeq N.K (tVar 20)) (gName 23) tYes (tOp (rIx N.K) (tOp (rIx N.K) (tVar 9) (tVar 1)) (tVar 23)) [23]) tNil)) tNil)) tNil)) (.d (tnD (lotF ts n lot d))) := by
  have n12 := mv.n12
  have k1 : E1 N M Γ (tLc (iSeq N.K (tVar 20)) (gName 23) tYes (tOp (rIx N.K) (tOp (rIx N.K) (tVar 9) (tVar 1)) (tVar 23)) [23]) (.d (.list (nsD (lot.map (step ts d))))) := e_lcN (c := tnD lot) (e_var h20) (.inl rfl) (by omega) (step ts d) fun x hx => e_step mv (.inr rfl) (e_var (gw h9 (by decide))) (e_var (gw h1 (by decide))) (e_var (gself (by omega))) hd (hl x hx)
  have hi : ∀ x ∈ lot.map (step ts d), x < n := fun x hx => by
    obtain ⟨y, hy, rfl⟩ := List.mem_map.mp hx
    exact (mv.at hd (hl y hy)).2.2
  have e : nsD (lot.map (step ts d)) = (zs (lot.map (step ts d))).map .int := by
    unfold nsD
    rw [zs_int]
  refine ev_cb (PA := fun bs => bs = [.d (.list (nsD (lotF ts n lot d)))]) (ev_cons (ev_cb (PA := fun bs => ∃ out : List Int, out.Nodup ∧ (∀ k, k ∈ out ↔ k ∈ zs (lot.map (step ts d))) ∧ bs = [.st out]) (P := fun b => b = .d (.list (nsD (lotF ts n lot d)))) (ev_cons (ev_cb (P := fun d' => ∃ out : List Int, out.Nodup ∧ (∀ k, k ∈ out ↔ k ∈ zs (lot.map (step ts d))) ∧ d' = .st out) (a_cons k1 a_nil) fun bs q => ?_) a_nil fun d ds h1 h2 => ?_) fun bs q => ?_) a_nil fun d ds h1 h2 => by rw [h1, h2]) fun bs q => ?_
  · subst q
    exact rc_set (.inr (by rw [e])) (by rw [len_zs, List.length_map]; omega)
  · obtain ⟨out, a, b, rfl⟩ := h1
    exact ⟨out, a, b, by rw [h2]⟩
  · obtain ⟨out, a, b, rfl⟩ := q
    have lo : out.length < 64 := by
      rw [distinct_len hi a b]
      have := sd_le n (lot.map (step ts d))
      omega
    exact fun G H vs Q s h k => rc_srt_st lo G H vs Q s h fun z d' G' H' g ⟨ns', p1, p2, p3⟩ => k z d' G' H' g (by
      rw [p3, zs_sd p1 (fun k => (p2 k).trans (b k)) hi, zs_int]
      rfl)
  · subst q
    exact rc_tup (.inr rfl)
/-- sizes of lots with their logs -/
def frD (es : List Ent) : PyData := .list (es.map fun e => .tuple [.int (e.1.length : Nat), tnD e.2])
theorem e_frs {l : List Ent} (h15 : Γ[15]? = some (some (.d (lgD l)))) (hg : Γ.length = 29) (hl : l.length ≤ 90000) : E1 N M Γ (tLc (iSeq N.K (tVar 15)) (gTup N.K 2 (gCons (gName 20) (gCons (gName 21) gNil))) tYes (tTup (tCons (tCB (rLen N.K N.w) (tCons (tVar 20) tNil)) (tCons (tVar 21) tNil))) [20, 21]) (.d (frD l)) := by
  have hi : EvI N M Γ (iSeq N.K (tVar 15)) ((l.map fun e => (tnD e.1, tnD e.2)).map fun p => Bd.d (.tuple [p.1, p.2])) := by
    have := (i_seq (N := N) (M := M) (Γ := Γ) (tl := tVar 15) (c := lgD l) (e_var h15) (.inr rfl)).i
    rw [List.map_map] at this ⊢
    exact this
  refine (e_lc2 (a := 20) (b := 21) (fun _ => true) (fun p => .tuple [.int ((itemsD p.1).length : Nat), p.2]) hi (by rw [List.length_map]; exact hl) (fun _ _ => t_yes) (fun x hx _ => ?_)).to ?_
  · obtain ⟨e, he, rfl⟩ := List.mem_map.mp hx
    exact e_tup (ds := [.int ((itemsD (tnD e.1)).length : Nat), tnD e.2]) (a_cons (e_cb (a_cons (e_var (gp1 (by omega) (by decide))) a_nil) (rc_len (.inl rfl))) (a_cons (e_var (gp2 (by omega))) a_nil))
  · rw [filter_yes, List.map_map]
    unfold frD
    congr 2
    exact List.map_congr_left fun e _ => by
      show PyData.tuple [.int ((e.1.map fun n => PyData.int (n : Nat)).length : Nat), tnD e.2] = _
      rw [List.length_map]
theorem i_frs {es : List Ent} (h14 : Γ[14]? = some (some (.d (frD es)))) : EvI N M Γ (iSeq N.K (tVar 14)) ((es.map fun e => (PyData.int (e.1.length : Nat), tnD e.2)).map fun p => Bd.d (.tuple [p.1, p.2])) := by
  have := (i_seq (N := N) (M := M) (Γ := Γ) (tl := tVar 14) (c := frD es) (e_var h14) (.inr rfl)).i
  rw [List.map_map] at this ⊢
  exact this
theorem e_szs {es : List Ent} (h14 : Γ[14]? = some (some (.d (frD es)))) (hg : Γ.length = 29) (hl : es.length ≤ 90000) : E1 N M Γ (tLc (iSeq N.K (tVar 14)) (gTup N.K 2 (gCons (gName 25) (gCons (gName 21) gNil))) tYes (tVar 25) [25, 21]) (.d (.list ((es.map fun e => ((e.1.length : Nat) : Int)).map .int))) := by
  refine (e_lc2 (a := 25) (b := 21) (fun _ => true) (fun p => p.1) (i_frs h14) (by rw [List.length_map]; exact hl) (fun _ _ => t_yes) (fun x hx _ => e_var (gp1 (by omega) (by decide)))).to ?_
  rw [filter_yes, List.map_map, List.map_map]
  rfl
theorem e_fsts {es : List Ent} {m : Nat} (h14 : Γ[14]? = some (some (.d (frD es)))) (h16 : Γ[16]? = some (some (.d (.int (m : Nat))))) (hg : Γ.length = 29) (hl : es.length ≤ 90000) : E1 N M Γ (tLc (iSeq N.K (tVar 14)) (gTup N.K 2 (gCons (gName 25) (gCons (gName 21) gNil))) (tTest (tOp (rEqD N.K) (tVar 25) (tVar 16))) (tVar 21) [25, 21]) (.d (.list ((es.filter fun e => decide (e.1.length = m)).map fun e => tnD e.2))) := by
  refine (e_lc2 (a := 25) (b := 21) (fun p => decide (natD p.1 = m)) (fun p => p.2) (i_frs h14) (by rw [List.length_map]; exact hl) (fun x hx => ?_) (fun x hx _ => e_var (gp2 (by omega)))).to ?_
  · obtain ⟨e, he, rfl⟩ := List.mem_map.mp hx
    refine (t_test (e_eqI (a := ((e.1.length : Nat) : Int)) (b := ((m : Nat) : Int)) (e_var (gp1 (by omega) (by decide))) (e_var (gp3 h16 (by decide) (by decide))))).to ?_
    show _ = decide (natD (.int ((e.1.length : Nat) : Int)) = m)
    rw [natD_nat]
    exact decide_eq_decide.mpr ⟨fun h => by omega, fun h => by omega⟩
  · rw [List.filter_map, List.map_map]
    congr 3
/-- the ends of a pair, by each deed -/
theorem e_ends {ts : List (List Nat)} {n : Nat} {p : Pr} (mv : MV ts n) (h1 : p.1 < n) (h2 : p.2 < n) (h9 : Γ[9]? = some (some (.d (tlD ts)))) (h19 : Γ[19]? = some (some (.d (pD p)))) (hg : Γ.length = 29) :
    E1 N M Γ (tLc (iSeq N.K (tVar 9)) (gName 27) tYes (tCB (rTup N.K) (tCons (tCB (rSrt N.K N.w) (tCons (tLst (tCons (tOp (rIx N.K) (tVar 27) (tOp (rIx N.K) (tVar 19) (tC (.int 0)))) (tCons (tOp (rIx N.K) (tVar 27) (tOp (rIx N.K) (tVar 19) (tC (.int 1)))) tNil))) tNil)) tNil)) [27]) (.d (plD (ts.map fun t => sp t p))) := by
  have k8 := mv.k8
  refine (e_lc1 (ds := ts.map tnD) (fun _ => true) (fun y => pD (sp (natsD y) p)) (i_seq (c := tlD ts) (e_var h9) (.inr rfl)).i (by rw [List.length_map]; omega) (fun _ _ => t_yes) fun y hy _ => ?_).to ?_
  · obtain ⟨t, ht, rfl⟩ := List.mem_map.mp hy
    obtain ⟨l1, l2⟩ := mv.row t ht
    rw [natsD_tn]
    have at' : ∀ j, j < n → (t.map fun n => PyData.int (n : Nat))[j]? = some (.int ((t.getD j 0 : Nat) : Int)) := fun j hj => by
      rw [List.getElem?_map, List.getD_eq_getElem?_getD, List.getElem?_eq_getElem (by omega)]
      rfl
    refine ev_cb (PA := fun bs => bs = [.d (.list [.int ((sp t p).1 : Nat), .int ((sp t p).2 : Nat)])]) (ev_cons (ev_cb (P := fun b => b = .d (.list [.int ((sp t p).1 : Nat), .int ((sp t p).2 : Nat)])) (a_cons (e_lst (ds := [.int (t.getD p.1 0 : Nat), .int (t.getD p.2 0 : Nat)]) (a_cons (e_ixT (j := p.1) (e_var (gself (by omega))) (e_ixT (j := 0) (x := .int (p.1 : Nat)) (e_var (gw h19 (by decide))) e_int rfl) (at' _ h1)) (a_cons (e_ixT (j := p.2) (e_var (gself (by omega))) (e_ixT (j := 1) (x := .int (p.2 : Nat)) (e_var (gw h19 (by decide))) e_int rfl) (at' _ h2)) a_nil))) a_nil) fun bs q => ?_) a_nil fun d ds h1 h2 => by rw [h1, h2]) fun bs q => ?_
    · subst q
      exact fun G H vs Q s h k => rc_srt (ns := [((t.getD p.1 0 : Nat) : Int), ((t.getD p.2 0 : Nat) : Int)]) G H vs Q s h fun z d' G' H' g ⟨ns', p1, p2, p3⟩ => k z d' G' H' g (by
        rw [p3, sort_two p1 p2]
        unfold sp
        by_cases hle : t.getD p.1 0 ≤ t.getD p.2 0
        · rw [if_pos hle, if_pos hle]
          rfl
        · rw [if_neg hle, if_neg hle]
          rfl)
    · subst q
      exact rc_tup (.inr rfl)
  · rw [filter_yes, List.map_map]
    unfold plD
    rw [List.map_map]
    congr 2
    exact List.map_congr_left fun t _ => by
      show pD (sp (natsD (tnD t)) p) = pD (sp t p)
      rw [natsD_tn]
theorem ok_empty (A : List Pr) (p : Pr) : ∀ ts : List (List Nat), ((ts.map fun t => sp t p).filter fun q => !decide (q ∈ A)).isEmpty = okB ts A p
  | [] => rfl
  | t :: ts => by
    have ih := ok_empty A p ts
    show _ = (decide (sp t p ∈ A) && okB ts A p)
    rw [List.map_cons]
    by_cases h : sp t p ∈ A
    · rw [List.filter_cons_of_neg (by simp [h]), decide_eq_true h, Bool.true_and]
      exact ih
    · rw [List.filter_cons_of_pos (by simp [h]), decide_eq_false h, Bool.false_and]
      rfl
theorem e_keep {ts : List (List Nat)} {n : Nat} {A : List Pr} {p : Pr} (mv : MV ts n) (h1 : p.1 < n) (h2 : p.2 < n) (hA : ∀ q ∈ A, q.1 < 4096 ∧ q.2 < 4096) (h22 : Γ[22]? = some (some (.d (plD (ts.map fun t => sp t p))))) (h5 : Γ[5]? = some (some (.d (plD A)))) (hg : Γ.length = 29) :
    E1 N M Γ (tOp (rEqD N.K) (tLc (iSeq N.K (tVar 22)) (gName 28) (tTest (tOp (rNotInD N.K) (tVar 28) (tVar 5))) (tVar 28) [28]) (tLst tNil)) (.d (.bool (okB ts A p))) := by
  have k8 := mv.k8
  have n12 := mv.n12
  have hs : ∀ q ∈ ts.map fun t => sp t p, q.1 < 4096 ∧ q.2 < 4096 := fun q hq => by
    obtain ⟨t, ht, rfl⟩ := List.mem_map.mp hq
    obtain ⟨l1, l2⟩ := mv.row t ht
    have at' : ∀ j, j < n → t.getD j 0 < n := fun j hj => by
      rw [List.getD_eq_getElem?_getD, List.getElem?_eq_getElem (by omega)]
      exact l2 _ (List.getElem_mem (by omega))
    have a1 := at' _ h1
    have a2 := at' _ h2
    unfold sp
    split
    · exact ⟨by show t.getD p.1 0 < 4096; omega, by show t.getD p.2 0 < 4096; omega⟩
    · exact ⟨by show t.getD p.2 0 < 4096; omega, by show t.getD p.1 0 < 4096; omega⟩
  have k1 : E1 N M Γ (tLc (iSeq N.K (tVar 22)) (gName 28) (tTest (tOp (rNotInD N.K) (tVar 28) (tVar 5))) (tVar 28) [28]) (.d (plD ((ts.map fun t => sp t p).filter fun q => !decide (q ∈ A)))) := by
    refine (e_lc1 (ds := (ts.map fun t => sp t p).map pD) (fun y => !(A.map pD).any fun z => PyData.eqv z y) id (i_seq (c := plD (ts.map fun t => sp t p)) (e_var h22) (.inr rfl)).i (by rw [List.length_map, List.length_map]; omega) (fun y hy => ?_) fun y hy _ => e_var (gself (by omega))).to ?_
    · obtain ⟨q, hq, rfl⟩ := List.mem_map.mp hy
      obtain ⟨b1, b2⟩ := hs q hq
      exact t_test (e_op (e_var (gself (by omega))) (e_var (gw h5 (by decide))) (rv_niD (shaped_p b1 b2) (shaped_pl hA)))
    · rw [List.map_id, List.filter_map]
      unfold plD
      congr 3
      exact List.filter_congr fun q _ => by
        show (!(A.map pD).any fun z => PyData.eqv z (pD q)) = _
        rw [any_p]
  refine (e_isNil k1 (shaped_pl fun q hq => hs q (List.mem_filter.mp hq).1)).to ?_
  rw [isEmpty_map, ok_empty]
end
theorem lots_small {ts : List (List Nat)} {n at' d : Nat} {es : List Ent} (mv : MV ts n) (n8 : n ≤ 8) (b : Bq ts.length (lotF ts n) (List.range n) es at' d) : es.length ≤ 256 ∧ ∀ e ∈ es, (∀ x ∈ e.1, x < n) ∧ e.1.length ≤ n ∧ (∀ x ∈ e.2, x < ts.length) ∧ e.2.length ≤ 256 := by
  obtain ⟨l1, l2⟩ := lots_few b
  have l3 : es.length ≤ 256 := by
    have n1 := mv.n1
    have : n = 1 ∨ n = 2 ∨ n = 3 ∨ n = 4 ∨ n = 5 ∨ n = 6 ∨ n = 7 ∨ n = 8 := by omega
    have h : 2 ^ n ≤ 256 := by rcases this with rfl | rfl | rfl | rfl | rfl | rfl | rfl | rfl <;> decide
    omega
  refine ⟨l3, fun e he => ⟨(l2 e he).1, (l2 e he).2, (b.R e he).2, ?_⟩⟩
  obtain ⟨i, hi⟩ := List.mem_iff_getElem?.mp he
  have := b.L i e hi
  have := (List.getElem?_eq_some_iff.mp hi).1
  omega
end Ag

/-! _law_wide_right: its second half. -/
namespace Ag
open PySem PySem.Spec PyProof.Rows L2
def Tw1 (N : Nv) (q__law_take : Sp) (q_Machine_init : Sp) (q_width : Sp) (q_width_log : Sp) (q_reset_paper : Sp) (q_reset_holds : Sp) : TS := tSeq (tFor (iRng1 (tCons (tC (.int 300)) tNil)) (gName 3) (tSeq (tAsg (tLst tNil) (gName 15))
  (tSeq (tFor (iSeq N.K (tVar 13)) (gTup N.K 2 (gCons (gName 20) (gCons (gName 21) gNil))) (tFor (iRng1 (tCons (tC (.int 2)) tNil)) (gName 1) (tSeq (tAsg (tCB (rTup N.K) (tCons (tCB (rSrt N.K N.w) (tCons (tCB (rSetI N.K N.w) (tCons (tLc (iSeq N.K (tVar 20)) (gName 23) tYes (tOp (rIx N.K) (tOp (rIx N.K) (tVar 9) (tVar 1)) (tVar 23)) [23]) tNil)) tNil)) tNil)) (gName 24))
  (tIfS (tB (tDNotIn (tVar 24) (tVar 12))) (tSeq (sDPut (tVar 12) (tVar 24) (tC (.bl true)))
  (tDrop (tBM N.K "list" rAppend (tVar 15) (tCons (tTup (tCons (tVar 24) (tCons (tOp (rCatA N.K) (tVar 21) (tTup (tCons (tVar 1) tNil))) tNil))) tNil)))) tNext))))
  (tSeq (tIfS (tTest (tOp (rEqD N.K) (tVar 15) (tLst tNil))) (tBreak) tNext)
  (tPar 13 14 (tCons (tVar 15) (tCons (tOp rCat (tVar 14) (tLc (iSeq N.K (tVar 15)) (gTup N.K 2 (gCons (gName 20) (gCons (gName 21) gNil))) tYes (tTup (tCons (tCB (rLen N.K N.w) (tCons (tVar 20) tNil)) (tCons (tVar 21) tNil))) [20, 21])) tNil)))))))
  (tSeq (tAsg (tTup (tCons (tCB (rMn N.K) (tCons (tLc (iSeq N.K (tVar 14)) (gTup N.K 2 (gCons (gName 25) (gCons (gName 21) gNil))) tYes (tVar 25) [25, 21]) tNil)) (tCons (tMake N.C q_Machine_init [] E0 (tCons (tVar 9) tNil)) tNil))) (gTup N.K 2 (gCons (gName 16) (gCons (gName 17) gNil))))
  (tSeq (tAsg (tOp (rIx N.K) (tLc (iSeq N.K (tVar 14)) (gTup N.K 2 (gCons (gName 25) (gCons (gName 21) gNil))) (tTest (tOp (rEqD N.K) (tVar 25) (tVar 16))) (tVar 21) [25, 21]) (tC (.int 0))) (gName 4))
  (tSeq (tIfS (tTest (tOp rNe (tCB (rRepr N.K) (tCons (tLst (tCons (tCall q_width [] E0 (tCons (tVar 17) tNil)) (tCons (tCall q_width_log [] E0 (tCons (tVar 17) tNil)) tNil))) tNil)) (tCB (rRepr N.K) (tCons (tLst (tCons (tVar 16) (tCons (tVar 4) tNil))) tNil)))) (tRet (tC (.bl false))) tNext)
  (tSeq (tAsg (tLst tNil) (gName 5))
  (tSeq (tFor (iRng1 (tCons (tVar 8) tNil)) (gName 6) (tAsg (tOp rCat (tVar 5) (tLc (iRng2 (tCons (tOp (rI0 fun i j => .int (i + j)) (tVar 6) (tC (.int 1))) (tCons (tVar 8) tNil))) (gName 26) tYes (tTup (tCons (tVar 6) (tCons (tVar 26) tNil))) [26])) (gName 5)))
  (tSeq (tFor (iRng1 (tCons (tOp (rI CMul fun i j => .int (i * j)) (tVar 8) (tVar 8)) tNil)) (gName 3) (tSeq (tAsg (tLst tNil) (gName 18))
  (tSeq (tFor (iSeq N.K (tVar 5)) (gName 19) (tSeq (tAsg (tLc (iSeq N.K (tVar 9)) (gName 27) tYes (tCB (rTup N.K) (tCons (tCB (rSrt N.K N.w) (tCons (tLst (tCons (tOp (rIx N.K) (tVar 27) (tOp (rIx N.K) (tVar 19) (tC (.int 0)))) (tCons (tOp (rIx N.K) (tVar 27) (tOp (rIx N.K) (tVar 19) (tC (.int 1)))) tNil))) tNil)) tNil)) [27]) (gName 22))
  (tAsg (tOp rCat (tVar 18) (tIf (tTest (tOp (rEqD N.K) (tLc (iSeq N.K (tVar 22)) (gName 28) (tTest (tOp (rNotInD N.K) (tVar 28) (tVar 5))) (tVar 28) [28]) (tLst tNil))) (tLst (tCons (tVar 19) tNil)) (tLst tNil))) (gName 18))))
  (tSeq (tIfS (tTest (tOp (rEqD N.K) (tVar 18) (tVar 5))) (tBreak) tNext)
  (tAsg (tVar 18) (gName 5))))))
  (tSeq (tAsg (tIf (tTest (tOp (rEqD N.K) (tVar 16) (tC (.int 1)))) (tTup (tCons (tC (.str "reset")) (tCons (tVar 4) tNil))) (tTup (tCons (tC (.str "pair")) (tCons (tOp (rIx N.K) (tVar 5) (tC (.int 0))) tNil)))) (gName 7))
  (tRet (tAndV (tOp rEq (tCB (rRepr N.K) (tCons (tCall q_reset_paper [] E0 (tCons (tVar 17) tNil)) tNil)) (tCB (rRepr N.K) (tCons (tVar 7) tNil))) (tAndV (tOp rIsBl (tCall q_reset_holds [] E0 (tCons (tVar 17) (tCons (tVar 7) tNil))) (tC (.bl true))) (tOp (rEqD N.K) (tOp (rEqD N.K) (tVar 16) (tC (.int 1))) (tOp (rEqD N.K) (tVar 5) (tLst tNil)))))))))))))
def Tw2 (N : Nv) (q__law_take : Sp) (q_Machine_init : Sp) (q_width : Sp) (q_width_log : Sp) (q_reset_paper : Sp) (q_reset_holds : Sp) : TS := tSeq (tAsg (tTup (tCons (tCB (rMn N.K) (tCons (tLc (iSeq N.K (tVar 14)) (gTup N.K 2 (gCons (gName 25) (gCons (gName 21) gNil))) tYes (tVar 25) [25, 21]) tNil)) (tCons (tMake N.C q_Machine_init [] E0 (tCons (tVar 9) tNil)) tNil))) (gTup N.K 2 (gCons (gName 16) (gCons (gName 17) gNil))))
  (tSeq (tAsg (tOp (rIx N.K) (tLc (iSeq N.K (tVar 14)) (gTup N.K 2 (gCons (gName 25) (gCons (gName 21) gNil))) (tTest (tOp (rEqD N.K) (tVar 25) (tVar 16))) (tVar 21) [25, 21]) (tC (.int 0))) (gName 4))
  (tSeq (tIfS (tTest (tOp rNe (tCB (rRepr N.K) (tCons (tLst (tCons (tCall q_width [] E0 (tCons (tVar 17) tNil)) (tCons (tCall q_width_log [] E0 (tCons (tVar 17) tNil)) tNil))) tNil)) (tCB (rRepr N.K) (tCons (tLst (tCons (tVar 16) (tCons (tVar 4) tNil))) tNil)))) (tRet (tC (.bl false))) tNext)
  (tSeq (tAsg (tLst tNil) (gName 5))
  (tSeq (tFor (iRng1 (tCons (tVar 8) tNil)) (gName 6) (tAsg (tOp rCat (tVar 5) (tLc (iRng2 (tCons (tOp (rI0 fun i j => .int (i + j)) (tVar 6) (tC (.int 1))) (tCons (tVar 8) tNil))) (gName 26) tYes (tTup (tCons (tVar 6) (tCons (tVar 26) tNil))) [26])) (gName 5)))
  (tSeq (tFor (iRng1 (tCons (tOp (rI CMul fun i j => .int (i * j)) (tVar 8) (tVar 8)) tNil)) (gName 3) (tSeq (tAsg (tLst tNil) (gName 18))
  (tSeq (tFor (iSeq N.K (tVar 5)) (gName 19) (tSeq (tAsg (tLc (iSeq N.K (tVar 9)) (gName 27) tYes (tCB (rTup N.K) (tCons (tCB (rSrt N.K N.w) (tCons (tLst (tCons (tOp (rIx N.K) (tVar 27) (tOp (rIx N.K) (tVar 19) (tC (.int 0)))) (tCons (tOp (rIx N.K) (tVar 27) (tOp (rIx N.K) (tVar 19) (tC (.int 1)))) tNil))) tNil)) tNil)) [27]) (gName 22))
  (tAsg (tOp rCat (tVar 18) (tIf (tTest (tOp (rEqD N.K) (tLc (iSeq N.K (tVar 22)) (gName 28) (tTest (tOp (rNotInD N.K) (tVar 28) (tVar 5))) (tVar 28) [28]) (tLst tNil))) (tLst (tCons (tVar 19) tNil)) (tLst tNil))) (gName 18))))
  (tSeq (tIfS (tTest (tOp (rEqD N.K) (tVar 18) (tVar 5))) (tBreak) tNext)
  (tAsg (tVar 18) (gName 5))))))
  (tSeq (tAsg (tIf (tTest (tOp (rEqD N.K) (tVar 16) (tC (.int 1)))) (tTup (tCons (tC (.str "reset")) (tCons (tVar 4) tNil))) (tTup (tCons (tC (.str "pair")) (tCons (tOp (rIx N.K) (tVar 5) (tC (.int 0))) tNil)))) (gName 7))
  (tRet (tAndV (tOp rEq (tCB (rRepr N.K) (tCons (tCall q_reset_paper [] E0 (tCons (tVar 17) tNil)) tNil)) (tCB (rRepr N.K) (tCons (tVar 7) tNil))) (tAndV (tOp rIsBl (tCall q_reset_holds [] E0 (tCons (tVar 17) (tCons (tVar 7) tNil))) (tC (.bl true))) (tOp (rEqD N.K) (tOp (rEqD N.K) (tVar 16) (tC (.int 1))) (tOp (rEqD N.K) (tVar 5) (tLst tNil))))))))))))
def Tw3 (N : Nv) (q__law_take : Sp) (q_Machine_init : Sp) (q_width : Sp) (q_width_log : Sp) (q_reset_paper : Sp) (q_reset_holds : Sp) : TS := tSeq (tAsg (tIf (tTest (tOp (rEqD N.K) (tVar 16) (tC (.int 1)))) (tTup (tCons (tC (.str "reset")) (tCons (tVar 4) tNil))) (tTup (tCons (tC (.str "pair")) (tCons (tOp (rIx N.K) (tVar 5) (tC (.int 0))) tNil)))) (gName 7))
  (tRet (tAndV (tOp rEq (tCB (rRepr N.K) (tCons (tCall q_reset_paper [] E0 (tCons (tVar 17) tNil)) tNil)) (tCB (rRepr N.K) (tCons (tVar 7) tNil))) (tAndV (tOp rIsBl (tCall q_reset_holds [] E0 (tCons (tVar 17) (tCons (tVar 7) tNil))) (tC (.bl true))) (tOp (rEqD N.K) (tOp (rEqD N.K) (tVar 16) (tC (.int 1))) (tOp (rEqD N.K) (tVar 5) (tLst tNil))))))
/-- what is known of the names, from the least lot on -/
abbrev GW (b : Addr) (ts : List (List Nat)) (n m : Nat) (w : List Nat) (A : List Pr) (o : Option Bd) : Cnt :=
  [some (.v (.ref b)), none, none, none, some (.d (tnD w)), some (.d (plD A)), none, none, some (.d (.int (n : Nat))), some (.d (tlD ts)), none, none, none, none, none, none, some (.d (.int (m : Nat))), some (.m ts), o, none, none, none, none, none, none, none, none, none, none]
theorem wr3 {N : Nv} {b : Addr} {ts : List (List Nat)} {n m : Nat} {w : List Nat} {L G H G0 H0 : Hp} {σ : L2.St} {D : Ends} (mv : MV ts n) (nar : Nar ts n m w) (hw : w.length ≤ 256) (S : Sta ⟨N, [b], G0, H0⟩ L ⟨[b], []⟩ G H σ (GW b ts n m w (nevs ts n) none)) (k : Ret ⟨N, [b], G0, H0⟩ (fun d => d = .d (.bool true)) D.rt) :
    Tw3 N (Spc N Rl__law_take) (SpI N Rl_init) (Spc N Rl_width) (Spc N Rl_width_log) (Spc N Rl_reset_paper) (Spc N Rl_reset_holds) D σ H := by
  have n12 := mv.n12
  have k8 := mv.k8
  have hw4 : ∀ x ∈ w, x < 4096 := fun x hx => by
    have := nar.ok x hx
    omega
  have hpl := nevs_small (ts := ts) n12
  have hone : m = 1 ↔ nevs ts n = [] := least_one mv nar
  obtain ⟨du1, du2⟩ := due_facts (nevs ts n) (w := w) (by omega)
  have gdu := gd_due (l := nevs ts n) (w := w) hpl hw4
  unfold Tw3
  refine q_set (b := .d (dueD (nevs ts n) w)) S (e_if (c := decide ((m : Int) = 1)) (t_test (e_eqI (e_var rfl) e_int)) (fun h => ?_) (fun h => ?_)) fun v1 G1 H1 S1 => ?_
  · have hn := hone.mp (by have := of_decide_eq_true h; omega)
    exact (e_tup (ds := [.str "reset", tnD w]) (a_cons e_str (a_cons (e_var rfl) a_nil))).to (by rw [hn]; rfl)
  · have hn : nevs ts n ≠ [] := fun z => by
      have := of_decide_eq_false h
      have := hone.mpr z
      omega
    cases q : nevs ts n with
    | nil => exact absurd q hn
    | cons p l =>
      rw [q] at S
      exact (e_tup (ds := [.str "pair", pD p]) (a_cons e_str (a_cons (e_ixL (ds := (p :: l).map pD) (j := 0) (e_var rfl) e_int rfl) a_nil))).to rfl
  have t3 := e_eqB (N := N) (M := ⟨[b], []⟩) (Γ := (GW b ts n m w (nevs ts n) none).set 7 (some (.d (dueD (nevs ts n) w)))) (ta := tOp (rEqD N.K) (tVar 16) (tC (.int 1))) (tb := tOp (rEqD N.K) (tVar 5) (tLst tNil)) (e_eqI (a := (m : Int)) (b := 1) (e_var rfl) e_int) (e_isNil (xs := (nevs ts n).map pD) (e_var rfl) (shaped_pl hpl))
  refine s_retF S1 (e_and (e_reprEq (e_paper mv nar (e_var rfl)) (e_var rfl) gdu (by rw [dep_due]; decide) (Nat.le_trans (nn_due _ _) (by omega))) fun _ => e_and (e_isBl (e_holds mv (e_var rfl) (e_var rfl) du1 du2) e_bl) fun _ => t3) (fun d h => h.trans ?_) k fun c hc => hc
  rw [rh_due mv nar, isEmpty_map]
  have e : decide (decide ((m : Int) = 1) = (nevs ts n).isEmpty) = true := by
    refine decide_eq_true ?_
    cases q : nevs ts n with
    | nil =>
      have := hone.mpr q
      subst this
      rfl
    | cons p l =>
      have : ¬ m = 1 := fun z => by
        have := hone.mp z
        rw [q] at this
        cases this
      exact decide_eq_false (by omega)
  rw [e]
  rfl
theorem pre_len {n : Nat} (hn : n ≤ 12) : ∀ a, ((List.range a).flatMap (prow n)).length ≤ 12 * a
  | 0 => Nat.le_refl _
  | a + 1 => by
    have ih := pre_len hn a
    rw [List.range_succ, List.flatMap_append, List.length_append]
    show _ + (prow n a ++ []).length ≤ _
    rw [List.append_nil]
    unfold prow at ih ⊢
    rw [List.length_map, List.length_range]
    omega
theorem pre_next (n a : Nat) : (List.range (a + 1)).flatMap (prow n) = (List.range a).flatMap (prow n) ++ prow n a := by
  rw [List.range_succ, List.flatMap_append]
  show _ ++ (prow n a ++ []) = _
  rw [List.append_nil]
theorem wr2 {N : Nv} {b : Addr} {ts : List (List Nat)} {n : Nat} {es : List Ent} {L G H G0 H0 : Hp} {σ : L2.St} {D : Ends} (mv : MV ts n) (n6 : 6 ≤ n) (n8 : n ≤ 8) (bf : Bfs ts.length (lotF ts n) (List.range n) es) (hl : es.length ≤ 256) (hne : es ≠ []) (he2 : ∀ e ∈ es, e.2.length ≤ 256)
    (S : Sta ⟨N, [b], G0, H0⟩ L ⟨[b], []⟩ G H σ [some (.v (.ref b)), none, none, none, none, none, none, none, some (.d (.int (n : Nat))), some (.d (tlD ts)), none, none, none, none, some (.d (frD es)), none, none, none, none, none, none, none, none, none, none, none, none, none, none]) (k : Ret ⟨N, [b], G0, H0⟩ (fun d => d = .d (.bool true)) D.rt) :
    Tw2 N (Spc N Rl__law_take) (SpI N Rl_init) (Spc N Rl_width) (Spc N Rl_width_log) (Spc N Rl_reset_paper) (Spc N Rl_reset_holds) D σ H := by
  have n12 := mv.n12
  have k8 := mv.k8
  unfold Tw2
  refine q_tup2 (i := 16) (j := 17) (P := fun x y => ∃ m : Nat, (∃ e ∈ es, e.1.length = m) ∧ (∀ e ∈ es, m ≤ e.1.length) ∧ x = .d (.int (m : Nat)) ∧ y = .m ts) S (ev_cons (PB := fun bs => ∃ x y, bs = [x, y] ∧ ∃ m : Nat, (∃ e ∈ es, e.1.length = m) ∧ (∀ e ∈ es, m ≤ e.1.length) ∧ x = .d (.int (m : Nat)) ∧ y = .m ts) (P := fun d => ∃ m : Nat, (∃ e ∈ es, e.1.length = m) ∧ (∀ e ∈ es, m ≤ e.1.length) ∧ d = .d (.int (m : Nat))) ((ev_cb (a_cons (e_szs (es := es) rfl rfl (by omega)) a_nil) fun bs e => by
    subst e
    exact rc_mn (by
      rw [List.length_map]
      exact List.length_pos_iff.mpr hne)).imp fun d h => ?_) (a_cons (e_make (Rl := Rl_init) (a_cons (e_var rfl) a_nil) ⟨n, rfl, mv⟩) a_nil) fun d ds h1 h2 => ?_) fun u v x y G1 H1 pd S1 => ?_
  · obtain ⟨m, hm, hle, rfl⟩ := h
    obtain ⟨e, he, rfl⟩ := List.mem_map.mp hm
    exact ⟨e.1.length, ⟨e, he, rfl⟩, fun e' he' => by have := hle _ (List.mem_map.mpr ⟨e', he', rfl⟩); omega, rfl⟩
  · obtain ⟨m, h3, h4, rfl⟩ := h1
    exact ⟨_, _, by rw [h2], m, h3, h4, rfl, rfl⟩
  obtain ⟨m, ⟨e1, he1, hem⟩, hle, rfl, rfl⟩ := pd
  obtain ⟨e, hh⟩ : ∃ e, (es.filter fun e => decide (e.1.length = m)).head? = some e := by
    have hm : e1 ∈ es.filter fun e => decide (e.1.length = m) := List.mem_filter.mpr ⟨he1, decide_eq_true hem⟩
    cases q : es.filter fun e => decide (e.1.length = m) with
    | nil =>
      rw [q] at hm
      cases hm
    | cons a l => exact ⟨a, rfl⟩
  have hee : e ∈ es := (List.mem_filter.mp (List.mem_of_head? hh)).1
  have nar : Nar ts n m e.2 := nar_of bf hle hh
  have hwl := he2 e hee
  have hw4 : ∀ x ∈ e.2, x < 4096 := fun x hx => by
    have := nar.ok x hx
    omega
  have hmn : m ≤ 8 := by
    have h1 := (bf.R e1 he1).1
    obtain ⟨p, hp⟩ := lot_filter (ts := ts) (n := n) e1.2
    rw [hp] at h1
    have := List.length_filter_le p (List.range n)
    rw [List.length_range] at this
    rw [h1] at hem
    omega
  refine q_set (b := .d (tnD e.2)) S1 (e_ixL (j := 0) (e_fsts (es := es) (m := m) rfl rfl rfl (by omega)) e_int (by rw [List.getElem?_map, ← List.head?_eq_getElem?, hh]; rfl)) fun v2 G2 H2 S2 => ?_
  refine q_skip S2 (t_test (e_reprNe (x := .list [.int (m : Nat), tnD e.2]) (e_lst (ds := [.int (m : Nat), tnD e.2]) (a_cons (e_width mv nar (e_var rfl)) (a_cons (e_wlog mv nar (e_var rfl)) a_nil))) (e_lst (ds := [.int (m : Nat), tnD e.2]) (a_cons (e_var rfl) (a_cons (e_var rfl) a_nil))) ?_ ?_ ?_)) fun G3 H3 S3 => ?_
  · show (gd (.int (m : Nat)) && (gd (tnD e.2) && true)) = true
    rw [gd_nat (by omega), gd_tn hw4]
    rfl
  · simp only [PyData.depth, PyData.depthAll, dep_tn]
    decide
  · simp only [nn, nnA]
    have := nn_tn e.2
    omega
  refine q_set (b := .d (plD [])) (S3.forget 14) (e_lst (ds := []) a_nil) fun v4 G4 H4 S4 => ?_
  refine q_forN (j := 6) S4 (i_rg1 (n := n) (a_cons (e_var rfl) a_nil) (by omega)) (fun i M' Γ' => M' = ⟨[b], []⟩ ∧ Γ' = GW b ts n m e.2 ((List.range i).flatMap (prow n)) none) ⟨rfl, rfl⟩ (fun a x M' Γ' L' G' H' σ' hx pv _ S' => ?_) (fun M' Γ' G' H' σ' pv S' => ?_)
  · obtain ⟨rfl, rfl⟩ := pv
    obtain ⟨ha, rfl⟩ := rgD_get hx
    have ea : (0 : Int) + (a : Nat) = (a : Nat) := by omega
    rw [ea] at S'
    have pl := pre_len n12 a
    refine s_set (b := .d (plD ((List.range (a + 1)).flatMap (prow n)))) S' ((e_op (e_var rfl) (e_lcR2 (lo := a + 1) (hi := n) (a_cons ((e_op (e_var rfl) e_int rv_I0).to (by show Bd.d (.int ((a : Int) + 1)) = _; rw [show ((a : Int) + 1) = ((a + 1 : Nat) : Int) by omega])) (a_cons (e_var rfl) a_nil)) (by omega) (by omega) (fun j => pD (a, j)) fun i hi => e_tup (ds := [.int (a : Nat), .int ((a + 1 + i : Nat) : Int)]) (a_cons (e_var rfl) (a_cons (e_var rfl) a_nil))) (rv_cat ?_)).to ?_) fun v5 G5 H5 S5 => ⟨_, G5, _, ⟨rfl, rfl⟩, S5.forget 6⟩
    · rw [List.length_map, List.length_map, List.length_range]
      omega
    · rw [pre_next]
      unfold plD
      rw [List.map_append]
      congr 3
      unfold prow
      rw [List.map_map]
      rfl
  obtain ⟨rfl, rfl⟩ := pv
  rw [rgD_len] at S'
  have S6 : Sta ⟨N, [b], G0, H0⟩ L ⟨[b], []⟩ G' H' σ' (GW b ts n m e.2 (prs n) none) := S'
  obtain ⟨pr1, pr2⟩ := prs_less n6 n8
  have hnn : n * n ≤ 64 := Nat.mul_le_mul n8 n8
  refine q_forN (j := 3) S6 (i_rg1 (n := n * n) (a_cons ((e_op (e_var rfl) (e_var rfl) (rv_I (cmul_l ⟨by omega, by omega⟩))).to (by show Bd.d (.int ((n : Int) * (n : Int))) = _; rw [Int.natCast_mul])) a_nil) (by omega)) (fun t M' Γ' => M' = ⟨[b], []⟩ ∧ ∃ A, InvA ts n A ∧ A.length + t ≤ (prs n).length ∧ Γ' = GW b ts n m e.2 A none) ⟨rfl, prs n, InvA.start, by omega, rfl⟩ (fun t x M' Γ' L' G' H' σ' hx pv _ S' => ?_) (fun M' Γ' G' H' σ' pv S' => ?_)
  · obtain ⟨rfl, A, inv, hA, rfl⟩ := pv
    have S' := S'.forget 3
    have hs : ∀ q ∈ A, q.1 < 4096 ∧ q.2 < 4096 := fun q hq => by
      obtain ⟨h1, h2⟩ := inv.sub hq
      exact ⟨by omega, by omega⟩
    refine q_set (b := .d (plD [])) S' (e_lst (ds := []) a_nil) fun v7 G7 H7 S7 => ?_
    refine q_forN (j := 19) S7 (i_seq (c := plD A) (ds := A.map pD) (e_var rfl) (.inr rfl)) (fun i M' Γ' => M' = ⟨[b], []⟩ ∧ Γ' = GW b ts n m e.2 A (some (.d (plD ((A.take i).filter (okB ts A)))))) ⟨rfl, rfl⟩ (fun i x M' Γ' L2 G' H' σ' hx pv _ S' => ?_) (fun M' Γ' G' H' σ' pv S' => ?_)
    · obtain ⟨rfl, rfl⟩ := pv
      obtain ⟨d, hd, rfl⟩ := get_map_d hx
      rw [List.getElem?_map] at hd
      cases hp : A[i]? with
      | none =>
        rw [hp] at hd
        cases hd
      | some p =>
        rw [hp] at hd
        have hd := (Option.some.inj hd).symm
        subst hd
        have hpm := List.mem_of_getElem? hp
        obtain ⟨p1, p2⟩ := inv.sub hpm
        refine q_set (b := .d (plD (ts.map fun t => sp t p))) S' (e_ends (p := p) mv (by omega) p2 rfl rfl rfl) fun v8 G8 H8 S8 => ?_
        have lt : ((A.take i).filter (okB ts A)).length ≤ 64 := by
          have h1 := List.length_filter_le (okB ts A) (A.take i)
          rw [List.length_take] at h1
          omega
        refine s_set (b := .d (plD ((A.take (i + 1)).filter (okB ts A)))) S8 ((e_op (y := .d (plD (if okB ts A p = true then [p] else []))) (e_var rfl) (e_if (c := okB ts A p) (t_test (e_keep (A := A) (p := p) mv (by omega) p2 hs rfl rfl rfl)) (fun h => (e_lst (ds := [pD p]) (a_cons (e_var rfl) a_nil)).to (by rw [if_pos h]; rfl)) (fun h => (e_lst (ds := []) a_nil).to (by rw [if_neg (by rw [h]; decide)]; rfl))) (rv_cat ?_)).to ?_) fun v9 G9 H9 S9 => ⟨_, G9, _, ⟨rfl, rfl⟩, (S9.forget 19).forget 22⟩
        · rw [List.length_map, List.length_map]
          split
          · simp only [List.length_cons, List.length_nil]
            omega
          · simp only [List.length_nil]
            omega
        · rw [filter_take (okB ts A) hp]
          unfold plD
          rw [List.map_append]
    · obtain ⟨rfl, rfl⟩ := pv
      rw [List.length_map, List.length_map, List.take_length] at S'
      have S8 : Sta ⟨N, [b], G0, H0⟩ L' ⟨[b], []⟩ G' H' σ' (GW b ts n m e.2 A (some (.d (plD (nxA ts A))))) := S'
      have hs2 : ∀ q ∈ nxA ts A, q.1 < 4096 ∧ q.2 < 4096 := fun q hq => hs q (List.mem_filter.mp hq).1
      refine q_if (c := decide (nxA ts A = A)) S8 (t_test ((e_op (e_var rfl) (e_var rfl) (rv_eqD (shaped_pl hs2) (shaped_pl hs))).to (by rw [eqv_pl]))) (fun h G9 H9 S9 => ?_) (fun h G9 H9 S9 => ?_)
      · have eA := inv.fix (of_decide_eq_true h)
        have S10 : Sta ⟨N, [b], G0, H0⟩ L' ⟨[b], []⟩ G9 H9 σ' (GW b ts n m e.2 A none) := S9.forget 18
        rw [eA] at S10
        exact wr3 mv nar hwl S10 k
      · have hlt := nxA_less (of_decide_eq_false h)
        exact s_set (b := .d (plD (nxA ts A))) S9 (e_var rfl) fun v10 G10 H10 S10 => ⟨_, G10, _, ⟨rfl, nxA ts A, inv.next mv, by omega, rfl⟩, S10.forget 18⟩
  · obtain ⟨rfl, A, inv, hA, rfl⟩ := pv
    rw [rgD_len] at hA
    omega
end Ag

/-! _law_wide_right: its first half, the whole. -/
namespace Ag
open PySem PySem.Spec PyProof.Rows L2
/-- what is known of the names while lots are met -/
abbrev GB (b pk : Addr) (ts : List (List Nat)) (n : Nat) (es : List Ent) (at' : Nat) (o : Option Bd) : Cnt :=
  [some (.v (.ref b)), none, some (.d (tnD (List.range n))), none, none, none, none, none, some (.d (.int (n : Nat))), some (.d (tlD ts)), none, none, some (.v (.ref pk)), some (.d (lgD (es.drop at'))), some (.d (frD es)), o, none, none, none, none, none, none, none, none, none, none, none, none, none]
theorem wr1 {N : Nv} {b pk : Addr} {ts : List (List Nat)} {n : Nat} {L G H G0 H0 : Hp} {σ : L2.St} {D : Ends} (mv : MV ts n) (t2 : ts.length = 2) (n6 : 6 ≤ n) (n8 : n ≤ 8)
    (S : Sta ⟨N, [b], G0, H0⟩ L ⟨[b], [(pk, .dt (knD [(List.range n, [])]))]⟩ G H σ (GB b pk ts n [(List.range n, [])] 0 none)) (k : Ret ⟨N, [b], G0, H0⟩ (fun d => d = .d (.bool true)) D.rt) :
    Tw1 N (Spc N Rl__law_take) (SpI N Rl_init) (Spc N Rl_width) (Spc N Rl_width_log) (Spc N Rl_reset_paper) (Spc N Rl_reset_holds) D σ H := by
  have k8 := mv.k8
  unfold Tw1
  refine q_forN (j := 3) S (i_rg1 (n := 300) (a_cons e_int a_nil) (by decide)) (fun t M' Γ' => ∃ es at', Bq ts.length (lotF ts n) (List.range n) es at' 0 ∧ at' < es.length ∧ t + 1 ≤ es.length ∧ M' = ⟨[b], [(pk, .dt (knD es))]⟩ ∧ Γ' = GB b pk ts n es at' none) ⟨[(List.range n, [])], 0, Bq.start, by simp, by simp, rfl, rfl⟩ (fun t x M' Γ' L' G' H' σ' hx pv _ S' => ?_) (fun M' Γ' G' H' σ' pv S' => ?_)
  · obtain ⟨es, at', bq, hat, ht, rfl, rfl⟩ := pv
    have S' := S'.forget 3
    refine q_nil S' fun pl G3 H3 S3 => ?_
    refine q_for2 (a := 20) (b := 21) S3 (i_seq (ds := (es.drop at').map entD) (e_var rfl) (.inr rfl)) (fun x hx => ?_) (fun j M' => ∃ es' l, Bq ts.length (lotF ts n) (List.range n) es' (at' + j) 0 ∧ es' = es ++ l ∧ M' = ⟨[b], [(pl, .lst (l.map entD)), (pk, .dt (knD es'))]⟩) ⟨es, [], bq, by simp, rfl⟩ (fun j p q M' L2 G' H' σ' hx pv S' => ?_) (fun M' G' H' σ' pv S' => ?_)
    · obtain ⟨i, hi⟩ := List.mem_iff_getElem?.mp hx
      obtain ⟨e, _, rfl⟩ := lg_get hi
      exact ⟨_, _, rfl⟩
    · obtain ⟨es', l, bq', hes, rfl⟩ := pv
      obtain ⟨⟨x, w⟩, hxw, e⟩ := lg_get hx
      cases e
      rw [List.getElem?_drop] at hxw
      have hxl : at' + j < es.length := (List.getElem?_eq_some_iff.mp hxw).1
      have hxw' : es'[at' + j]? = some (x, w) := by
        rw [hes, List.getElem?_append_left hxl]
        exact hxw
      obtain ⟨_, c2⟩ := lots_small mv n8 bq'
      obtain ⟨x1, x2, x3, x4⟩ := c2 _ (List.mem_of_getElem? hxw')
      simp only at x1 x2 x3 x4
      refine s_for1 (a := 1) S' (i_rg1 (n := ts.length) (a_cons (e_int.to (congrArg (fun k : Nat => Bd.d (.int (k : Int))) t2.symm)) a_nil) (by omega)) (fun d M' => ∃ es' l, Bq ts.length (lotF ts n) (List.range n) es' (at' + j) d ∧ es' = es ++ l ∧ M' = ⟨[b], [(pl, .lst (l.map entD)), (pk, .dt (knD es'))]⟩) ⟨es', l, bq', hes, rfl⟩ (fun d y M' L3 G' H' σ' hd pv S' => ?_) (fun M' G' H' σ' pv S' => ?_)
      · obtain ⟨es', l, bq', hes, rfl⟩ := pv
        obtain ⟨hdl, rfl⟩ := rgD_get hd
        have e1 : (0 : Int) + (d : Nat) = (d : Nat) := by omega
        rw [e1] at S'
        have hxw' : es'[at' + j]? = some (x, w) := by
          rw [hes, List.getElem?_append_left hxl]
          exact hxw
        obtain ⟨c1, c2⟩ := lots_small mv n8 bq'
        have ll : l.length ≤ 256 := by
          have := congrArg List.length hes
          rw [List.length_append] at this
          omega
        refine q_set (b := .d (tnD (lotF ts n x d))) S' (e_laterS mv hdl x1 (by omega) rfl rfl rfl rfl) fun v5 G5 H5 S5 => ?_
        by_cases hin : lotF ts n x d ∈ es'.map (·.1)
        · have hf : (lkE (knD es') (zs (lotF ts n x d))).isNone = false := by
            cases hh : (lkE (knD es') (zs (lotF ts n x d))).isNone with
            | false => rfl
            | true => exact absurd hin (knD_none.mp hh)
          refine s_if (c := false) S5 ((t_B (e_dnin (j := 1) (es := knD es') (ns := zs (lotF ts n x d)) rfl (e_var rfl) (Ev.to (b := .d (tnD (lotF ts n x d))) (e_var rfl) (by rw [tnD_zs])))).to hf) (fun h => nomatch h) fun _ G9 H9 S9 => ?_
          exact ⟨_, G9, ⟨es', l, bq'.seen hxw' hin, hes, rfl⟩, (S9.forget 1).forget 24⟩
        · have hf := knD_none.mpr hin
          have hfn : lkE (knD es') (zs (lotF ts n x d)) = none := by simpa using hf
          have bq2 := bq'.new hxw' hdl hin
          refine s_if (c := true) S5 ((t_B (e_dnin (j := 1) (es := knD es') (ns := zs (lotF ts n x d)) rfl (e_var rfl) (Ev.to (b := .d (tnD (lotF ts n x d))) (e_var rfl) (by rw [tnD_zs])))).to hf) (fun _ G9 H9 S9 => ?_) (fun h => nomatch h)
          refine q_dput (j := 1) (l := pk) (es := knD es') (ns := zs (lotF ts n x d)) S9 rfl (e_var rfl) (Ev.to (b := .d (tnD (lotF ts n x d))) (e_var rfl) (by rw [tnD_zs])) e_bl (fun d h => ⟨_, h⟩) hfn (by unfold knD; rw [List.length_map]; omega) fun y G10 H10 ey S10 => ?_
          have ey := bd_inj ey
          subst ey
          refine s_app (j := 0) (l := pl) (ds := l.map entD) S10 rfl (e_var rfl) (e_tup (ds := [tnD (lotF ts n x d), tnD (w ++ [d])]) (a_cons (e_var rfl) (a_cons ((e_op (e_var rfl) (e_tup (ds := [.int (d : Nat)]) (a_cons (e_var rfl) a_nil)) (rv_catA ?_)).to ?_) a_nil))) (fun d h => ⟨_, h⟩) (by rw [List.length_map]; omega) fun z G11 H11 ez S11 => ?_
          · rw [List.length_map]
            simp
            omega
          · unfold tnD
            rw [List.map_append]
            rfl
          · have ez := bd_inj ez
            subst ez
            refine ⟨_, G11, ⟨es' ++ [(lotF ts n x d, w ++ [d])], l ++ [(lotF ts n x d, w ++ [d])], bq2, ?_, ?_⟩, (S11.forget 1).forget 24⟩
            · rw [hes, List.append_assoc]
            · show Mm.mk _ _ = Mm.mk _ _
              congr 1
              simp only [List.set_cons_zero, List.set_cons_succ, List.map_append, knD]
              rfl
      · obtain ⟨es', l, bq', hes, rfl⟩ := pv
        rw [rgD_len] at bq'
        exact ⟨_, G', ⟨es', l, bq'.next, hes, rfl⟩, (S'.forget 20).forget 21⟩
    · obtain ⟨es', l, bq', hes, rfl⟩ := pv
      have el : (((es.drop at').map entD).map Bd.d).length = es.length - at' := by rw [List.length_map, List.length_map, List.length_drop]
      rw [el, show at' + (es.length - at') = es.length by omega] at bq'
      obtain ⟨c1, c2⟩ := lots_small mv n8 bq'
      obtain ⟨G5, S5, _, _⟩ := S'.freeze (i := 15) (j := 0) rfl rfl
      have hin : ∀ e ∈ l, (∀ x ∈ e.1, x < 4096) ∧ ∀ x ∈ e.2, x < 4096 := fun e he => by
        obtain ⟨y2, _, y3, _⟩ := c2 e (by rw [hes]; simp [he])
        exact ⟨fun x hx => by have := y2 x hx; omega, fun x hx => by have := y3 x hx; omega⟩
      cases l with
      | nil =>
        refine q_if (c := true) S5 (t_test (e_isNil (xs := []) (e_var rfl) rfl)) (fun _ G6 H6 S6 => ?_) (fun h => nomatch h)
        rw [List.append_nil] at hes
        subst hes
        have hne : es' ≠ [] := fun q => by
          have := bq'.Z
          rw [q] at this
          cases this
        have S7 := ((((S6.less (M' := ⟨[b], []⟩) (fun b hb => hb) (List.nil_sublist _)).forget 2).forget 12).forget 13).forget 15
        exact wr2 mv n6 n8 (bq'.done (Nat.le_refl _)) c1 hne (fun e he => (c2 e he).2.2.2) S7 k
      | cons a l =>
        have hl2 := congrArg List.length hes
        rw [List.length_append] at hl2
        simp only [List.length_cons] at hl2
        refine q_if (c := false) S5 (t_test (e_isNil (xs := (a :: l).map entD) (e_var rfl) (shaped_lg hin))) (fun h => nomatch h) (fun _ G6 H6 S6 => ?_)
        refine s_par (x := .d (lgD (a :: l))) (y := .d (frD es')) S6 (a_cons (e_var rfl) (a_cons ((e_op (e_var rfl) (e_frs (l := a :: l) rfl rfl (by simp only [List.length_cons]; omega)) (rv_cat ?_)).to ?_) a_nil)) fun u v G7 H7 S7 => ?_
        · rw [List.length_map, List.length_map]
          simp only [List.length_cons]
          omega
        · rw [hes]
          unfold frD
          rw [List.map_append]
        · refine ⟨_, G7, _, ⟨es', es.length, bq', by omega, by omega, rfl, ?_⟩, (S7.forget 15)⟩
          show _ = GB b pk ts n es' es.length none
          unfold GB
          rw [drop_of_append hes]
          rfl
  · obtain ⟨es, at', bq, hat, ht, rfl, rfl⟩ := pv
    rw [rgD_len] at ht
    obtain ⟨c1, _⟩ := lots_small mv n8 bq
    omega
def Rl__law_wide_right : Rlt := fun bs B P => ∃ b : Addr, bs = [.v (.ref b)] ∧ B = [b] ∧ P = fun d => d = .d (.bool true)
theorem W__law_wide_right (N : Nv) : Walk N (R__law_wide_right N (Spc N Rl__law_take) (SpI N Rl_init) (Spc N Rl_width) (Spc N Rl_width_log) (Spc N Rl_reset_paper) (Spc N Rl_reset_holds)) Rl__law_wide_right 28 := by
  rintro bs B P ⟨b, rfl, rfl, rfl⟩ G H σ D S k
  have tk : ∀ {M : Mm} {Γ : Cnt} {te : TE} {m : Nat}, b ∈ M.B → Γ[0]? = some (some (.v (.ref b))) → 0 < m → m < 1073741824 → E1 N M Γ te (.d (.int (m : Int))) → Ev N M Γ (tCall (Spc N Rl__law_take) [] E0 (tCons (tVar 0) (tCons te tNil))) (fun d => ∃ n : Nat, n < m ∧ d = .d (.int (n : Nat))) := fun hb h0 h1 h2 h3 => ev_callBx (B := [b]) (a_cons (e_var h0) (a_cons h3 a_nil)) ⟨b, _, rfl, h1, h2, rfl, rfl⟩ fun c hc => by
    rw [List.mem_singleton.mp hc]
    exact hb
  refine q_tupNil (P := fun d => ∃ n : Nat, 6 ≤ n ∧ n ≤ 8 ∧ d = .d (.int (n : Nat))) S (ev_op e_int (tk (m := 3) (by simp) rfl (by omega) (by omega) e_int) fun x y h1 h2 => ?_) (fun d ⟨n, _, _, e⟩ => ⟨_, e⟩) fun x u p G1 H1 pd S1 => ?_
  · obtain ⟨n, hn, rfl⟩ := h2
    subst h1
    exact fun G H u v Q s hu hv k => rv_I0 G H u v Q s hu hv fun z d G' H' g q => k z d G' H' g ⟨6 + n, by omega, by omega, q⟩
  obtain ⟨n, n6, n8, e⟩ := pd
  cases e
  refine q_for1 (a := 1) S1 (i_rg1 (n := 2) (a_cons e_int a_nil) (by decide)) (fun i M' => ∃ ts : List (List Nat), ts.length = i ∧ (∀ t ∈ ts, t.length = n ∧ ∀ x ∈ t, x < n) ∧ M' = ⟨[b], [(p, .lst (ts.map tnD))]⟩) ⟨[], rfl, fun t h => (by cases h), rfl⟩ (fun i x M' L' G' H' σ' hx pv S' => ?_) (fun M' G' H' σ' pv S' => ?_)
  · obtain ⟨ts, hts, hrow, rfl⟩ := pv
    obtain ⟨hi, rfl⟩ := rgD_get hx
    have ea : (0 : Int) + (i : Nat) = (i : Nat) := by omega
    rw [ea] at S'
    refine q_asg (P := fun d => ∃ n : Nat, n < 3 ∧ d = .d (.int (n : Nat))) S' (tk (m := 3) (by simp) rfl (by omega) (by omega) e_int) fun v2 d G2 H2 pd S2 => ?_
    obtain ⟨y, _, rfl⟩ := pd
    refine q_set (b := .d (.list (nsD ((List.range n).map fun s => (s + 1 + i) % n)))) S2 (e_lcRn (a_cons (e_var rfl) a_nil) (by omega) _ fun s hs => (e_op (e_cb (a_cons (e_op (e_op (e_var rfl) e_int rv_I0) (e_var rfl) rv_I0) a_nil) rc_int) (e_var rfl) (rv_I (by omega))).to ?_) fun v3 G3 H3 S3 => ?_
    · show Bd.d (.int (((s : Int) + 1 + (i : Int)) % (n : Int))) = Bd.d (.int ((((s + 1 + i) % n : Nat)) : Int))
      rw [show ((s : Int) + 1 + (i : Int)) = ((s + 1 + i : Nat) : Int) by omega]
      rfl
    refine s_app (j := 0) (l := p) (ds := ts.map tnD) (P := fun d => ∃ l : List Nat, l.length = n ∧ (∀ x ∈ l, x < n) ∧ d = .d (tnD l)) S3 rfl (e_var rfl) (ev_cb (PA := fun bs => ∃ l : List Nat, l.length = n ∧ (∀ x ∈ l, x < n) ∧ bs = [.d (.list (nsD l))]) (ev_cons (ev_lcN (n := n) (l := (List.range n).map fun s => (s + 1 + i) % n) (e_var rfl) (.inr rfl) (by rw [List.length_map, List.length_range]; omega) fun x hx => ?_) a_nil fun d ds h1 h2 => ?_) fun bs hb => ?_) (fun d ⟨l, _, _, e⟩ => ⟨_, e⟩) (by rw [List.length_map]; omega) fun z G4 H4 ez S4 => ?_
    · refine ev_if (PB := fun _ => True) (tp_any ((tk (m := 4) (by simp) rfl (by omega) (by omega) e_int).imp fun d ⟨i, _, e⟩ => ⟨_, e⟩) (si_of (e_var rfl))) (fun _ => tk (m := n) (by simp) rfl (by omega) (by omega) (e_var rfl)) fun _ => Ev.imp (P := fun d => d = .d (.int (x : Nat))) (e_var rfl) fun d e => ⟨x, ?_, e⟩
      obtain ⟨s, _, rfl⟩ := List.mem_map.mp hx
      exact Nat.mod_lt _ (by omega)
    · obtain ⟨l, h3, h4, rfl⟩ := h1
      exact ⟨l, by rw [h3, List.length_map, List.length_range], h4, by rw [h2]⟩
    · obtain ⟨l, h3, h4, rfl⟩ := hb
      exact fun G H vs Q s h k => rc_tup (.inr rfl) G H vs Q s h fun z d' G' H' g q => k z d' G' H' g ⟨l, h3, h4, q⟩
    · obtain ⟨l, h3, h4, ez⟩ := ez
      have ez := bd_inj ez
      subst ez
      refine ⟨_, G4, ⟨ts ++ [l], by simp [hts], fun t ht => ?_, ?_⟩, ((S4.forget 1).forget 10).forget 11⟩
      · rcases List.mem_append.mp ht with ht | ht
        · exact hrow t ht
        · obtain rfl := List.mem_singleton.mp ht
          exact ⟨h3, h4⟩
      · rw [List.map_append]
        rfl
  obtain ⟨ts, hts, hrow, rfl⟩ := pv
  rw [rgD_len] at hts
  obtain ⟨G2, S2, _, _⟩ := S'.freeze (i := 9) (j := 0) rfl rfl
  have mv : MV ts n := ⟨by omega, by omega, by omega, by omega, hrow⟩
  refine q_set (b := .d (tnD (List.range n))) S2 (e_tupRg (n := n) (e_var rfl) (by omega)) fun v3 G3 H3 S3 => ?_
  refine q_par3D (ns := zs (List.range n)) (x := .bool true) (y := lgD [(List.range n, [])]) (z := frD [(List.range n, [])]) S3 (fun M' => Ev.to (b := .d (tnD (List.range n))) (e_var rfl) (by rw [tnD_zs])) (fun M' => e_bl) (fun M' => e_lst (ds := [entD (List.range n, [])]) (a_cons (e_tup (ds := [tnD (List.range n), tnD []]) (a_cons (e_var rfl) (a_cons (e_tup (ds := []) a_nil) a_nil))) a_nil)) (fun M' => Ev.to (b := .d (.list [.tuple [.int (n : Nat), tnD []]])) (e_lst (ds := [.tuple [.int (n : Nat), tnD []]]) (a_cons (e_tup (ds := [.int (n : Nat), tnD []]) (a_cons (e_var rfl) (a_cons (e_tup (ds := []) a_nil) a_nil))) a_nil)) (by show _ = Bd.d (.list [.tuple [.int ((List.range n).length : Nat), tnD []]]); rw [List.length_range])) fun pk u v G4 H4 S4 => ?_
  exact wr1 mv hts n6 n8 S4 k
end Ag

/-! law. -/
namespace Ag
open PySem PySem.Spec PyProof.Rows L2
section
variable {N : Nv} {M : Mm} {Γ : Cnt}
/-- the first test is not known, the second is no -/
theorem t_andF {t u : TT} {PB : Bool → Prop} (h1 : EvTP N M Γ t PB) (h2 : EvT N M Γ u false) : EvT N M Γ (tAnd t u) false := fun G H σ Q s e bx k => h1 G H σ _ s e bx fun c G1 H1 g1 b1 _ => by
  cases c with
  | true =>
    show u σ H1 Q
    exact h2 G1 H1 σ Q g1.s (e.mono g1.g) b1 fun G2 H2 g2 b2 => k G2 H2 (g1.trans g2) b2
  | false => exact k G1 H1 g1 b1
theorem t_and2 {t u : TT} {a : Bool} (h1 : EvT N M Γ t a) (h2 : a = true → EvT N M Γ u false) : EvT N M Γ (tAnd t u) false := (t_and h1 h2).to (by cases a <;> rfl)
theorem t_notT {t : TT} (h : EvT N M Γ t true) : EvT N M Γ (tNot t) false := t_not h
end
def Rl_law : Rlt := fun bs B P => ∃ ns : List Int, bs = [.sq ns] ∧ B = [] ∧ P = fun d => d = .d (.bool true)
abbrev GL (ns : List Int) (o1 o2 o3 o4 o5 o6 o7 o8 o9 : Option Bd) : Cnt := [some (.sq ns), o1, o2, o3, o4, o5, o6, o7, o8, o9]
set_option maxHeartbeats 1000000 in
theorem W_law (N : Nv) : Walk N (R_law N (Spc N Rl__law_take) (SpcB N Rl__law_box) (Spc N Rl__law_wide_right) (Spc N Rl__law_tables) (Spc N Rl__law_right) (Spc N Rl__law_log) (Spc N Rl__law_run) (Spc N Rl_width) (SpI N Rl_init) (Spc N Rl__law_parted)) Rl_law 9 := by
  rintro bs B P ⟨ns, rfl, rfl, rfl⟩ G H σ D S k
  have S : Sta ⟨N, [], G, H⟩ G ⟨[], []⟩ G H σ (GL ns none none none none none none none none none) := S
  refine q_skip S (t_andF (PB := fun _ => True) (tp_test (P := fun d => ∃ c : Bool, d = .d (.bool c)) (ev_op (P1 := fun d => ∃ n : Nat, n < 3 ∧ d = .d (.int (n : Nat))) (P2 := fun d => d = .d (.int 0)) (ev_callNew (RlB := Rl__law_box) (Rl := Rl__law_take) (a_cons (e_var rfl) (a_cons e_int a_nil)) ⟨ns, 9, rfl, by omega⟩ (a_cons e_int a_nil) fun p => ⟨p, 3, rfl, by omega, by omega, rfl, rfl⟩) e_int fun x y h1 h2 => ?_) fun d ⟨c, e⟩ => ⟨c, e, trivial⟩) (t_notT (t_B (ev_callNew (RlB := Rl__law_box) (Rl := Rl__law_wide_right) (a_cons (e_var rfl) (a_cons e_int a_nil)) ⟨ns, 10, rfl, by omega⟩ a_nil fun p => ⟨p, rfl, rfl, rfl⟩)))) fun G1 H1 S1 => ?_
  · obtain ⟨n, _, rfl⟩ := h1
    subst h2
    exact fun G H u v Q s hu hv k => rv_eqD (x := .int (n : Nat)) (y := .int 0) rfl rfl G H u v Q s hu hv fun z d G' H' g q => k z d G' H' g ⟨_, q⟩
  refine q_for1 (a := 1) S1 (i_rg1 (n := 2) (a_cons e_int a_nil) (by decide)) (fun i M' => M' = ⟨[], []⟩) rfl (fun i x M' L' G' H' σ' hx pv S' => ?_) (fun M' G' H' σ' pv S' => ?_)
  · subst pv
    obtain ⟨hi, rfl⟩ := rgD_get hx
    have ea : (0 : Int) + (i : Nat) = (i : Nat) := by omega
    rw [ea] at S'
    refine q_callB (RlB := Rl__law_box) S' (a_cons (e_var rfl) (a_cons (e_var rfl) a_nil)) ⟨ns, i, rfl, by omega⟩ fun b G2 H2 S2 => ?_
    have S2 : Sta ⟨N, [], G, H⟩ L' ⟨[b], []⟩ G2 H2 _ (GL ns (some (.d (.int (i : Nat)))) (some (.v (.ref b))) none none none none none none none) := S2
    have tk : ∀ {Γ : Cnt} {te : TE} {m : Nat}, Γ[2]? = some (some (.v (.ref b))) → 0 < m → m < 1073741824 → E1 N ⟨[b], []⟩ Γ te (.d (.int (m : Int))) → Ev N ⟨[b], []⟩ Γ (tCall (Spc N Rl__law_take) [] E0 (tCons (tVar 2) (tCons te tNil))) (fun d => ∃ n : Nat, n < m ∧ d = .d (.int (n : Nat))) := fun h0 h1 h2 h3 => ev_callBx (B := [b]) (a_cons (e_var h0) (a_cons h3 a_nil)) ⟨b, _, rfl, h1, h2, rfl, rfl⟩ fun _ h => h
    refine q_asg (P := fun d => ∃ (ts : List (List Nat)) (n : Nat), MV ts n ∧ d = .d (tlD ts)) S2 (ev_call (PA := fun bs => ∃ ss : List Nat, (ss = [3, 4, 2, 3, 4, 1] ∨ ss = [5]) ∧ bs = [.v (.ref b), .d (.list (nsD ss)), .d (.list (nsD [1, 2, 2, 3]))]) (ev_cons (e_var (b := .v (.ref b)) rfl) (ev_cons (PB := fun bs => ∃ ss : List Nat, (ss = [3, 4, 2, 3, 4, 1] ∨ ss = [5]) ∧ bs = [.d (.list (nsD ss)), .d (.list (nsD [1, 2, 2, 3]))]) (P := fun d => ∃ ss : List Nat, (ss = [3, 4, 2, 3, 4, 1] ∨ ss = [5]) ∧ d = .d (.list (nsD ss))) (ev_if (PB := fun _ => True) (tp_any ((tk (m := 12) rfl (by omega) (by omega) e_int).imp fun d ⟨i, _, e⟩ => ⟨_, e⟩) (si_of e_int)) (fun _ => Ev.imp (P := fun d => d = .d (.list [.int 3, .int 4, .int 2, .int 3, .int 4, .int 1])) (e_lst (ds := [.int 3, .int 4, .int 2, .int 3, .int 4, .int 1]) (a_cons e_int (a_cons e_int (a_cons e_int (a_cons e_int (a_cons e_int (a_cons e_int a_nil))))))) fun d e => ⟨[3, 4, 2, 3, 4, 1], .inl rfl, e⟩) fun _ => Ev.imp (P := fun d => d = .d (.list [.int 5])) (e_lst (ds := [.int 5]) (a_cons e_int a_nil)) fun d e => ⟨[5], .inr rfl, e⟩) (a_cons (e_lst (ds := [.int 1, .int 2, .int 2, .int 3]) (a_cons e_int (a_cons e_int (a_cons e_int (a_cons e_int a_nil))))) a_nil) fun d ds h1 h2 => ?_) fun d ds h1 h2 => ?_) fun bs h => ?_) fun v3 d G3 H3 pd S3 => ?_
    · obtain ⟨ss, h3, rfl⟩ := h1
      exact ⟨ss, h3, by rw [h2]; rfl⟩
    · obtain ⟨ss, h3, rfl⟩ := h2
      exact ⟨ss, h3, by rw [h1]⟩
    · obtain ⟨ss, h3, rfl⟩ := h
      refine ⟨[b], _, ⟨b, ss, [1, 2, 2, 3], rfl, ?_, ?_, ?_, by simp, by simp, ?_, rfl, rfl⟩, fun c hc => hc, fun d ⟨ts, n, mv, _, _, e⟩ => ⟨ts, n, mv, e⟩⟩
      · rcases h3 with rfl | rfl <;> simp
      · rcases h3 with rfl | rfl <;> simp
      · rcases h3 with rfl | rfl <;> decide
      · decide
    obtain ⟨ts, n, mv, rfl⟩ := pd
    have n1 := mv.n1
    have n12 := mv.n12
    have k8 := mv.k8
    have S3 : Sta ⟨N, [], G, H⟩ L' ⟨[b], []⟩ G3 H3 _ (GL ns (some (.d (.int (i : Nat)))) (some (.v (.ref b))) (some (.d (tlD ts))) none none none none none none) := S3
    refine q_skip S3 (t_and2 (a := decide ((n : Int) < 5)) (t_test (e_op (e_len0 mv (e_var rfl)) e_int (rv_B0 (g := fun i j => decide (i < j))))) fun h => t_notT (t_B (ev_callBx (B := [b]) (a_cons (e_var rfl) (a_cons (e_var rfl) a_nil)) ⟨b, ts, n, rfl, mv, by have := of_decide_eq_true h; omega, rfl, rfl⟩ fun _ h => h))) fun G4 H4 S4 => ?_
    refine q_asg (P := fun d => ∃ w : List Nat, w.length ≤ 12 ∧ (∀ x ∈ w, x < ts.length) ∧ d = .d (tnD w)) S4 (ev_callBx (B := [b]) (a_cons (e_var rfl) (a_cons (e_var rfl) (a_cons e_int a_nil))) ⟨b, ts, n, 12, rfl, mv, by omega, rfl, rfl⟩ fun _ h => h) fun v5 d G5 H5 pd S5 => ?_
    obtain ⟨w, hwl, hw, rfl⟩ := pd
    have S5 : Sta ⟨N, [], G, H⟩ L' ⟨[b], []⟩ G5 H5 _ (GL ns (some (.d (.int (i : Nat)))) (some (.v (.ref b))) (some (.d (tlD ts))) (some (.d (tnD w))) none none none none none) := S5
    have len1 : ∀ {M : Mm} {Γ : Cnt}, Γ[4]? = some (some (.d (tnD w))) → E1 N M Γ (tOp (rI0 fun i j => .int (i + j)) (tCB (rLen N.K N.w) (tCons (tVar 4) tNil)) (tC (.int 1))) (.d (.int ((w.length + 1 : Nat) : Int))) := fun h => (e_op (e_cb (a_cons (e_var h) a_nil) (rc_len (.inl rfl))) e_int rv_I0).to (by rw [List.length_map]; rfl)
    refine q_asg (P := fun d => ∃ c : Nat, c < w.length + 1 ∧ d = .d (.int (c : Nat))) S5 (tk (m := w.length + 1) rfl (by omega) (by omega) (len1 rfl)) fun v6 d G6 H6 pd S6 => ?_
    obtain ⟨c, hc, rfl⟩ := pd
    have S6 : Sta ⟨N, [], G, H⟩ L' ⟨[b], []⟩ G6 H6 _ (GL ns (some (.d (.int (i : Nat)))) (some (.v (.ref b))) (some (.d (tlD ts))) (some (.d (tnD w))) (some (.d (.int (c : Nat)))) none none none none) := S6
    have hwt : ∀ j, ∀ d ∈ w.take j, d < ts.length := fun j d h => hw d (List.mem_of_mem_take h)
    refine q_set (b := .d (.int ((imgs ts n (w.take c)).length : Nat))) S6 (e_setLen (n := n) (l := (List.range n).map fun s => run ts s (w.take c)) (c := .list (nsD ((List.range n).map fun s => run ts s (w.take c)))) (e_lcRn (a_cons (e_len0 mv (e_var rfl)) a_nil) (by omega) (fun s => run ts s (w.take c)) fun s hs => e_ixL1 (e_call (a_cons (e_var rfl) (a_cons (e_var rfl) (a_cons ((e_slTo (e_var rfl) (e_var rfl)).to (by rw [tn_take])) a_nil))) ⟨ts, n, s, w.take c, rfl, mv, hs, hwt c, by rw [List.length_take]; omega, rfl, rfl⟩) (e_neg e_int) runL_last) (.inr rfl) (fun x hx => ?_) (by rw [List.length_map, List.length_range]; omega)) fun v7 G7 H7 S7 => ?_
    · obtain ⟨s, hs, rfl⟩ := List.mem_map.mp hx
      exact run_lt mv (hwt c) (List.mem_range.mp hs)
    have S7 : Sta ⟨N, [], G, H⟩ L' ⟨[b], []⟩ G7 H7 _ (GL ns (some (.d (.int (i : Nat)))) (some (.v (.ref b))) (some (.d (tlD ts))) (some (.d (tnD w))) (some (.d (.int (c : Nat)))) (some (.d (.int ((imgs ts n (w.take c)).length : Nat)))) none none none) := S7
    refine q_skip S7 (t_test (ev_op (P1 := fun d => ∃ m w, Nar ts n m w ∧ d = .d (.int (m : Nat))) (P2 := fun d => d = .d (.int ((imgs ts n (w.take c)).length : Nat))) (P := fun d => d = .d (.bool false)) (ev_callP (Rl := Rl_width) (a_cons (e_make (Rl := Rl_init) (a_cons (e_var rfl) a_nil) ⟨n, rfl, mv⟩) a_nil) ⟨ts, n, rfl, mv, rfl, rfl⟩) (e_var rfl) fun x y h1 h2 => ?_)) fun G8 H8 S8 => ?_
    · obtain ⟨m, w', nar, rfl⟩ := h1
      subst h2
      have hle := nar.le (w.take c) (hwt c)
      rw [lot_img mv (hwt c)] at hle
      exact fun G H u v Q s hu hv k => rv_B0 (g := fun i j => decide (j < i)) G H u v Q s hu hv fun z d G' H' g q => k z d G' H' g (q.trans (by
        show Bd.d (.bool (decide (((imgs ts n (w.take c)).length : Int) < (m : Int)))) = _
        rw [decide_eq_false (by omega)]))
    refine s_for1 (a := 7) S8 (i_rg2 (lo := c) (hi := w.length + 1) (a_cons (e_var rfl) (a_cons (len1 rfl) a_nil)) (by omega) (by omega)) (fun j M' => M' = ⟨[b], []⟩) rfl (fun j x M' L2 G' H' σ' hx pv S' => ?_) (fun M' G' H' σ' pv S' => ?_)
    · subst pv
      obtain ⟨hj, rfl⟩ := rgD_get hx
      have eb : (((c : Nat) : Int) + (j : Nat)) = ((c + j : Nat) : Int) := by omega
      rw [eb] at S'
      have S' : Sta ⟨N, [], G, H⟩ L2 ⟨[b], []⟩ G' H' σ' (GL ns (some (.d (.int (i : Nat)))) (some (.v (.ref b))) (some (.d (tlD ts))) (some (.d (tnD w))) (some (.d (.int (c : Nat)))) (some (.d (.int ((imgs ts n (w.take c)).length : Nat)))) (some (.d (.int ((c + j : Nat) : Int)))) none none) := S'
      have hl : (w.take (c + j)).length = c + j := by
        rw [List.length_take]
        omega
      have ht : (w.take (c + j)).take c = w.take c := by
        rw [List.take_take]
        congr 1
        omega
      have kl : E1 N ⟨[b], []⟩ (GL ns (some (.d (.int (i : Nat)))) (some (.v (.ref b))) (some (.d (tlD ts))) (some (.d (tnD w))) (some (.d (.int (c : Nat)))) (some (.d (.int ((imgs ts n (w.take c)).length : Nat)))) (some (.d (.int ((c + j : Nat) : Int)))) none none) (tLc (iRng1 (tCons (tCB (rLen N.K N.w) (tCons (tOp (rIx N.K) (tVar 3) (tC (.int 0))) tNil)) tNil)) (gName 9) (tTest (tOp (rI0 fun i j => .bl (decide (j < i))) (tCall (Spc N Rl__law_parted) [] E0 (tCons (tVar 3) (tCons (tSl (rSl N.K) (tVar 4) tNoPart (tPart (tVar 7))) (tCons (tVar 5) (tCons (tVar 9) tNil))))) (tVar 6))) (tVar 9) [9]) (.d (.list [])) := by
        refine (e_lcRg (a_cons (e_len0 mv (e_var rfl)) a_nil) (by omega) (fun _ => false) (fun s => .int (s : Nat)) (fun s hs => ?_) fun s hs h => nomatch h).to ?_
        · refine t_test (ev_op (P1 := fun d => ∃ m : Nat, m ≤ (imgs ts n ((w.take (c + j)).take c)).length ∧ d = .d (.int (m : Nat))) (P2 := fun d => d = .d (.int ((imgs ts n (w.take c)).length : Nat))) (P := fun d => d = .d (.bool false)) (ev_callP (Rl := Rl__law_parted) (bs := [.d (tlD ts), .d (tnD (w.take (c + j))), .d (.int (c : Int)), .d (.int (s : Int))]) (a_cons (e_var rfl) (a_cons ((e_slTo (e_var rfl) (e_var rfl)).to (by rw [tn_take])) (a_cons (e_var rfl) (a_cons (e_var rfl) a_nil)))) ⟨ts, n, w.take (c + j), c, s, rfl, mv, hwt (c + j), by omega, by omega, rfl, rfl⟩) (e_var rfl) fun x y h1 h2 => ?_)
          obtain ⟨m, hm, rfl⟩ := h1
          subst h2
          rw [ht] at hm
          exact fun G H u v Q s hu hv k => rv_B0 (g := fun i j => decide (j < i)) G H u v Q s hu hv fun z d G' H' g q => k z d G' H' g (q.trans (by
            show Bd.d (.bool (decide (((imgs ts n (w.take c)).length : Int) < (m : Int)))) = _
            rw [decide_eq_false (by omega)]))
        · rw [List.filter_eq_nil_iff.mpr (fun x _ => by decide)]
          rfl
      refine s_if (c := false) S' (t_test (e_isNilN kl rfl)) (fun h => nomatch h) fun _ G9 H9 S9 => ⟨_, G9, rfl, S9.forget 7⟩
    · subst pv
      exact ⟨_, G', rfl, ((((((S'.less (M' := ⟨[], []⟩) (fun b hb => by cases hb) (List.Sublist.refl _)).forget 1).forget 2).forget 3).forget 4).forget 5).forget 6⟩
  · subst pv
    exact s_retF S' e_bl (fun d h => h) k fun c hc => by cases hc
end Ag

/-! What the top has written; every def keeps its promise; the law's call. -/
namespace Ag
open PySem PySem.Spec PyProof.Rows L2
/-- a def, as it stands behind the top -/
structure DefAt (K : PySem.W.Frag) (x : Str) (st : Stmt) : Prop where
  ex : ∃ (f : Addr) (fd : FuncData), Fun K x x st f fd ∧ PySem.W.nsIn K mainGlobals x = some (some (.ref f))
theorem def_at {K : PySem.W.Frag} {x : Str} {st : Stmt} {f : Addr} {oc : Value} {od an : Option Addr} {osl : Array (Option Value)} {kV doc pm cdv ct : Value}
    (a : PySem.W.nsIn K mainGlobals x = some (some (.ref f))) (l : K.lookup f = some ⟨oc, od, .func (PySem.W.fnOf x x (defArgs st) (defBody st) (defScope st) .none kV doc pm an cdv ct), osl⟩) (c : PySem.W.codeIn K cdv x = true) (k : PySem.W.keepIn K (.ref f) = true) : DefAt K x st := ⟨f, _, fun_mk l c k, a⟩
/-- the class and its __init__ -/
structure ClsTop (K : PySem.W.Frag) (C : Addr) : Prop where
  ex : ∃ (f : Addr) (fd : FuncData), Fun K "__init__" "Machine.__init__" s_Machine_init f fd ∧ Mk K C f
  cls : Cls K C
  tb : NoAttr K C "tables"
  de : NoAttr K C "deeds"
  st : NoAttr K C "states"
  top : PySem.W.nsIn K mainGlobals "Machine" = some (some (.ref C))
theorem cls_top {K : PySem.W.Frag} {C f : Addr} {oc : Value} {od an : Option Addr} {osl : Array (Option Value)} {kV doc pm cdv ct : Value}
    (aC : PySem.W.nsIn K mainGlobals "Machine" = some (some (.ref C))) (a : PySem.W.findIn K (.ref C) "__init__" = some (some (.ref f))) (i : PySem.W.isFn K (.ref f) = true) (l : K.lookup f = some ⟨oc, od, .func (PySem.W.fnOf "__init__" "Machine.__init__" (defArgs s_Machine_init) (defBody s_Machine_init) (defScope s_Machine_init) .none kV doc pm an cdv ct), osl⟩)
    (c : PySem.W.codeIn K cdv "Machine.__init__" = true) (k : PySem.W.keepIn K (.ref f) = true) (pg : PySem.W.plainGet K C Str.empty = true) (hd : PySem.W.hasDictIn K C = true) (po : PySem.W.plainOver K C = true) (sa : PySem.W.findIn K (.ref C) "__setattr__" = some (some (.builtin "object.__setattr__"))) (mk : PySem.W.makesIn K C = true) (kc : PySem.W.keepIn K (.ref C) = true)
    (n1 : PySem.W.findIn K (.ref C) "tables" = some none) (n2 : PySem.W.findIn K (.ref C) "deeds" = some none) (n3 : PySem.W.findIn K (.ref C) "states" = some none) : ClsTop K C :=
  ⟨⟨f, _, fun_mk l c k, mk, a, i, kc⟩, ⟨pg, hd, po, sa⟩, n1, n2, n3, aC⟩
/-- this number, this text -/
def isV : V → Value → Bool
  | .int i, .int j _ => decide (j = i)
  | .str z, .str y _ => decide (y = z)
  | _, _ => false
theorem isV_rel {v : V} {u : Value} (h : isV v u = true) : RelV v u := by
  cases v <;> cases u <;> first | (cases h; done) | (obtain rfl := of_decide_eq_true h; exact ⟨_, rfl⟩)
theorem v_at {K : PySem.W.Frag} {x : Str} {v : V} {u : Value} (a : PySem.W.nsIn K mainGlobals x = some (some u)) (r : isV v u = true) : ∃ u : Value, PySem.W.nsIn K mainGlobals x = some (some u) ∧ isV v u = true := ⟨u, a, r⟩
structure TopK (K : PySem.W.Frag) (C : Addr) : Prop where
  cl : ClsTop K C
  d_is_integer : DefAt K "is_integer" s_is_integer
  d_is_number : DefAt K "is_number" s_is_number
  d_is_below : DefAt K "is_below" s_is_below
  d_is_sequence : DefAt K "is_sequence" s_is_sequence
  d_is_text : DefAt K "is_text" s_is_text
  d_is_ascending : DefAt K "is_ascending" s_is_ascending
  d_is_table : DefAt K "is_table" s_is_table
  d_check_tables : DefAt K "check_tables" s_check_tables
  d_behind : DefAt K "behind" s_behind
  d_lots_met : DefAt K "lots_met" s_lots_met
  d_narrowest : DefAt K "narrowest" s_narrowest
  d_width : DefAt K "width" s_width
  d_width_log : DefAt K "width_log" s_width_log
  d_is_ever_met : DefAt K "is_ever_met" s_is_ever_met
  d_reset_paper : DefAt K "reset_paper" s_reset_paper
  d_reset_holds : DefAt K "reset_holds" s_reset_holds
  d__law_box : DefAt K "_law_box" s__law_box
  d__law_take : DefAt K "_law_take" s__law_take
  d__law_pick : DefAt K "_law_pick" s__law_pick
  d__law_tables : DefAt K "_law_tables" s__law_tables
  d__law_run : DefAt K "_law_run" s__law_run
  d__law_log : DefAt K "_law_log" s__law_log
  d__law_doings : DefAt K "_law_doings" s__law_doings
  d__law_parted : DefAt K "_law_parted" s__law_parted
  d__law_right : DefAt K "_law_right" s__law_right
  d__law_wide_right : DefAt K "_law_wide_right" s__law_wide_right
  d_law : DefAt K "law" s_law
  z_len : PySem.W.nsIn K mainGlobals "len" = some none
  z_range : PySem.W.nsIn K mainGlobals "range" = some none
  z_tuple : PySem.W.nsIn K mainGlobals "tuple" = some none
  z_list : PySem.W.nsIn K mainGlobals "list" = some none
  z_sorted : PySem.W.nsIn K mainGlobals "sorted" = some none
  z_set : PySem.W.nsIn K mainGlobals "set" = some none
  z_min : PySem.W.nsIn K mainGlobals "min" = some none
  z_max : PySem.W.nsIn K mainGlobals "max" = some none
  z_abs : PySem.W.nsIn K mainGlobals "abs" = some none
  z_int : PySem.W.nsIn K mainGlobals "int" = some none
  z_repr : PySem.W.nsIn K mainGlobals "repr" = some none
  z_all : PySem.W.nsIn K mainGlobals "all" = some none
  z_enumerate : PySem.W.nsIn K mainGlobals "enumerate" = some none
  z_zip : PySem.W.nsIn K mainGlobals "zip" = some none
  z_isinstance : PySem.W.nsIn K mainGlobals "isinstance" = some none
  z_bool : PySem.W.nsIn K mainGlobals "bool" = some none
  z_str : PySem.W.nsIn K mainGlobals "str" = some none
  v_MOST_DEEDS : ∃ u : Value, PySem.W.nsIn K mainGlobals "MOST_DEEDS" = some (some u) ∧ isV (.int 8) u = true
  v_MOST_STATES : ∃ u : Value, PySem.W.nsIn K mainGlobals "MOST_STATES" = some (some u) ∧ isV (.int 12) u = true
  v_RESET : ∃ u : Value, PySem.W.nsIn K mainGlobals "RESET" = some (some u) ∧ isV (.str "reset") u = true
  v_PAIR : ∃ u : Value, PySem.W.nsIn K mainGlobals "PAIR" = some (some u) ∧ isV (.str "pair") u = true
theorem TopK.bis {K : PySem.W.Frag} {C : Addr} {h : Heap} {mg : Str → Option Value} (T : TopK K C) (X : K.In h) (G : h.Ns mainGlobals mg) : Bis mg where
  b_len := PySem.W.mg_none_of X G T.z_len
  b_range := PySem.W.mg_none_of X G T.z_range
  b_tuple := PySem.W.mg_none_of X G T.z_tuple
  b_list := PySem.W.mg_none_of X G T.z_list
  b_sorted := PySem.W.mg_none_of X G T.z_sorted
  b_set := PySem.W.mg_none_of X G T.z_set
  b_min := PySem.W.mg_none_of X G T.z_min
  b_max := PySem.W.mg_none_of X G T.z_max
  b_abs := PySem.W.mg_none_of X G T.z_abs
  b_int := PySem.W.mg_none_of X G T.z_int
  b_repr := PySem.W.mg_none_of X G T.z_repr
  b_all := PySem.W.mg_none_of X G T.z_all
  b_enumerate := PySem.W.mg_none_of X G T.z_enumerate
  b_zip := PySem.W.mg_none_of X G T.z_zip
  b_isinstance := PySem.W.mg_none_of X G T.z_isinstance
  b_bool := PySem.W.mg_none_of X G T.z_bool
  b_str := PySem.W.mg_none_of X G T.z_str
  g_MOST_DEEDS := let ⟨_, e, r⟩ := T.v_MOST_DEEDS; ⟨_, PySem.W.mg_of X G e, isV_rel r⟩
  g_MOST_STATES := let ⟨_, e, r⟩ := T.v_MOST_STATES; ⟨_, PySem.W.mg_of X G e, isV_rel r⟩
  g_RESET := let ⟨_, e, r⟩ := T.v_RESET; ⟨_, PySem.W.mg_of X G e, isV_rel r⟩
  g_PAIR := let ⟨_, e, r⟩ := T.v_PAIR; ⟨_, PySem.W.mg_of X G e, isV_rel r⟩
section
variable {P : Program} {w : World} {K : PySem.W.Frag} {mg : Str → Option Value} {base : Heap} {x : Str} {st : Stmt} {k : Nat} {ps ks : List Str} {sp : Sp}
theorem cl_of (X : K.In base) (G : base.Ns mainGlobals mg) (d : DefAt K x st) (ok : ∀ f fd, Fun K x x st f fd → FnOk P w K mg base CX0 k f fd ps sp)
    (bd : ∀ (kV doc pm : Value) (an : Option Addr) (cdv ct : Value) (us : List Value), us.length = ps.length → bindArgs (PySem.W.fnOf x x (defArgs st) (defBody st) (defScope st) .none kV doc pm an cdv ct) ⟨us, []⟩ = pure (ps.zip us)) : Cl P w K mg base k x sp := by
  obtain ⟨f, fd, F, a⟩ := d.ex
  exact ⟨f, fd, ps, ok f fd F, PySem.W.mg_of X G a, F.kp, F.binds bd⟩
theorem clG_of (X : K.In base) (G : base.Ns mainGlobals mg) (d : DefAt K x st) (ok : ∀ f fd, Fun K x x st f fd → FnG P w K mg base k f fd ps sp)
    (bd : ∀ (kV doc pm : Value) (an : Option Addr) (cdv ct : Value) (us : List Value), us.length = ps.length → bindArgs (PySem.W.fnOf x x (defArgs st) (defBody st) (defScope st) .none kV doc pm an cdv ct) ⟨us, []⟩ = pure (ps.zip us)) : ClG P w K mg base k x sp := by
  obtain ⟨f, fd, F, a⟩ := d.ex
  exact ⟨f, fd, ps, ok f fd F, PySem.W.mg_of X G a, F.kp, F.binds bd⟩
theorem clK_of {g : List Value → List Value} {gV : List V → List V} (X : K.In base) (G : base.Ns mainGlobals mg) (d : DefAt K x st) (ok : ∀ f fd, Fun K x x st f fd → FnOk P w K mg base CX0 k f fd ps sp)
    (bd : ∀ (kV doc pm : Value) (an : Option Addr) (cdv ct : Value) (ws : List Value), ws.length = ks.length → bindArgs (PySem.W.fnOf x x (defArgs st) (defBody st) (defScope st) .none kV doc pm an cdv ct) ⟨[], ks.zip ws⟩ = pure (ps.zip (g ws)))
    (rl : ∀ {zs : List V} {ws : List Value}, Vals zs ws → Vals (gV zs) (g ws)) : ClK P w K mg base k x sp ks gV := by
  obtain ⟨f, fd, F, a⟩ := d.ex
  refine ⟨f, fd, ps, g, ok f fd F, PySem.W.mg_of X G a, F.kp, ⟨fun s us ws _ h1 h2 => ?_, fun _ r => rl r⟩⟩
  obtain ⟨oc, od, kV, doc, pm, an, cdv, ct, osl, rfl, lk, hcd⟩ := F.ex
  obtain rfl := List.eq_nil_of_length_eq_zero h1
  exact .of_eq (bd kV doc pm an cdv ct ws h2)
end
def swv : List Value → List Value
  | [a, b] => [b, a]
  | l => l
theorem swp_rel {zs : List V} {ws : List Value} (r : Vals zs ws) : Vals (swp zs) (swv ws) := by
  cases r with
  | nil => exact .nil
  | cons a r =>
    cases r with
    | nil => exact .cons a .nil
    | cons b r =>
      cases r with
      | nil => exact .cons b (.cons a .nil)
      | cons c r => exact .cons a (.cons b (.cons c r))
set_option maxHeartbeats 4000000 in
/-- every def keeps its promise; the law's own at last -/
theorem law_ok {P : Program} {N : Nv} {mg : Str → Option Value} {base : Heap} (T : TopK N.K N.C) (X : N.K.In base) (G : base.Ns mainGlobals mg) {f : Addr} {fd : FuncData} (F : Fun N.K "law" "law" s_law f fd) : FnG P N.w N.K mg base 9 f fd ["_law_script"] (Spc N Rl_law) := by
  have B := T.bis X G
  have mc : Mc N := ⟨T.cl.cls, T.cl.tb, T.cl.de, T.cl.st⟩
  have f_is_integer : ∀ f fd, Fun N.K "is_integer" "is_integer" s_is_integer f fd → FnOk P N.w N.K mg base CX0 1 f fd ["value"] (Spc N Rl_is_integer) := fun f fd F => fn_ok (k := 0) (m := 0) F sc_is_integer (by rintro _ _ _ ⟨_, rfl, _⟩; rfl) rfl (fun cdv A outer s H E hr => D_is_integer N rfl rfl B  hr) (W_is_integer N)
  have c_is_integer : Cl P N.w N.K mg base 1 "is_integer" (Spc N Rl_is_integer) := cl_of X G T.d_is_integer f_is_integer (fun _ _ _ _ _ _ us hl => match us, hl with | [_], _ => rfl)
  have f_is_number : ∀ f fd, Fun N.K "is_number" "is_number" s_is_number f fd → FnOk P N.w N.K mg base CX0 2 f fd ["value"] (Spc N Rl_is_number) := fun f fd F => fn_ok (k := 1) (m := 0) F sc_is_number (by rintro _ _ _ ⟨_, rfl, _⟩; rfl) rfl (fun cdv A outer s H E hr => D_is_number N rfl rfl B c_is_integer hr) (W_is_number N)
  have c_is_number : Cl P N.w N.K mg base 2 "is_number" (Spc N Rl_is_number) := cl_of X G T.d_is_number f_is_number (fun _ _ _ _ _ _ us hl => match us, hl with | [_], _ => rfl)
  have f_is_below : ∀ f fd, Fun N.K "is_below" "is_below" s_is_below f fd → FnOk P N.w N.K mg base CX0 3 f fd ["value", "most"] (Spc N Rl_is_below) := fun f fd F => fn_ok (k := 2) (m := 0) F sc_is_below (by rintro _ _ _ ⟨_, _, rfl, _⟩; rfl) rfl (fun cdv A outer s H E hr => D_is_below N rfl rfl B c_is_number hr) (W_is_below N)
  have c_is_below : Cl P N.w N.K mg base 3 "is_below" (Spc N Rl_is_below) := cl_of X G T.d_is_below f_is_below (fun _ _ _ _ _ _ us hl => match us, hl with | [_, _], _ => rfl)
  have f_is_sequence : ∀ f fd, Fun N.K "is_sequence" "is_sequence" s_is_sequence f fd → FnOk P N.w N.K mg base CX0 1 f fd ["value"] (Spc N Rl_is_sequence) := fun f fd F => fn_ok (k := 0) (m := 0) F sc_is_sequence (by rintro _ _ _ ⟨_, rfl, _⟩; rfl) rfl (fun cdv A outer s H E hr => D_is_sequence N rfl rfl B  hr) (W_is_sequence N)
  have c_is_sequence : Cl P N.w N.K mg base 1 "is_sequence" (Spc N Rl_is_sequence) := cl_of X G T.d_is_sequence f_is_sequence (fun _ _ _ _ _ _ us hl => match us, hl with | [_], _ => rfl)
  have f_is_text : ∀ f fd, Fun N.K "is_text" "is_text" s_is_text f fd → FnOk P N.w N.K mg base CX0 1 f fd ["value"] (Spc N Rl_is_text) := fun f fd F => fn_ok (k := 0) (m := 0) F sc_is_text (by rintro _ _ _ ⟨_, rfl, _⟩; rfl) rfl (fun cdv A outer s H E hr => D_is_text N rfl rfl B  hr) (W_is_text N)
  have c_is_text : Cl P N.w N.K mg base 1 "is_text" (Spc N Rl_is_text) := cl_of X G T.d_is_text f_is_text (fun _ _ _ _ _ _ us hl => match us, hl with | [_], _ => rfl)
  have f_is_ascending : ∀ f fd, Fun N.K "is_ascending" "is_ascending" s_is_ascending f fd → FnOk P N.w N.K mg base CX0 4 f fd ["value", "most"] (Spc N Rl_is_ascending) := fun f fd F => fn_ok (k := 3) (m := 3) F sc_is_ascending (by rintro _ _ _ ⟨_, _, rfl, _⟩; rfl) rfl (fun cdv A outer s H E hr => D_is_ascending N rfl rfl B c_is_sequence c_is_below hr) (W_is_ascending N)
  have c_is_ascending : Cl P N.w N.K mg base 4 "is_ascending" (Spc N Rl_is_ascending) := cl_of X G T.d_is_ascending f_is_ascending (fun _ _ _ _ _ _ us hl => match us, hl with | [_, _], _ => rfl)
  have f_is_table : ∀ f fd, Fun N.K "is_table" "is_table" s_is_table f fd → FnOk P N.w N.K mg base CX0 4 f fd ["value", "states"] (Spc N Rl_is_table) := fun f fd F => fn_ok (k := 3) (m := 1) F sc_is_table (by rintro _ _ _ ⟨_, _, rfl, _⟩; rfl) rfl (fun cdv A outer s H E hr => D_is_table N rfl rfl B c_is_sequence c_is_below hr) (W_is_table N)
  have c_is_table : Cl P N.w N.K mg base 4 "is_table" (Spc N Rl_is_table) := cl_of X G T.d_is_table f_is_table (fun _ _ _ _ _ _ us hl => match us, hl with | [_, _], _ => rfl)
  have f_check_tables : ∀ f fd, Fun N.K "check_tables" "check_tables" s_check_tables f fd → FnOk P N.w N.K mg base CX0 5 f fd ["tables"] (Spc N Rl_check_tables) := fun f fd F => fn_ok (k := 4) (m := 3) F sc_check_tables (by rintro _ _ _ ⟨_, _, rfl, _⟩; rfl) rfl (fun cdv A outer s H E hr => D_check_tables N rfl rfl B c_is_sequence c_is_table hr) (W_check_tables N)
  have c_check_tables : Cl P N.w N.K mg base 5 "check_tables" (Spc N Rl_check_tables) := cl_of X G T.d_check_tables f_check_tables (fun _ _ _ _ _ _ us hl => match us, hl with | [_], _ => rfl)
  have c_Machine_init : ClM P N.w N.K mg base N.C 6 (SpI N Rl_init) := by
    obtain ⟨f, fd, F, M⟩ := T.cl.ex
    exact ⟨f, fd, ["self", "tables"], M, W_init mc F (fun cdv A outer s H E hr => D_Machine_init N rfl rfl B c_check_tables hr), PySem.W.mg_of X G T.cl.top, F.binds (fun _ _ _ _ _ _ us hl => match us, hl with | [_, _], _ => rfl)⟩
  have f_behind : ∀ f fd, Fun N.K "behind" "behind" s_behind f fd → FnOk P N.w N.K mg base CX0 1 f fd ["tables", "state", "log"] (Spc N Rl_behind) := fun f fd F => fn_ok (k := 0) (m := 1) F sc_behind (by rintro _ _ _ ⟨_, _, _, _, _, rfl, _⟩; rfl) rfl (fun cdv A outer s H E hr => D_behind N rfl rfl B  hr) (W_behind N)
  have c_behind : Cl P N.w N.K mg base 1 "behind" (Spc N Rl_behind) := cl_of X G T.d_behind f_behind (fun _ _ _ _ _ _ us hl => match us, hl with | [_, _, _], _ => rfl)
  have f_lots_met : ∀ f fd, Fun N.K "lots_met" "lots_met" s_lots_met f fd → FnOk P N.w N.K mg base CX0 1 f fd ["machine"] (SpcD N Rl_lots_met) := fun f fd F => fn_okD (k := 0) (m := 9) F sc_lots_met (by rintro _ _ ⟨_, _, rfl, _⟩; rfl) rfl (fun cdv A outer s H E hr => D_lots_met N rfl rfl B  hr) (W_lots_met N mc)
  have c_lots_met : Cl P N.w N.K mg base 1 "lots_met" (SpcD N Rl_lots_met) := cl_of X G T.d_lots_met f_lots_met (fun _ _ _ _ _ _ us hl => match us, hl with | [_], _ => rfl)
  have f_narrowest : ∀ f fd, Fun N.K "narrowest" "narrowest" s_narrowest f fd → FnOk P N.w N.K mg base CX0 2 f fd ["machine"] (Spc N Rl_narrowest) := fun f fd F => fn_ok (k := 1) (m := 4) F sc_narrowest (by rintro _ _ _ ⟨_, _, rfl, _⟩; rfl) rfl (fun cdv A outer s H E hr => D_narrowest N rfl rfl B c_lots_met hr) (W_narrowest N)
  have c_narrowest : Cl P N.w N.K mg base 2 "narrowest" (Spc N Rl_narrowest) := cl_of X G T.d_narrowest f_narrowest (fun _ _ _ _ _ _ us hl => match us, hl with | [_], _ => rfl)
  have f_width : ∀ f fd, Fun N.K "width" "width" s_width f fd → FnOk P N.w N.K mg base CX0 3 f fd ["machine"] (Spc N Rl_width) := fun f fd F => fn_ok (k := 2) (m := 0) F sc_width (by rintro _ _ _ ⟨_, _, rfl, _⟩; rfl) rfl (fun cdv A outer s H E hr => D_width N rfl rfl B c_narrowest hr) (W_width N)
  have c_width : Cl P N.w N.K mg base 3 "width" (Spc N Rl_width) := cl_of X G T.d_width f_width (fun _ _ _ _ _ _ us hl => match us, hl with | [_], _ => rfl)
  have k_width : ClK P N.w N.K mg base 3 "width" (Spc N Rl_width) ["machine"] (fun zs => zs) := clK_of (g := fun ws => ws) X G T.d_width f_width (fun _ _ _ _ _ _ ws hl => match ws, hl with | [_], _ => rfl) (fun r => r)
  have f_width_log : ∀ f fd, Fun N.K "width_log" "width_log" s_width_log f fd → FnOk P N.w N.K mg base CX0 3 f fd ["machine"] (Spc N Rl_width_log) := fun f fd F => fn_ok (k := 2) (m := 0) F sc_width_log (by rintro _ _ _ ⟨_, _, rfl, _⟩; rfl) rfl (fun cdv A outer s H E hr => D_width_log N rfl rfl B c_narrowest hr) (W_width_log N)
  have c_width_log : Cl P N.w N.K mg base 3 "width_log" (Spc N Rl_width_log) := cl_of X G T.d_width_log f_width_log (fun _ _ _ _ _ _ us hl => match us, hl with | [_], _ => rfl)
  have k_width_log : ClK P N.w N.K mg base 3 "width_log" (Spc N Rl_width_log) ["machine"] (fun zs => zs) := clK_of (g := fun ws => ws) X G T.d_width_log f_width_log (fun _ _ _ _ _ _ ws hl => match ws, hl with | [_], _ => rfl) (fun r => r)
  have f_is_ever_met : ∀ f fd, Fun N.K "is_ever_met" "is_ever_met" s_is_ever_met f fd → FnOk P N.w N.K mg base CX0 1 f fd ["machine", "one", "other"] (Spc N Rl_is_ever_met) := fun f fd F => fn_ok (k := 0) (m := 6) F sc_is_ever_met (by rintro _ _ _ ⟨_, _, _, _, rfl, _⟩; rfl) rfl (fun cdv A outer s H E hr => D_is_ever_met N rfl rfl B  hr) (W_is_ever_met N mc)
  have c_is_ever_met : Cl P N.w N.K mg base 1 "is_ever_met" (Spc N Rl_is_ever_met) := cl_of X G T.d_is_ever_met f_is_ever_met (fun _ _ _ _ _ _ us hl => match us, hl with | [_, _, _], _ => rfl)
  have f_reset_paper : ∀ f fd, Fun N.K "reset_paper" "reset_paper" s_reset_paper f fd → FnOk P N.w N.K mg base CX0 4 f fd ["machine"] (Spc N Rl_reset_paper) := fun f fd F => fn_ok (k := 3) (m := 2) F sc_reset_paper (by rintro _ _ _ ⟨_, _, _, _, rfl, _⟩; rfl) rfl (fun cdv A outer s H E hr => D_reset_paper N rfl rfl B c_is_ever_met c_width_log hr) (W_reset_paper N mc)
  have c_reset_paper : Cl P N.w N.K mg base 4 "reset_paper" (Spc N Rl_reset_paper) := cl_of X G T.d_reset_paper f_reset_paper (fun _ _ _ _ _ _ us hl => match us, hl with | [_], _ => rfl)
  have k_reset_paper : ClK P N.w N.K mg base 4 "reset_paper" (Spc N Rl_reset_paper) ["machine"] (fun zs => zs) := clK_of (g := fun ws => ws) X G T.d_reset_paper f_reset_paper (fun _ _ _ _ _ _ ws hl => match ws, hl with | [_], _ => rfl) (fun r => r)
  have f_reset_holds : ∀ f fd, Fun N.K "reset_holds" "reset_holds" s_reset_holds f fd → FnOk P N.w N.K mg base CX0 5 f fd ["machine", "value"] (Spc N Rl_reset_holds) := fun f fd F => fn_ok (k := 4) (m := 2) F sc_reset_holds (by rintro _ _ _ ⟨_, _, _, rfl, _⟩; rfl) rfl (fun cdv A outer s H E hr => D_reset_holds N rfl rfl B c_is_sequence c_is_text c_is_below c_behind c_is_ascending c_is_ever_met hr) (W_reset_holds N mc)
  have c_reset_holds : Cl P N.w N.K mg base 5 "reset_holds" (Spc N Rl_reset_holds) := cl_of X G T.d_reset_holds f_reset_holds (fun _ _ _ _ _ _ us hl => match us, hl with | [_, _], _ => rfl)
  have k_reset_holds : ClK P N.w N.K mg base 5 "reset_holds" (Spc N Rl_reset_holds) ["value", "machine"] swp := clK_of (g := swv) X G T.d_reset_holds f_reset_holds (fun _ _ _ _ _ _ ws hl => match ws, hl with | [_, _], _ => rfl) swp_rel
  have f__law_box : ∀ f fd, Fun N.K "_law_box" "_law_box" s__law_box f fd → FnOk P N.w N.K mg base CX0 1 f fd ["_law_script", "_law_k"] (SpcB N Rl__law_box) := fun f fd F => fn_okB (k := 0) (m := 1) F sc__law_box (by rintro _ ⟨_, _, rfl, _⟩; rfl) rfl (fun cdv A outer s H E hr => D__law_box N rfl rfl B  hr) (W_box N)
  have c__law_box : Cl P N.w N.K mg base 1 "_law_box" (SpcB N Rl__law_box) := cl_of X G T.d__law_box f__law_box (fun _ _ _ _ _ _ us hl => match us, hl with | [_, _], _ => rfl)
  have f__law_take : ∀ f fd, Fun N.K "_law_take" "_law_take" s__law_take f fd → FnOk P N.w N.K mg base CX0 1 f fd ["_law_box_here", "_law_many"] (Spc N Rl__law_take) := fun f fd F => fn_ok (k := 0) (m := 2) F sc__law_take (by rintro _ _ _ ⟨_, _, rfl, _⟩; rfl) rfl (fun cdv A outer s H E hr => D__law_take N rfl rfl B  hr) (W__law_take N)
  have c__law_take : Cl P N.w N.K mg base 1 "_law_take" (Spc N Rl__law_take) := cl_of X G T.d__law_take f__law_take (fun _ _ _ _ _ _ us hl => match us, hl with | [_, _], _ => rfl)
  have f__law_pick : ∀ f fd, Fun N.K "_law_pick" "_law_pick" s__law_pick f fd → FnOk P N.w N.K mg base CX0 2 f fd ["_law_box_here", "_law_some"] (Spc N Rl__law_pick) := fun f fd F => fn_ok (k := 1) (m := 0) F sc__law_pick (by rintro _ _ _ ⟨_, _, rfl, _⟩; rfl) rfl (fun cdv A outer s H E hr => D__law_pick N rfl rfl B c__law_take hr) (W__law_pick N)
  have c__law_pick : Cl P N.w N.K mg base 2 "_law_pick" (Spc N Rl__law_pick) := cl_of X G T.d__law_pick f__law_pick (fun _ _ _ _ _ _ us hl => match us, hl with | [_, _], _ => rfl)
  have f__law_tables : ∀ f fd, Fun N.K "_law_tables" "_law_tables" s__law_tables f fd → FnOk P N.w N.K mg base CX0 3 f fd ["_law_box_here", "_law_sizes", "_law_kinds"] (Spc N Rl__law_tables) := fun f fd F => fn_ok (k := 2) (m := 7) F sc__law_tables (by rintro _ _ _ ⟨_, _, _, rfl, _⟩; rfl) rfl (fun cdv A outer s H E hr => D__law_tables N rfl rfl B c__law_pick c__law_take hr) (W__law_tables N)
  have c__law_tables : Cl P N.w N.K mg base 3 "_law_tables" (Spc N Rl__law_tables) := cl_of X G T.d__law_tables f__law_tables (fun _ _ _ _ _ _ us hl => match us, hl with | [_, _, _], _ => rfl)
  have f__law_run : ∀ f fd, Fun N.K "_law_run" "_law_run" s__law_run f fd → FnOk P N.w N.K mg base CX0 1 f fd ["_law_tables_here", "_law_start", "_law_log_here"] (Spc N Rl__law_run) := fun f fd F => fn_ok (k := 0) (m := 2) F sc__law_run (by rintro _ _ _ ⟨_, _, _, _, rfl, _⟩; rfl) rfl (fun cdv A outer s H E hr => D__law_run N rfl rfl B  hr) (W__law_run N)
  have c__law_run : Cl P N.w N.K mg base 1 "_law_run" (Spc N Rl__law_run) := cl_of X G T.d__law_run f__law_run (fun _ _ _ _ _ _ us hl => match us, hl with | [_, _, _], _ => rfl)
  have f__law_log : ∀ f fd, Fun N.K "_law_log" "_law_log" s__law_log f fd → FnOk P N.w N.K mg base CX0 2 f fd ["_law_box_here", "_law_tables_here", "_law_most"] (Spc N Rl__law_log) := fun f fd F => fn_ok (k := 1) (m := 1) F sc__law_log (by rintro _ _ _ ⟨_, _, _, _, rfl, _⟩; rfl) rfl (fun cdv A outer s H E hr => D__law_log N rfl rfl B c__law_take hr) (W__law_log N)
  have c__law_log : Cl P N.w N.K mg base 2 "_law_log" (Spc N Rl__law_log) := cl_of X G T.d__law_log f__law_log (fun _ _ _ _ _ _ us hl => match us, hl with | [_, _, _], _ => rfl)
  have f__law_doings : ∀ f fd, Fun N.K "_law_doings" "_law_doings" s__law_doings f fd → FnOk P N.w N.K mg base CX0 1 f fd ["_law_tables_here"] (Spc N Rl__law_doings) := fun f fd F => fn_ok (k := 0) (m := 11) F sc__law_doings (by rintro _ _ _ ⟨_, _, rfl, _⟩; rfl) rfl (fun cdv A outer s H E hr => D__law_doings N rfl rfl B  hr) (W__law_doings N)
  have c__law_doings : Cl P N.w N.K mg base 1 "_law_doings" (Spc N Rl__law_doings) := cl_of X G T.d__law_doings f__law_doings (fun _ _ _ _ _ _ us hl => match us, hl with | [_], _ => rfl)
  have f__law_parted : ∀ f fd, Fun N.K "_law_parted" "_law_parted" s__law_parted f fd → FnOk P N.w N.K mg base CX0 2 f fd ["_law_tables_here", "_law_log_here", "_law_first", "_law_state"] (Spc N Rl__law_parted) := fun f fd F => fn_ok (k := 1) (m := 6) F sc__law_parted (by rintro _ _ _ ⟨_, _, _, _, _, rfl, _⟩; rfl) rfl (fun cdv A outer s H E hr => D__law_parted N rfl rfl B c__law_run hr) (W__law_parted N)
  have c__law_parted : Cl P N.w N.K mg base 2 "_law_parted" (Spc N Rl__law_parted) := cl_of X G T.d__law_parted f__law_parted (fun _ _ _ _ _ _ us hl => match us, hl with | [_, _, _, _], _ => rfl)
  have c__law_right : ClG P N.w N.K mg base 8 "_law_right" (Spc N Rl__law_right) := clG_of X G T.d__law_right (fun f fd F => fn_okG (k := 7) (m := 15) F sc__law_right (by rintro _ _ _ ⟨_, _, _, rfl, _⟩; rfl) rfl (fun cdv A outer s H E hG hr => D__law_right N rfl rfl B c_Machine_init c__law_doings c_width k_width c_width_log k_width_log c_reset_paper k_reset_paper c__law_pick c__law_take c_reset_holds k_reset_holds hG hr) (W__law_right N)) (fun _ _ _ _ _ _ us hl => match us, hl with | [_, _], _ => rfl)
  have c__law_wide_right : ClG P N.w N.K mg base 8 "_law_wide_right" (Spc N Rl__law_wide_right) := clG_of X G T.d__law_wide_right (fun f fd F => fn_okG (k := 7) (m := 28) F sc__law_wide_right (by rintro _ _ _ ⟨_, rfl, _⟩; rfl) rfl (fun cdv A outer s H E hG hr => D__law_wide_right N rfl rfl B c__law_take c_Machine_init c_width c_width_log c_reset_paper c_reset_holds hG hr) (W__law_wide_right N)) (fun _ _ _ _ _ _ us hl => match us, hl with | [_], _ => rfl)
  exact fn_okG (k := 8) (m := 9) F sc_law (by rintro _ _ _ ⟨_, rfl, _⟩; rfl) rfl (fun cdv A outer s H E hG hr => D_law N rfl rfl B c__law_take c__law_box c__law_wide_right c__law_tables c__law_right c__law_log c__law_run c_width c_Machine_init c__law_parted hG hr) (W_law N)
/-! ### the call behind the top -/
/-- the script alone is told of, as it stands; or nothing is, and it is the module's own -/
structure Qt (K : PySem.W.Frag) (H : Hp) (h : Heap) (a : Addr) (ob : Obj) : Prop where
  only : ∀ b u, H b = some u → b = a ∧ ∃ xs, u = .frz ob (.lst xs)
  at_ : h.get? a = some ob
  seq : ∃ its n, ob.data = .seq its n
  own : H a ≠ none → K.lookup a = none
section
variable {P : Program} {w : World} {K : PySem.W.Frag} {mg mb : Str → Option Value} {H : Hp} {s₁ : Shared} {a : Addr} {ob : Obj}
theorem Qt.base (q : Qt K H s₁.heap a ob) {b : Addr} {o : Obj} (e : s₁.heap.get? b = some o) (ne : b = a → H a = none) : (hidT s₁.heap H).get? b = some o := hidT_get e (by
  cases z : H b with
  | none => rfl
  | some u =>
    obtain ⟨rfl, _⟩ := q.only b u z
    rw [ne rfl] at z
    cases z)
theorem Qt.ns (q : Qt K H s₁.heap a ob) {b : Addr} {m : Str → Option Value} (n : s₁.heap.Ns b m) : (hidT s₁.heap H).Ns b m := by
  obtain ⟨o, es, ep, e, d, r⟩ := n
  refine ⟨o, es, ep, q.base e (fun z => ?_), d, r⟩
  subst z
  rw [q.at_] at e
  cases e
  obtain ⟨its, n, z⟩ := q.seq
  rw [z] at d
  cases d
theorem Qt.kin (q : Qt K H s₁.heap a ob) (KX : K.In s₁.heap) : K.In (hidT s₁.heap H) := fun b o e => q.base (KX b o e) fun z => by
  subst z
  cases y : H b with
  | none => rfl
  | some u =>
    have := q.own (by rw [y]; simp)
    rw [e] at this
    cases this
theorem Qt.env (q : Qt K H s₁.heap a ob) (hok : HOk P w H s₁.heap) (KX : K.In s₁.heap) (hns : s₁.heap.Ns mainGlobals mg) (hb : s₁.heap.Ns builtinsNs mb) (hbb : ∀ x : Str, x ≠ "__name__" → mb x = bootBuiltins x) (hlim : s₁.heap.NoLimit) (hg : s₁.gens = #[]) : Env0 P w K mg (hidT s₁.heap H) callerA [] s₁ H where
  frames := rfl
  mod := ⟨q.kin KX, q.ns hns, ⟨mb, q.ns hb, hbb⟩, let ⟨mc, h1, h2⟩ := hlim; ⟨mc, q.ns h1, h2⟩⟩
  bs := fun b o e => of_hidT e
  bsz := Nat.le_of_eq (hidT_size _ _)
  funs := trivial
  frf := fun b hb => absurd (show b ∈ ([] : List Addr) from hb) (by simp)
  hok := hok
  bare := .of_eq hg
/-- a def that is called where no repr is under way: what it promises of the script comes out -/
theorem Qt.call {k : Nat} {fa : Addr} {fd : FuncData} {x : Str} {sp : Sp} (q : Qt K H s₁.heap a ob) (e0 : Env0 P w K mg (hidT s₁.heap H) callerA [] s₁ H) (hr : Room k callerA) (F : FnG P w K mg (hidT s₁.heap H) k fa fd [x] sp)
    (hbind : BindsTo s₁ fd ⟨[.ref a], []⟩ [(x, .ref a)]) (hsp : sp [.ref a] H (fun v _ => v = .bl true) E0) :
    codeAny (model P w) callerA (.call (.ref fa) ⟨[.ref a], []⟩) (fun r s' => r = .ok (.ret (.bool true)) ∧ OldK s₁.heap s'.heap ∧ s'.os = s₁.os ∧ AllBare s'.gens) s₁ := by
  refine codeAny_mono (F.run callerA [] s₁ H ⟨[.ref a], []⟩ [.ref a] [.ref a] _ hr rfl e0 hbind (.cons rfl .nil) hsp) fun r s' h => ?_
  match r, h with
  | .ok (.ret u), ⟨v, H', os, bare, un, hok', rv, e⟩ =>
    obtain rfl : v = .bl true := e
    obtain rfl : u = Value.bool true := rv
    refine ⟨rfl, .of_keep fun b o y => ?_, os, bare⟩
    cases z : H b with
    | none => exact un.keep b o y z (by simp [frs]) (by simp)
    | some u =>
      obtain ⟨rfl, xs, rfl⟩ := q.only b u z
      rw [q.at_] at y
      cases y
      exact (hok' b _ (un.frzs b _ _ z)).1
end
open PySem.W in
theorem walkG {l : PySem.W.OpenLaw} {q : Program} {loose : List Str} {XP : (Str → Option Value) → Heap → Prop} {YP : World → Heap → Prop} {d : DefRec} {K : Params → PySem.W.Frag} (hn : l.most = some 63) (hdf : d.params.defaults = []) (hm : d.name = "law")
    (hY : ∀ (w : World) (h : Heap), YP w h → (K w.params).In h) (F : ∀ w : World, ∃ C : Addr, TopK (K w.params) C) : PySem.W.WalkO q loose XP YP l.row.toRowW d [] (fun f vs => PySem.call f vs) := by
  refine Att.attach_call hn hdf fun w s₀ s₁ mg mb fa o pm cd doc a vs ns G Y ho hd hcd hmg hobj hints hlen hg => ?_
  have KX := hY w _ Y
  obtain ⟨C, T⟩ := F w
  let N : Nv := ⟨w, C, K w.params⟩
  obtain ⟨f, fd, Fu, ea⟩ := T.d_law.ex
  rw [hm] at hmg
  have e := hmg.symm.trans (PySem.W.mg_of KX G.T.g ea)
  cases e
  have hbind : BindsTo s₁ fd ⟨[.ref a], []⟩ [("_law_script", .ref a)] := by
    obtain ⟨oc, od, kV, doc, pm, an, cdv, ct, osl, rfl, lk, hcd⟩ := Fu.ex
    exact .of_eq rfl
  have rv := vals_ints hints
  have lv := hints.length
  have hz : ns.length ≤ sizeLine := Nat.le_trans hlen (by decide)
  have hsp : ∀ H : Hp, SqL (K w.params) H a (ns.map V.int) → Spc N Rl_law [.ref a] H (fun v _ => v = .bl true) E0 := fun H hS =>
    ⟨H, [.sq ns], [], _, .refl _, .cons ⟨a, rfl, hS⟩ .nil, (fun b hb => by cases hb), ⟨ns, rfl, rfl, rfl⟩, fun v d G' H' _ _ p hv => by
      subst p
      exact hv.bool⟩
  have run : ∀ H : Hp, Qt (K w.params) H s₁.heap a { cls := .type "list", data := .seq vs.toArray } → HOk l.prog w H s₁.heap → SqL (K w.params) H a (ns.map V.int) → _ := fun H q hok hS =>
    q.call (q.env hok KX G.T.g G.T.b G.T.builtins G.T.nolimit hg) ⟨rfl, by decide, by decide⟩ (law_ok (N := N) T (q.kin KX) (q.ns G.T.g) Fu) hbind (hsp H hS)
  cases hk : (K w.params).lookup a with
  | some o =>
    have e := KX a o hk
    rw [hobj] at e
    cases e
    exact run (fun _ => none) ⟨(fun b u z => by cases z), hobj, ⟨_, _, rfl⟩, fun z => absurd rfl z⟩ (fun b u z => by cases z) (.inr ⟨_, vs.toArray, _, hk, rfl, rfl, rfl, by rw [List.size_toArray, lv]; exact hz, by simpa using rv⟩)
  | none =>
    have ha : ∀ {b : Addr} {u : HO}, (if b = a then some (HO.frz { cls := .type "list", data := .seq vs.toArray } (.lst (ns.map V.int))) else none) = some u → b = a ∧ u = .frz { cls := .type "list", data := .seq vs.toArray } (.lst (ns.map V.int)) := fun {b u} z => by
      split at z
      · exact ⟨by assumption, (Option.some.inj z).symm⟩
      · cases z
    refine run (fun b => if b = a then some (.frz { cls := .type "list", data := .seq vs.toArray } (.lst (ns.map V.int))) else none) ⟨fun b u z => ?_, hobj, ⟨_, _, rfl⟩, fun _ => hk⟩ (fun b u z => ?_) (.inl (.inr ⟨_, if_pos rfl⟩))
    · obtain ⟨h1, h2⟩ := ha z
      exact ⟨h1, _, h2⟩
    · obtain ⟨rfl, rfl⟩ := ha z
      exact ⟨hobj, by rw [List.length_map]; exact hz, vs, _, rv, hobj⟩
end Ag

open PySem PySem.W PyProof.Rows
set_option maxRecDepth 100000 in
set_option maxHeartbeats 0 in
theorem PySem.Challenge.cw_agedcopy_k02_whole_how_few_states_a_log_holds : PySem.Challenge.rw_agedcopy_k02_whole_how_few_states_a_log.Holds := by
  w_on; o_law; k_head; (case hw => w_witness2)
  k_fill
  refine Ag.walkG (l := PySem.Challenge.rw_agedcopy_k02_whole_how_few_states_a_log) rfl rfl rfl (fun w h Y => PySem.W.kIn_of Y) ?F
  case F =>
    intro w
    refine' ⟨_, Ag.TopK.mk (Ag.cls_top ?aC ?a0 ?i0 ?l0 ?c0 ?k0 ?pg ?hd ?po ?sa ?mk ?kc ?n1 ?n2 ?n3) (Ag.def_at ?a1 ?l1 ?c1 ?k1) (Ag.def_at ?a2 ?l2 ?c2 ?k2) (Ag.def_at ?a3 ?l3 ?c3 ?k3) (Ag.def_at ?a4 ?l4 ?c4 ?k4) (Ag.def_at ?a5 ?l5 ?c5 ?k5) (Ag.def_at ?a6 ?l6 ?c6 ?k6) (Ag.def_at ?a7 ?l7 ?c7 ?k7) (Ag.def_at ?a8 ?l8 ?c8 ?k8) (Ag.def_at ?a9 ?l9 ?c9 ?k9) (Ag.def_at ?a10 ?l10 ?c10 ?k10) (Ag.def_at ?a11 ?l11 ?c11 ?k11) (Ag.def_at ?a12 ?l12 ?c12 ?k12) (Ag.def_at ?a13 ?l13 ?c13 ?k13) (Ag.def_at ?a14 ?l14 ?c14 ?k14) (Ag.def_at ?a15 ?l15 ?c15 ?k15) (Ag.def_at ?a16 ?l16 ?c16 ?k16) (Ag.def_at ?a17 ?l17 ?c17 ?k17) (Ag.def_at ?a18 ?l18 ?c18 ?k18) (Ag.def_at ?a19 ?l19 ?c19 ?k19) (Ag.def_at ?a20 ?l20 ?c20 ?k20) (Ag.def_at ?a21 ?l21 ?c21 ?k21) (Ag.def_at ?a22 ?l22 ?c22 ?k22) (Ag.def_at ?a23 ?l23 ?c23 ?k23) (Ag.def_at ?a24 ?l24 ?c24 ?k24) (Ag.def_at ?a25 ?l25 ?c25 ?k25) (Ag.def_at ?a26 ?l26 ?c26 ?k26) (Ag.def_at ?a27 ?l27 ?c27 ?k27) ?zlen ?zrange ?ztuple ?zlist ?zsorted ?zset ?zmin ?zmax ?zabs ?zint ?zrepr ?zall ?zenumerate ?zzip ?zisinstance ?zbool ?zstr (Ag.v_at ?vMOST_DEEDS ?wMOST_DEEDS) (Ag.v_at ?vMOST_STATES ?wMOST_STATES) (Ag.v_at ?vRESET ?wRESET) (Ag.v_at ?vPAIR ?wPAIR)⟩
    (case aC => k_is)
    (case a0 => k_is)
    (case i0 => k_is)
    (case l0 => k_is)
    (case c0 => k_is)
    (case k0 => k_is)
    (case pg => k_is)
    (case hd => k_is)
    (case po => k_is)
    (case sa => k_is)
    (case mk => k_is)
    (case kc => k_is)
    (case n1 => k_is)
    (case n2 => k_is)
    (case n3 => k_is)
    (case a1 => k_is)
    (case l1 => k_is)
    (case c1 => k_is)
    (case k1 => k_is)
    (case a2 => k_is)
    (case l2 => k_is)
    (case c2 => k_is)
    (case k2 => k_is)
    (case a3 => k_is)
    (case l3 => k_is)
    (case c3 => k_is)
    (case k3 => k_is)
    (case a4 => k_is)
    (case l4 => k_is)
    (case c4 => k_is)
    (case k4 => k_is)
    (case a5 => k_is)
    (case l5 => k_is)
    (case c5 => k_is)
    (case k5 => k_is)
    (case a6 => k_is)
    (case l6 => k_is)
    (case c6 => k_is)
    (case k6 => k_is)
    (case a7 => k_is)
    (case l7 => k_is)
    (case c7 => k_is)
    (case k7 => k_is)
    (case a8 => k_is)
    (case l8 => k_is)
    (case c8 => k_is)
    (case k8 => k_is)
    (case a9 => k_is)
    (case l9 => k_is)
    (case c9 => k_is)
    (case k9 => k_is)
    (case a10 => k_is)
    (case l10 => k_is)
    (case c10 => k_is)
    (case k10 => k_is)
    (case a11 => k_is)
    (case l11 => k_is)
    (case c11 => k_is)
    (case k11 => k_is)
    (case a12 => k_is)
    (case l12 => k_is)
    (case c12 => k_is)
    (case k12 => k_is)
    (case a13 => k_is)
    (case l13 => k_is)
    (case c13 => k_is)
    (case k13 => k_is)
    (case a14 => k_is)
    (case l14 => k_is)
    (case c14 => k_is)
    (case k14 => k_is)
    (case a15 => k_is)
    (case l15 => k_is)
    (case c15 => k_is)
    (case k15 => k_is)
    (case a16 => k_is)
    (case l16 => k_is)
    (case c16 => k_is)
    (case k16 => k_is)
    (case a17 => k_is)
    (case l17 => k_is)
    (case c17 => k_is)
    (case k17 => k_is)
    (case a18 => k_is)
    (case l18 => k_is)
    (case c18 => k_is)
    (case k18 => k_is)
    (case a19 => k_is)
    (case l19 => k_is)
    (case c19 => k_is)
    (case k19 => k_is)
    (case a20 => k_is)
    (case l20 => k_is)
    (case c20 => k_is)
    (case k20 => k_is)
    (case a21 => k_is)
    (case l21 => k_is)
    (case c21 => k_is)
    (case k21 => k_is)
    (case a22 => k_is)
    (case l22 => k_is)
    (case c22 => k_is)
    (case k22 => k_is)
    (case a23 => k_is)
    (case l23 => k_is)
    (case c23 => k_is)
    (case k23 => k_is)
    (case a24 => k_is)
    (case l24 => k_is)
    (case c24 => k_is)
    (case k24 => k_is)
    (case a25 => k_is)
    (case l25 => k_is)
    (case c25 => k_is)
    (case k25 => k_is)
    (case a26 => k_is)
    (case l26 => k_is)
    (case c26 => k_is)
    (case k26 => k_is)
    (case a27 => k_is)
    (case l27 => k_is)
    (case c27 => k_is)
    (case k27 => k_is)
    (case zlen => k_is)
    (case zrange => k_is)
    (case ztuple => k_is)
    (case zlist => k_is)
    (case zsorted => k_is)
    (case zset => k_is)
    (case zmin => k_is)
    (case zmax => k_is)
    (case zabs => k_is)
    (case zint => k_is)
    (case zrepr => k_is)
    (case zall => k_is)
    (case zenumerate => k_is)
    (case zzip => k_is)
    (case zisinstance => k_is)
    (case zbool => k_is)
    (case zstr => k_is)
    (case vMOST_DEEDS => k_is)
    (case wMOST_DEEDS => rfl)
    (case vMOST_STATES => k_is)
    (case wMOST_STATES => rfl)
    (case vRESET => k_is)
    (case wRESET => rfl)
    (case vPAIR => k_is)
    (case wPAIR => rfl)
