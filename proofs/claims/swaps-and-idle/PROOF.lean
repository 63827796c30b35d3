import PyProof.Rows.All
import Wide.All
import OpenK.AllK
import Wide.FinOn
import HandS.ForMost
import HandS.Evl
import HandS.Nested
import KE.KDictKeyed
import HandS.Conv
import HandS.IsInst
import HandS.TupAny
import HandS.TupMul
import HandS.StrMore
import HandS.Deep
import HandS.DictComp
import KE.KDictDisplayH
import HandS.TupLen
import HandS.Words
import HandS.WordsExc
import HandS.Defaults
import HandS.ExcOwn
import HandS.ExcField
import KE.KSuper
import KE.KStateDown
import Lean
import HandS.Head0
import HandS.Head1
import HandS.Head2
import HandS.HeadHook1
import HandS.HeadHook2
import HandS.HeadHook3
import HandS.HeadHook4
import HandS.HeadWalk
import HandS.Exc
import HandS.ExcInit
import KE.KExcSuper
import HandS.SetIn
import HandS.Strs
import PyProof.SetRoads
import KE.SortData
import HandS.Sort
import PySem.Challenge.RW_foreaft_k63_swaps_and_idle_passes
set_option Elab.async false
set_option linter.all false
set_option maxRecDepth 100000

set_option maxHeartbeats 4000000
/-! text FxBase -/
namespace Fx
open PySem L2 Evl

/-- plain data -/
inductive D where
  | non | bl (b : Bool) | int (i : Int) | str (x : Str) | lst (ds : List D) | tup (ds : List D)
  | obj (C : Addr) (ns : List Str) (ds : List D) | raw (v : V) | scr (ns : List Int)

mutual
/-- the value v stands for the data d over the frozen heap G -/
inductive Rp (K : PySem.W.Frag) (G : Hp) : D → V → Prop
  | non : Rp K G .non .non
  | bl (b : Bool) : Rp K G (.bl b) (.bl b)
  | int (i : Int) : Rp K G (.int i) (.int i)
  | str (x : Str) : Rp K G (.str x) (.str x)
  | lst {a : Addr} {vs : List V} {ds : List D} : G a = some (.lst vs) → RpL K G ds vs → Rp K G (.lst ds) (.ref a)
  | tup {a : Addr} {vs : List V} {ds : List D} : G a = some (.tup vs) → RpL K G ds vs → Rp K G (.tup ds) (.ref a)
  | obj {C a dx : Addr} {fs : List (Str × V)} {ns : List Str} {ds : List D} : G a = some (.ins C dx fs) → fs.map (·.1) = ns → RpL K G ds (fs.map (·.2)) → Rp K G (.obj C ns ds) (.ref a)
  | raw (v : V) : Rp K G (.raw v) v
  | scr {a : Addr} {ns : List Int} : SqL K G a (ns.map V.int) → Rp K G (.scr ns) (.ref a)
inductive RpL (K : PySem.W.Frag) (G : Hp) : List D → List V → Prop
  | nil : RpL K G [] []
  | cons {d : D} {v : V} {ds : List D} {vs : List V} : Rp K G d v → RpL K G ds vs → RpL K G (d :: ds) (v :: vs)
end

section
variable {K : PySem.W.Frag} {G G' : Hp}
mutual
theorem Rp.mono (e : Ex G G') : ∀ (d : D) {v : V}, Rp K G d v → Rp K G' d v
  | .non, _, h => by cases h; exact .non
  | .bl _, _, h => by cases h; exact .bl _
  | .int _, _, h => by cases h; exact .int _
  | .str _, _, h => by cases h; exact .str _
  | .lst ds, _, h => by
    cases h with
    | lst h1 h2 => exact .lst (e _ _ h1) (RpL.mono e ds h2)
  | .tup ds, _, h => by
    cases h with
    | tup h1 h2 => exact .tup (e _ _ h1) (RpL.mono e ds h2)
  | .obj _ _ ds, _, h => by
    cases h with
    | obj h1 h2 h3 => exact .obj (e _ _ h1) h2 (RpL.mono e ds h3)
  | .raw _, _, h => by cases h; exact .raw _
  | .scr _, _, h => by
    cases h with
    | scr h1 => exact .scr (ex_l e h1)
theorem RpL.mono (e : Ex G G') : ∀ (ds : List D) {vs : List V}, RpL K G ds vs → RpL K G' ds vs
  | [], _, h => by cases h; exact .nil
  | d :: ds, _, h => by
    cases h with
    | cons a b => exact .cons (Rp.mono e d a) (RpL.mono e ds b)
end
theorem Rp.up (e : Ex G G') {d : D} {v : V} (h : Rp K G d v) : Rp K G' d v := Rp.mono e d h
theorem RpL.up (e : Ex G G') {ds : List D} {vs : List V} (h : RpL K G ds vs) : RpL K G' ds vs := RpL.mono e ds h
theorem RpL.len : ∀ {ds : List D} {vs : List V}, RpL K G ds vs → ds.length = vs.length
  | [], _, h => by cases h; rfl
  | d :: ds, _, h => by
    cases h with
    | cons a b => rw [List.length_cons, List.length_cons, RpL.len b]
theorem RpL.get : ∀ {ds : List D} {vs : List V} {i : Nat} {d : D}, RpL K G ds vs → ds[i]? = some d → ∃ v, vs[i]? = some v ∧ Rp K G d v
  | [], _, _, _, h, e => by simp at e
  | _ :: _, _, 0, _, h, e => by
    cases h with
    | cons a b =>
      simp only [List.getElem?_cons_zero, Option.some.injEq] at e
      subst e
      exact ⟨_, rfl, a⟩
  | _ :: _, _, i + 1, _, h, e => by
    cases h with
    | cons a b =>
      rw [List.getElem?_cons_succ] at e
      obtain ⟨v, h1, h2⟩ := RpL.get b e
      exact ⟨v, by rw [List.getElem?_cons_succ]; exact h1, h2⟩
theorem RpL.getV : ∀ {ds : List D} {vs : List V} {i : Nat} {v : V}, RpL K G ds vs → vs[i]? = some v → ∃ d, ds[i]? = some d ∧ Rp K G d v
  | [], _, _, _, h, e => by cases h; simp at e
  | _ :: _, _, 0, _, h, e => by
    cases h with
    | cons a b =>
      simp only [List.getElem?_cons_zero, Option.some.injEq] at e
      subst e
      exact ⟨_, rfl, a⟩
  | _ :: _, _, i + 1, _, h, e => by
    cases h with
    | cons a b =>
      rw [List.getElem?_cons_succ] at e
      obtain ⟨v, h1, h2⟩ := RpL.getV b e
      exact ⟨v, by rw [List.getElem?_cons_succ]; exact h1, h2⟩
theorem RpL.append : ∀ {ds es : List D} {vs ws : List V}, RpL K G ds vs → RpL K G es ws → RpL K G (ds ++ es) (vs ++ ws)
  | [], _, _, _, h, h2 => by cases h; exact h2
  | _ :: _, _, _, _, h, h2 => by
    cases h with
    | cons a b => exact .cons a (RpL.append b h2)
theorem RpL.snoc {ds : List D} {vs : List V} {d : D} {v : V} (h : RpL K G ds vs) (h2 : Rp K G d v) : RpL K G (ds ++ [d]) (vs ++ [v]) := h.append (.cons h2 .nil)
theorem RpL.take : ∀ {ds : List D} {vs : List V} (n : Nat), RpL K G ds vs → RpL K G (ds.take n) (vs.take n)
  | _, _, 0, _ => .nil
  | [], _, _ + 1, h => by cases h; exact .nil
  | _ :: _, _, n + 1, h => by
    cases h with
    | cons a b => exact .cons a (RpL.take n b)
theorem RpL.drop : ∀ {ds : List D} {vs : List V} (n : Nat), RpL K G ds vs → RpL K G (ds.drop n) (vs.drop n)
  | _, _, 0, h => h
  | [], _, _ + 1, h => by cases h; exact .nil
  | _ :: _, _, n + 1, h => by
    cases h with
    | cons a b => exact RpL.drop n b
theorem Rp.list {ds : List D} {v : V} (h : Rp K G (.lst ds) v) : ∃ a vs, v = .ref a ∧ G a = some (.lst vs) ∧ RpL K G ds vs := by
  cases h with
  | lst h1 h2 => exact ⟨_, _, rfl, h1, h2⟩
theorem Rp.tuple {ds : List D} {v : V} (h : Rp K G (.tup ds) v) : ∃ a vs, v = .ref a ∧ G a = some (.tup vs) ∧ RpL K G ds vs := by
  cases h with
  | tup h1 h2 => exact ⟨_, _, rfl, h1, h2⟩
theorem RpL.ints : ∀ (ns : List Int) {vs : List V}, RpL K G (ns.map D.int) vs → vs = ns.map V.int
  | [], _, h => by cases h; rfl
  | n :: ns, _, h => by
    cases h with
    | cons a b =>
      cases a
      rw [RpL.ints ns b]
      rfl
theorem RpL.ofInts : ∀ (ns : List Int), RpL K G (ns.map D.int) (ns.map V.int)
  | [] => .nil
  | n :: ns => .cons (.int n) (RpL.ofInts ns)
theorem RpL.strs : ∀ (ns : List Str) {vs : List V}, RpL K G (ns.map D.str) vs → vs = ns.map V.str
  | [], _, h => by cases h; rfl
  | n :: ns, _, h => by
    cases h with
    | cons a b =>
      cases a
      rw [RpL.strs ns b]
      rfl
theorem RpL.bls : ∀ (ns : List Bool) {vs : List V}, RpL K G (ns.map D.bl) vs → vs = ns.map V.bl
  | [], _, h => by cases h; rfl
  | n :: ns, _, h => by
    cases h with
    | cons a b =>
      cases a
      rw [RpL.bls ns b]
      rfl
end

/-! ### the state -/
/-- where the classes stand -/
structure Ads where
  M : Addr
  Bk : Addr
  ME : Addr
  BE : Addr
/-- what stays through the law: the program, the world, the written part, the box, the tables of code objects -/
structure Ct where
  P : Program
  w : World
  K : PySem.W.Frag
  B : Option Addr
  T : List NdefX.NTab
  A : Ads

def BoxAt (c : Ct) (G H : Hp) (b : Addr) : Prop := G b = none ∧ ∃ (r : Addr) (ns : List Int) (k : Int), H b = some (.lst [.ref r, .int k]) ∧ 0 ≤ k ∧ Rp c.K G (.lst (ns.map D.int)) (.ref r)
structure Ok (c : Ct) (G H : Hp) : Prop where
  gh : Ex G H
  bx : ∀ b, c.B = some b → BoxAt c G H b
  tb : NdefX.TabsN c.T H
  nt : ∀ a ps, G a ≠ some (.tbl ps)
/-- what a step may do: the frozen heap grows by new objects, all but the box and the tables stays -/
structure Stp (c : Ct) (G H G' H' : Hp) : Prop where
  ok : Ok c G' H'
  gg : Ex G G'
  hh : ∀ a o, some a ≠ c.B → (∀ ps, o ≠ .tbl ps) → H a = some o → H' a = some o
  hn : ∀ a, H' a = none → H a = none
  nw : ∀ a o, G' a = some o → G a = some o ∨ H a = none
section
variable {c : Ct} {G H G' H' G2 H2 : Hp}
theorem Stp.refl (o : Ok c G H) : Stp c G H G H := ⟨o, Ex.refl G, fun _ _ _ _ h => h, fun _ h => h, fun _ _ h => .inl h⟩
theorem Stp.trans (a : Stp c G H G' H') (b : Stp c G' H' G2 H2) : Stp c G H G2 H2 :=
  ⟨b.ok, a.gg.trans b.gg, fun x o n t h => b.hh x o n t (a.hh x o n t h), fun x h => a.hn x (b.hn x h), fun x o h => by
    rcases b.nw x o h with q | q
    · exact a.nw x o q
    · exact .inr (a.hn x q)⟩
/-- a new object is laid and frozen -/
theorem Stp.lay {p : Addr} {o : HO} (ok : Ok c G H) (hp : H p = none) (ht : ∀ ps, o ≠ .tbl ps := by intro _ z; cases z) : Stp c G H (upd G p o) (upd H p o) := by
  have gp : G p = none := fresh_back ok.gh hp
  have eg : Ex G (upd G p o) := Ex.new gp
  refine ⟨⟨fun a u e => ?_, fun b hb => ?_, ok.tb.ext (Ex.new hp), fun a ps e => by
    by_cases ha : a = p
    · subst ha; rw [upd_same] at e; exact ht ps (Option.some.inj e)
    · rw [upd_ne ha] at e; exact ok.nt a ps e⟩, eg, fun a u _ _ e => (Ex.new hp) a u e, fun a e => ?_, fun a u e => ?_⟩
  · by_cases ha : a = p
    · subst ha; rw [upd_same] at e ⊢; exact e
    · rw [upd_ne ha] at e ⊢; exact ok.gh a u e
  · obtain ⟨h1, r, ns, k, h2, h3, h4⟩ := ok.bx b hb
    have nb : b ≠ p := ne_of_none h2 hp
    exact ⟨by rw [upd_ne nb]; exact h1, r, ns, k, by rw [upd_ne nb]; exact h2, h3, h4.up eg⟩
  · by_cases ha : a = p
    · subst ha; exact hp
    · rw [upd_ne ha] at e; exact e
  · by_cases ha : a = p
    · subst ha; exact .inr hp
    · rw [upd_ne ha] at e; exact .inl e
/-- a new object is laid, not frozen -/
theorem Stp.layM {p : Addr} {o : HO} (ok : Ok c G H) (hp : H p = none) : Stp c G H G (upd H p o) := by
  refine ⟨⟨ok.gh.trans (Ex.new hp), fun b hb => ?_, ok.tb.ext (Ex.new hp), ok.nt⟩, Ex.refl G, fun a u _ _ e => (Ex.new hp) a u e, fun a e => ?_, fun a u e => .inl e⟩
  · obtain ⟨h1, r, ns, k, h2, h3, h4⟩ := ok.bx b hb
    have nb : b ≠ p := ne_of_none h2 hp
    exact ⟨h1, r, ns, k, by rw [upd_ne nb]; exact h2, h3, h4⟩
  · by_cases ha : a = p
    · subst ha; exact hp
    · rw [upd_ne ha] at e; exact e
end

/-! ### cells: what a name stands for -/
/-- the dict at p, its keys nested data, told by its own object alone -/
def DN (P : Program) (w : World) (p : Addr) (xs : List (NestedKey × Addr × V)) : HO := .ext fun h =>
  ∃ (o : Obj) (es : Array DictEntry) (ep : Nat) (ys : List (NestedKey × Addr × Value)), h.get? p = some o ∧ o.ExactDict ∧ o.data = .dict es ep ∧
    Paired (fun (x : NestedKey × Addr × V) (y : NestedKey × Addr × Value) => x.1 = y.1 ∧ x.2.1 = y.2.1 ∧ RelV x.2.2 y.2.2) xs ys ∧
    es.toList = ys.map (entryOfKey (nestedKind P w)) ∧ (ys.map (·.1)).Nodup ∧ (p == sysModules) = false ∧ xs.length ≤ sizeLine

mutual
def D.key : D → NestedKey
  | .non => .none
  | .bl b => .num (if b then 1 else 0)
  | .int i => .num i
  | .str x => .text x
  | .tup ds => .tup (D.keys ds)
  | _ => .none
def D.keys : List D → List NestedKey
  | [] => []
  | d :: ds => D.key d :: D.keys ds
end
-- ints, texts, tuples of these
mutual
def D.hashy : D → Bool
  | .int _ => true
  | .str _ => true
  | .tup ds => D.hashys ds
  | _ => false
def D.hashys : List D → Bool
  | [] => true
  | d :: ds => D.hashy d && D.hashys ds
end

inductive Cell where
  | dat (d : D) | ml (ds : List D) | mk (kds : List (Key × D)) | mn (kds : List (D × D)) | box
  | ro (C : Addr) (ns : List Str) (ds : List D)
  | fn (F : NdefX.NF) (vws : List V) (ds : List D)
  | rs (C : Addr) (ns : List Str) (ds : List D)
def Cell.mu : Cell → Bool
  | .ml _ => true
  | .mk _ => true
  | .mn _ => true
  | .ro _ _ _ => true
  | _ => false
def Own (c : Ct) (H0 G : Hp) (p : Addr) : Prop := H0 p = none ∧ G p = none ∧ some p ≠ c.B
abbrev KR (K : PySem.W.Frag) (G : Hp) : List (Key × D) → List (Key × V) → Prop := Paired fun p q => p.1 = q.1 ∧ Rp K G p.2 q.2
abbrev NR (K : PySem.W.Frag) (G : Hp) : List (D × D) → List (NestedKey × Addr × V) → Prop := Paired fun p q => p.1.key = q.1 ∧ (p.1.hashy = true ∧ p.1.key.depth ≤ 8) ∧ Rp K G p.1 (.ref q.2.1) ∧ Rp K G p.2 q.2.2
def CR (c : Ct) (H0 G H : Hp) : Cell → V → Prop
  | .dat d, v => Rp c.K G d v
  | .ml ds, v => ∃ p vs, v = .ref p ∧ Own c H0 G p ∧ H p = some (.lst vs) ∧ RpL c.K G ds vs
  | .mk kds, v => ∃ p kvs, v = .ref p ∧ Own c H0 G p ∧ H p = some (.dK kvs) ∧ KR c.K G kds kvs
  | .mn kds, v => ∃ p xs, v = .ref p ∧ Own c H0 G p ∧ H p = some (DN c.P c.w p xs) ∧ NR c.K G kds xs
  | .box, v => ∃ b, c.B = some b ∧ v = .ref b
  | .fn F vws ds, v => ∃ f, v = .ref f ∧ H f = some (NdefX.FnO f F) ∧ H F.c = some (LamX.CodeO F.c F.qual) ∧ RpL c.K G ds vws
  | .rs C ns ds, v => ∃ p dx fs, v = .ref p ∧ (H0 p ≠ none ∧ G p = none ∧ some p ≠ c.B) ∧ H p = some (.ins C dx fs) ∧ fs.map (·.1) = ns ∧ RpL c.K G ds (fs.map (·.2))
  | .ro C ns ds, v => ∃ p dx fs, v = .ref p ∧ Own c H0 G p ∧ H p = some (.ins C dx fs) ∧ fs.map (·.1) = ns ∧ RpL c.K G ds (fs.map (·.2))
abbrev Env := List (Option Cell)
structure Rel (c : Ct) (G0 H0 : Hp) (ρ : Env) (σ : L2.St) (G H : Hp) : Prop where
  st : Stp c G0 H0 G H
  len : σ.length = ρ.length
  slot : ∀ (i : Nat) cl, ρ[i]? = some (some cl) → ∃ v, σ[i]? = some (some v) ∧ CR c H0 G H cl v
  sep : ∀ (i j : Nat) ci cj, i ≠ j → ρ[i]? = some (some ci) → ρ[j]? = some (some cj) → ci.mu = true → cj.mu = true → σ[i]? ≠ σ[j]?

section
variable {c : Ct} {G0 H0 G H G' H' : Hp} {ρ : Env} {σ : L2.St}
theorem Own.stp {p : Addr} {o : HO} (h : Own c H0 G p) (hp : H p = some o) (s : Stp c G H G' H') : Own c H0 G' p := by
  refine ⟨h.1, ?_, h.2.2⟩
  cases e : G' p with
  | none => rfl
  | some u =>
    rcases s.nw p u e with q | q
    · rw [h.2.1] at q; cases q
    · rw [hp] at q; cases q
theorem KR.up (e : Ex G G') : ∀ {a : List (Key × D)} {b : List (Key × V)}, KR c.K G a b → KR c.K G' a b
  | _, _, .nil => .nil
  | _, _, .cons x y => .cons ⟨x.1, x.2.up e⟩ (KR.up e y)
theorem NR.up (e : Ex G G') : ∀ {a : List (D × D)} {b : List (NestedKey × Addr × V)}, NR c.K G a b → NR c.K G' a b
  | _, _, .nil => .nil
  | _, _, .cons x y => .cons ⟨x.1, x.2.1, x.2.2.1.up e, x.2.2.2.up e⟩ (NR.up e y)
theorem Ok.nbF (ok : Ok c G H) {f : Addr} {o : HO} (e : H f = some o) (n : ∀ xs, o ≠ .lst xs) : some f ≠ c.B := fun z => by
  obtain ⟨_, r, ns, k, h, _⟩ := ok.bx f z.symm
  rw [e] at h
  exact n _ (Option.some.inj h)
theorem CR.stp {cl : Cell} {v : V} (ok : Ok c G H) (h : CR c H0 G H cl v) (s : Stp c G H G' H') : CR c H0 G' H' cl v := by
  cases cl with
  | dat d => exact Rp.up s.gg h
  | ml ds =>
    obtain ⟨p, vs, e, ow, hp, r⟩ := h
    exact ⟨p, vs, e, ow.stp hp s, s.hh p _ ow.2.2 (fun _ z => by cases z) hp, r.up s.gg⟩
  | mk ds =>
    obtain ⟨p, vs, e, ow, hp, r⟩ := h
    exact ⟨p, vs, e, ow.stp hp s, s.hh p _ ow.2.2 (fun _ z => by cases z) hp, r.up s.gg⟩
  | mn ds =>
    obtain ⟨p, vs, e, ow, hp, r⟩ := h
    exact ⟨p, vs, e, ow.stp hp s, s.hh p _ ow.2.2 (fun _ z => by cases z) hp, r.up s.gg⟩
  | box => exact h
  | fn F vws ds =>
    obtain ⟨f, e, h1, h2, r⟩ := h
    refine ⟨f, e, s.hh f _ (ok.nbF h1 fun _ z => by unfold NdefX.FnO at z; cases z) NdefX.fnO_ne h1, s.hh F.c _ (ok.nbF h2 fun _ z => by unfold LamX.CodeO at z; cases z) (fun _ z => by unfold LamX.CodeO at z; cases z) h2, r.up s.gg⟩
  | rs C ns ds =>
    obtain ⟨p, dx, fs, e, ow, hp, hn, r⟩ := h
    refine ⟨p, dx, fs, e, ⟨ow.1, ?_, ow.2.2⟩, s.hh p _ ow.2.2 (fun _ z => by cases z) hp, hn, r.up s.gg⟩
    cases q : G' p with
    | none => rfl
    | some u =>
      rcases s.nw p u q with z | z
      · rw [ow.2.1] at z; cases z
      · rw [hp] at z; cases z
  | ro C ns ds =>
    obtain ⟨p, dx, fs, e, ow, hp, hn, r⟩ := h
    exact ⟨p, dx, fs, e, ow.stp hp s, s.hh p _ ow.2.2 (fun _ z => by cases z) hp, hn, r.up s.gg⟩
theorem Rel.stp (r : Rel c G0 H0 ρ σ G H) (s : Stp c G H G' H') : Rel c G0 H0 ρ σ G' H' :=
  ⟨r.st.trans s, r.len, fun i cl e => let ⟨v, h1, h2⟩ := r.slot i cl e; ⟨v, h1, h2.stp r.st.ok s⟩, r.sep⟩
theorem Rel.dat (r : Rel c G0 H0 ρ σ G H) {i : Nat} {d : D} (h : ρ[i]? = some (some (.dat d))) : ∃ v, σ[i]? = some (some v) ∧ Rp c.K G d v := r.slot i _ h
theorem Rel.ok (r : Rel c G0 H0 ρ σ G H) : Ok c G H := r.st.ok
/-- forgetting -/
inductive Wk : Env → Env → Prop
  | nil : Wk [] []
  | keep {x : Option Cell} {a b : Env} : Wk a b → Wk (x :: a) (x :: b)
  | drop {x : Option Cell} {a b : Env} : Wk a b → Wk (x :: a) (none :: b)
theorem Wk.refl : ∀ a : Env, Wk a a
  | [] => .nil
  | _ :: a => .keep (Wk.refl a)
theorem Wk.length : ∀ {a b : Env}, Wk a b → a.length = b.length
  | _, _, .nil => rfl
  | _, _, .keep h => by rw [List.length_cons, List.length_cons, Wk.length h]
  | _, _, .drop h => by rw [List.length_cons, List.length_cons, Wk.length h]
theorem Wk.get : ∀ {a b : Env} {i : Nat} {cl : Cell}, Wk a b → b[i]? = some (some cl) → a[i]? = some (some cl)
  | _, _, _, _, .nil, e => e
  | _, _, 0, _, .keep h, e => e
  | _, _, i + 1, _, .keep h, e => by
    rw [List.getElem?_cons_succ] at e ⊢
    exact Wk.get h e
  | _, _, 0, _, .drop h, e => by simp at e
  | _, _, i + 1, _, .drop h, e => by
    rw [List.getElem?_cons_succ] at e ⊢
    exact Wk.get h e
theorem Rel.wk {ρ' : Env} (r : Rel c G0 H0 ρ σ G H) (w : Wk ρ ρ') : Rel c G0 H0 ρ' σ G H :=
  ⟨r.st, r.len.trans w.length, fun i cl e => r.slot i cl (w.get e), fun i j ci cj n e1 e2 m1 m2 => r.sep i j ci cj n (w.get e1) (w.get e2) m1 m2⟩
/-- a slot takes data -/
theorem Rel.setD (r : Rel c G0 H0 ρ σ G H) {i : Nat} {d : D} {v : V} (h : Rp c.K G d v) : Rel c G0 H0 (ρ.set i (some (.dat d))) (σ.set i (some v)) G H := by
  refine ⟨r.st, by simp [r.len], fun j cl e => ?_, fun j k cj ck n e1 e2 m1 m2 => ?_⟩
  · by_cases hj : i = j
    · subst hj
      have hi : i < ρ.length := by
        have := (List.getElem?_eq_some_iff.mp e).1
        simpa using this
      rw [List.getElem?_set_self hi] at e
      obtain rfl : Cell.dat d = cl := Option.some.inj (Option.some.inj e)
      exact ⟨v, by rw [List.getElem?_set_self (by rw [r.len]; exact hi)], h⟩
    · rw [List.getElem?_set_ne hj] at e ⊢
      exact r.slot j cl e
  · have nm : ∀ {m cl}, (ρ.set i (some (Cell.dat d)))[m]? = some (some cl) → cl.mu = true → i ≠ m := fun {m cl} e mu z => by
      subst z
      have hi : i < ρ.length := by
        have := (List.getElem?_eq_some_iff.mp e).1
        simpa using this
      rw [List.getElem?_set_self hi] at e
      obtain rfl : Cell.dat d = cl := Option.some.inj (Option.some.inj e)
      cases mu
    have n1 := nm e1 m1
    have n2 := nm e2 m2
    rw [List.getElem?_set_ne n1] at e1 ⊢
    rw [List.getElem?_set_ne n2] at e2 ⊢
    exact r.sep j k cj ck n e1 e2 m1 m2
end
end Fx
/-! text FxEv -/
namespace Fx
open PySem L2 Evl

/-! ### what evaluates to what -/
def Ev (c : Ct) (te : TE) (ρ : Env) (k : D → Prop) : Prop :=
  ∀ G0 H0 σ G H, Rel c G0 H0 ρ σ G H → ∀ Q : VK, (∀ d v G' H', k d → Stp c G H G' H' → Rp c.K G' d v → Q v H') → te σ H Q
abbrev EvE (c : Ct) (te : TE) (ρ : Env) (d : D) : Prop := Ev c te ρ (fun x => x = d)
def EvA (c : Ct) (ta : TA) (ρ : Env) (k : List D → Prop) : Prop :=
  ∀ G0 H0 σ G H, Rel c G0 H0 ρ σ G H → ∀ Q : List V → Hp → Prop, (∀ ds vs G' H', k ds → Stp c G H G' H' → RpL c.K G' ds vs → Q vs H') → ta σ H Q
abbrev EvAE (c : Ct) (ta : TA) (ρ : Env) (ds : List D) : Prop := EvA c ta ρ (fun x => x = ds)
def EvB (c : Ct) (tt : TT) (ρ : Env) (k : Bool → Prop) : Prop :=
  ∀ G0 H0 σ G H, Rel c G0 H0 ρ σ G H → ∀ Q : Bool → Hp → Prop, (∀ b G' H', k b → Stp c G H G' H' → Q b H') → tt σ H Q
abbrev EvT (c : Ct) (tt : TT) (ρ : Env) (b : Bool) : Prop := EvB c tt ρ (fun x => x = b)
def EvO (c : Ct) (to : TO) (ρ : Env) (o : Option Int) : Prop :=
  ∀ G0 H0 σ G H, Rel c G0 H0 ρ σ G H → ∀ Q : Option Int → Hp → Prop, (∀ G' H', Stp c G H G' H' → Q o H') → to σ H Q
def ROp (c : Ct) (r : R2) (x y : D) (k : D → Prop) : Prop :=
  ∀ G H, Ok c G H → ∀ v u, Rp c.K G x v → Rp c.K G y u → ∀ Q : VK, (∀ d w G' H', k d → Stp c G H G' H' → Rp c.K G' d w → Q w H') → r v u H Q
abbrev ROpE (c : Ct) (r : R2) (x y : D) (d : D) : Prop := ROp c r x y (fun z => z = d)
def RUn (c : Ct) (r : V → Hp → VK → Prop) (x : D) (k : D → Prop) : Prop :=
  ∀ G H, Ok c G H → ∀ v, Rp c.K G x v → ∀ Q : VK, (∀ d w G' H', k d → Stp c G H G' H' → Rp c.K G' d w → Q w H') → r v H Q
def RCl (c : Ct) (r : List V → Hp → VK → Prop) (xs : List D) (k : D → Prop) : Prop :=
  ∀ G H, Ok c G H → ∀ vs, RpL c.K G xs vs → ∀ Q : VK, (∀ d w G' H', k d → Stp c G H G' H' → Rp c.K G' d w → Q w H') → r vs H Q
abbrev RClE (c : Ct) (r : List V → Hp → VK → Prop) (xs : List D) (d : D) : Prop := RCl c r xs (fun z => z = d)

section
variable {c : Ct} {ρ : Env} {te ta tb tc' : TE} {x y z d : D} {k : D → Prop} {i : Nat}

theorem Ev.imp {k' : D → Prop} (h : Ev c te ρ k) (f : ∀ d, k d → k' d) : Ev c te ρ k' := fun G0 H0 σ G H r Q q => h G0 H0 σ G H r Q fun d v G' H' kd => q d v G' H' (f d kd)
theorem EvE.to (h : EvE c te ρ x) (e : x = y) : EvE c te ρ y := e ▸ h
theorem Ev.ofE (h : EvE c te ρ x) (hk : k x) : Ev c te ρ k := h.imp fun d e => e ▸ hk
theorem EvA.imp {ta : TA} {k k' : List D → Prop} (h : EvA c ta ρ k) (f : ∀ d, k d → k' d) : EvA c ta ρ k' := fun G0 H0 σ G H r Q q => h G0 H0 σ G H r Q fun d v G' H' kd => q d v G' H' (f d kd)
theorem EvB.imp {tt : TT} {k k' : Bool → Prop} (h : EvB c tt ρ k) (f : ∀ d, k d → k' d) : EvB c tt ρ k' := fun G0 H0 σ G H r Q q => h G0 H0 σ G H r Q fun d G' H' kd => q d G' H' (f d kd)
theorem EvT.to {tt : TT} {a b : Bool} (h : EvT c tt ρ a) (e : a = b) : EvT c tt ρ b := e ▸ h
theorem Ev.wk {ρ' : Env} (h : Ev c te ρ' k) (w : Wk ρ ρ') : Ev c te ρ k := fun G0 H0 σ G H r Q q => h G0 H0 σ G H (r.wk w) Q q

/-! ### names, constants -/
theorem ev_var (h : ρ[i]? = some (some (.dat d))) : EvE c (tVar i) ρ d := fun G0 H0 σ G H r Q q => by
  obtain ⟨v, h1, h2⟩ := r.dat h
  exact ⟨v, h1, q d v G H rfl (.refl r.ok) h2⟩
theorem ev_box (h : ρ[i]? = some (some .box)) (b : Addr) (hb : c.B = some b) : EvE c (tVar i) ρ (.raw (.ref b)) := fun G0 H0 σ G H r Q q => by
  obtain ⟨v, h1, b', h2, h3⟩ := r.slot i _ h
  have e : b' = b := Option.some.inj (h2.symm.trans hb)
  subst e h3
  exact ⟨_, h1, q _ _ G H rfl (.refl r.ok) (.raw _)⟩
theorem ev_c {v : V} (h : ∀ G, Rp c.K G d v) : EvE c (tC v) ρ d := fun G0 H0 σ G H r Q q => q d v G H rfl (.refl r.ok) (h G)
theorem ev_int {n : Int} : EvE c (tC (.int n)) ρ (.int n) := ev_c fun _ => .int n
theorem ev_str {n : Str} : EvE c (tC (.str n)) ρ (.str n) := ev_c fun _ => .str n
theorem ev_bl {n : Bool} : EvE c (tC (.bl n)) ρ (.bl n) := ev_c fun _ => .bl n
theorem ev_non : EvE c (tC .non) ρ .non := ev_c fun _ => .non
theorem ev_raw {v : V} : EvE c (tC v) ρ (.raw v) := ev_c fun _ => .raw v

/-! ### operators -/
theorem ev_op {r : R2} {ka : D → Prop} {kb : D → D → Prop} (ha : Ev c ta ρ ka) (hb : ∀ x, ka x → Ev c tb ρ (kb x)) (hr : ∀ x y, ka x → kb x y → ROp c r x y k) : Ev c (tOp r ta tb) ρ k := fun G0 H0 σ G H rel Q q => by
  refine ha _ _ _ _ _ rel _ fun x v G1 H1 kx s1 rx => ?_
  refine hb x kx _ _ _ _ _ (rel.stp s1) _ fun y u G2 H2 ky s2 ry => ?_
  exact hr x y kx ky G2 H2 s2.ok v u (rx.up s2.gg) ry Q fun d w G' H' kd s3 rd => q d w G' H' kd ((s1.trans s2).trans s3) rd
theorem ev_opE {r : R2} (ha : EvE c ta ρ x) (hb : EvE c tb ρ y) (hr : ROp c r x y k) : Ev c (tOp r ta tb) ρ k :=
  ev_op (kb := fun _ z => z = y) ha (fun _ _ => hb) fun _ _ e1 e2 => e1 ▸ e2 ▸ hr
theorem ev_un {r : V → Hp → VK → Prop} (ha : EvE c ta ρ x) (hr : RUn c r x k) : Ev c (tUn r ta) ρ k := fun G0 H0 σ G H rel Q q => by
  refine ha _ _ _ _ _ rel _ fun x' v G1 H1 kx s1 rx => ?_
  subst kx
  exact hr G1 H1 s1.ok v rx Q fun d w G' H' kd s3 rd => q d w G' H' kd (s1.trans s3) rd
/-- an operator that answers without a heap -/
theorem rop_pure {r : R2} {v u w : V} (hx : ∀ G v', Rp c.K G x v' → v' = v) (hy : ∀ G v', Rp c.K G y v' → v' = u) (hd : ∀ G, Rp c.K G d w) (h : ∀ H (Q : VK), Q w H → r v u H Q) : ROpE c r x y d := fun G H ok v' u' rx ry Q q => by
  rw [hx G v' rx, hy G u' ry]
  exact h H Q (q d w G H rfl (.refl ok) (hd G))
theorem is_int {K : PySem.W.Frag} {n : Int} : ∀ G v', Rp K G (.int n) v' → v' = .int n := fun _ _ h => by cases h; rfl
theorem is_str {K : PySem.W.Frag} {n : Str} : ∀ G v', Rp K G (.str n) v' → v' = .str n := fun _ _ h => by cases h; rfl
theorem is_bl {K : PySem.W.Frag} {n : Bool} : ∀ G v', Rp K G (.bl n) v' → v' = .bl n := fun _ _ h => by cases h; rfl
theorem is_non {K : PySem.W.Frag} : ∀ G v', Rp K G .non v' → v' = .non := fun _ _ h => by cases h; rfl
theorem is_raw {K : PySem.W.Frag} {n : V} : ∀ G v', Rp K G (.raw n) v' → v' = n := fun _ _ h => by cases h; rfl
theorem rop_I {C : Int → Int → Prop} {f : Int → Int → Int} {i j : Int} (hC : C i j) : ROpE c (rI C fun i j => .int (f i j)) (.int i) (.int j) (.int (f i j)) :=
  rop_pure is_int is_int (fun _ => .int _) fun H Q q => ⟨i, j, rfl, rfl, hC, q⟩
theorem rop_I0 {f : Int → Int → Int} {i j : Int} : ROpE c (rI0 fun i j => .int (f i j)) (.int i) (.int j) (.int (f i j)) :=
  rop_pure is_int is_int (fun _ => .int _) fun H Q q => ⟨i, j, rfl, rfl, q⟩
theorem rop_B0 {f : Int → Int → Bool} {i j : Int} : ROpE c (rI0 fun i j => .bl (f i j)) (.int i) (.int j) (.bl (f i j)) :=
  rop_pure is_int is_int (fun _ => .bl _) fun H Q q => ⟨i, j, rfl, rfl, q⟩
theorem rop_eqI {i j : Int} : ROpE c rEq (.int i) (.int j) (.bl (decide (i = j))) :=
  rop_pure is_int is_int (fun _ => .bl _) fun H Q q => ⟨rfl, by rw [dec_int, Bool.beq_eq_decide_eq]; exact q⟩
theorem rop_neI {i j : Int} : ROpE c rNe (.int i) (.int j) (.bl (!decide (i = j))) :=
  rop_pure is_int is_int (fun _ => .bl _) fun H Q q => ⟨rfl, by rw [dec_int, Bool.beq_eq_decide_eq]; exact q⟩
theorem rop_eqS {i j : Str} : ROpE c rEq (.str i) (.str j) (.bl (decide (i = j))) :=
  rop_pure is_str is_str (fun _ => .bl _) fun H Q q => ⟨rfl, by rw [show decide (V.str i = V.str j) = decide (i = j) by simp]; exact q⟩
theorem rop_neS {i j : Str} : ROpE c rNe (.str i) (.str j) (.bl (!decide (i = j))) :=
  rop_pure is_str is_str (fun _ => .bl _) fun H Q q => ⟨rfl, by rw [show decide (V.str i = V.str j) = decide (i = j) by simp]; exact q⟩
theorem rop_eqB {i j : Bool} : ROpE c rEq (.bl i) (.bl j) (.bl (decide (i = j))) :=
  rop_pure is_bl is_bl (fun _ => .bl _) fun H Q q => ⟨rfl, by rw [show decide (V.bl i = V.bl j) = decide (i = j) by simp]; exact q⟩
theorem rop_neB {i j : Bool} : ROpE c rNe (.bl i) (.bl j) (.bl (!decide (i = j))) :=
  rop_pure is_bl is_bl (fun _ => .bl _) fun H Q q => ⟨rfl, by rw [show decide (V.bl i = V.bl j) = decide (i = j) by simp]; exact q⟩
/-- text + text -/
def rAddT : R2 := fun x y H Q => ∃ i j, x = .str i ∧ y = .str j ∧ i.length + j.length ≤ sizeLine ∧ Q (.str (i ++ j)) H
theorem op_addT {X : Cx} : OpR X (binaryOp .Add) rAddT := op_add_str
theorem rop_addT {i j : Str} (h : i.length + j.length ≤ sizeLine) : ROpE c rAddT (.str i) (.str j) (.str (i ++ j)) :=
  rop_pure is_str is_str (fun _ => .str _) fun H Q q => ⟨i, j, rfl, rfl, h, q⟩
/-- one sign in a text -/
def rInC : R2 := fun x y H Q => ∃ (c : Nat) (z : Str), x = .str ⟨#[c]⟩ ∧ y = .str z ∧ Q (.bl (decide (c ∈ z.cps.toList))) H
theorem op_inC {X : Cx} : OpR X (compareOp .In) rInC := op_in_sign
theorem rop_inC {a : Nat} {z : Str} : ROpE c rInC (.str ⟨#[a]⟩) (.str z) (.bl (decide (a ∈ z.cps.toList))) :=
  rop_pure is_str is_str (fun _ => .bl _) fun H Q q => ⟨a, z, rfl, rfl, q⟩
/-- is None, is not None -/
def rIsNn : R2 := fun x y H Q => y = .non ∧ Q (.bl (decide (x = .non))) H
def rNotNn : R2 := fun x y H Q => y = .non ∧ Q (.bl (!decide (x = .non))) H
theorem op_isNn {X : Cx} : OpR X (compareOp .Is) rIsNn := op_isN
theorem op_notNn {X : Cx} : OpR X (compareOp .IsNot) rNotNn := op_notN
def D.isN : D → Bool
  | .non => true
  | .raw v => decide (v = .non)
  | _ => false
theorem D.isN_of {K : PySem.W.Frag} {G : Hp} {d : D} {v : V} (h : Rp K G d v) : decide (v = .non) = d.isN := by
  cases h <;> first | rfl | simp [D.isN]
theorem rop_isN : ROpE c rIsNn x .non (.bl x.isN) := fun G H ok v u rx ry Q q => by
  cases ry
  exact ⟨rfl, by rw [D.isN_of rx]; exact q _ _ G H rfl (.refl ok) (.bl _)⟩
theorem rop_notN : ROpE c rNotNn x .non (.bl (!x.isN)) := fun G H ok v u rx ry Q q => by
  cases ry
  exact ⟨rfl, by rw [D.isN_of rx]; exact q _ _ G H rfl (.refl ok) (.bl _)⟩
theorem run_neg {n : Int} : RUn c (rU fun i => .int (-i)) (.int n) (fun d => d = .int (-n)) := fun G H ok v rx Q q => by
  cases rx
  exact ⟨n, rfl, q _ _ G H rfl (.refl ok) (.int _)⟩

/-! ### subscripts -/
theorem atI_get' {α : Type} {xs : List α} {i : Int} {v : α} (h : atI xs i = some v) : ∃ j, ixN xs.length i = some j ∧ xs[j]? = some v := by
  unfold atI at h
  cases e : ixN xs.length i with
  | none => rw [e] at h; cases h
  | some j => rw [e] at h; exact ⟨j, rfl, h⟩
theorem RpL.atI {K : PySem.W.Frag} {G : Hp} {ds : List D} {vs : List V} {i : Int} {d : D} (h : RpL K G ds vs) (e : atI ds i = some d) : ∃ v, L2.atI vs i = some v ∧ Rp K G d v := by
  obtain ⟨j, e1, e2⟩ := atI_get' e
  obtain ⟨v, h1, h2⟩ := h.get e2
  refine ⟨v, ?_, h2⟩
  unfold L2.atI
  rw [← h.len, e1]
  exact h1
theorem rop_ixL {ds : List D} {i : Int} (e : L2.atI ds i = some d) : ROpE c (rIxL c.K) (.lst ds) (.int i) d := fun G H ok v u rx ry Q q => by
  obtain ⟨a, vs, rfl, ha, hl⟩ := rx.list
  cases ry
  obtain ⟨w, h1, h2⟩ := hl.atI e
  exact ⟨a, vs, i, w, rfl, rfl, SqL.of (ok.gh _ _ ha), h1, q d w G H rfl (.refl ok) h2⟩
theorem rop_ixT {ds : List D} {i : Int} (e : L2.atI ds i = some d) : ROpE c (rIxT c.K) (.tup ds) (.int i) d := fun G H ok v u rx ry Q q => by
  obtain ⟨a, vs, rfl, ha, hl⟩ := rx.tuple
  cases ry
  obtain ⟨w, h1, h2⟩ := hl.atI e
  exact ⟨a, vs, i, w, rfl, rfl, SqT.of (ok.gh _ _ ha), h1, q d w G H rfl (.refl ok) h2⟩
theorem rop_ixR {ns : List Int} {i n : Int} (e : L2.atI ns i = some n) : ROpE c (rIxL c.K) (.scr ns) (.int i) (.int n) := fun G H ok v u rx ry Q q => by
  cases ry
  cases rx with
  | @scr a _ h =>
    have e2 : L2.atI (ns.map V.int) i = some (V.int n) := by
      obtain ⟨j, e1, e2⟩ := atI_get' e
      unfold L2.atI
      rw [List.length_map, e1]
      show (ns.map V.int)[j]? = _
      rw [List.getElem?_map, e2]
      rfl
    exact ⟨a, _, i, _, rfl, rfl, ex_l ok.gh h, e2, q _ _ G H rfl (.refl ok) (.int n)⟩
theorem rop_ixS {z : Str} {i : Int} {a : Nat} (hz : z.length ≤ sizeLine) (e : L2.atI z.cps.toList i = some a) : ROpE c rIxS (.str z) (.int i) (.str ⟨#[a]⟩) :=
  rop_pure is_str is_int (fun _ => .str _) fun H Q q => ⟨z, i, a, rfl, rfl, hz, e, q⟩
theorem at_nat {α : Type} {xs : List α} {j : Nat} {v : α} (h : xs[j]? = some v) : L2.atI xs (j : Int) = some v := atI_nat h

/-! ### argument lists, displays -/
theorem ea_nil : EvAE c tNil ρ [] := fun G0 H0 σ G H r Q q => q [] [] G H rfl (.refl r.ok) .nil
theorem ea_cons {tr : TA} {ds : List D} (h : EvE c ta ρ d) (hr : EvAE c tr ρ ds) : EvAE c (tCons ta tr) ρ (d :: ds) := fun G0 H0 σ G H r Q q => by
  refine h _ _ _ _ _ r _ fun x v G1 H1 kx s1 rx => ?_
  refine hr _ _ _ _ _ (r.stp s1) _ fun xs vs G2 H2 kxs s2 rxs => ?_
  subst kx kxs
  exact q _ _ G2 H2 rfl (s1.trans s2) (.cons (rx.up s2.gg) rxs)
/-- .. of values that are told by a word -/
theorem ea_consK {tr : TA} {ka : D → Prop} {kr : D → List D → Prop} {kk : List D → Prop} (h : Ev c ta ρ ka) (hr : ∀ x, ka x → EvA c tr ρ (kr x)) (hk : ∀ x xs, ka x → kr x xs → kk (x :: xs)) : EvA c (tCons ta tr) ρ kk := fun G0 H0 σ G H r Q q => by
  refine h _ _ _ _ _ r _ fun x v G1 H1 kx s1 rx => ?_
  refine hr x kx _ _ _ _ _ (r.stp s1) _ fun xs vs G2 H2 kxs s2 rxs => ?_
  exact q _ _ G2 H2 (hk x xs kx kxs) (s1.trans s2) (.cons (rx.up s2.gg) rxs)
theorem sz_ok {n : Nat} (h : n ≤ 100000) : n ≤ sizeLine := Nat.le_trans h (by decide)
theorem ev_tup {ta : TA} {ds : List D} (h : EvAE c ta ρ ds) (hl : ds.length ≤ 100000 := by simp) : EvE c (tTup ta) ρ (.tup ds) := fun G0 H0 σ G H r Q q => by
  refine h _ _ _ _ _ r _ fun x vs G1 H1 kx s1 rx => ?_
  subst kx
  refine ⟨by rw [← rx.len]; exact sz_ok hl, fun p hp => ?_⟩
  have s2 := Stp.lay (o := .tup vs) s1.ok hp
  exact q _ _ _ _ rfl (s1.trans s2) (.tup upd_same (rx.up s2.gg))
theorem ev_lst {ta : TA} {ds : List D} (h : EvAE c ta ρ ds) (hl : ds.length ≤ 100000 := by simp) : EvE c (tLst ta) ρ (.lst ds) := fun G0 H0 σ G H r Q q => by
  refine h _ _ _ _ _ r _ fun x vs G1 H1 kx s1 rx => ?_
  subst kx
  refine ⟨by rw [← rx.len]; exact sz_ok hl, fun p hp => ?_⟩
  have s2 := Stp.lay (o := .lst vs) s1.ok hp
  exact q _ _ _ _ rfl (s1.trans s2) (.lst upd_same (rx.up s2.gg))

/-! ### built-ins by their values -/
theorem ev_cb {r : List V → Hp → VK → Prop} {ta : TA} {ka : List D → Prop} (h : EvA c ta ρ ka) (hr : ∀ xs, ka xs → RCl c r xs k) : Ev c (tCB r ta) ρ k := fun G0 H0 σ G H rel Q q => by
  refine h _ _ _ _ _ rel _ fun x vs G1 H1 kx s1 rx => ?_
  exact hr x kx G1 H1 s1.ok vs rx Q fun d w G' H' kd s2 rd => q d w G' H' kd (s1.trans s2) rd
theorem ev_cbE {r : List V → Hp → VK → Prop} {ta : TA} {xs : List D} (h : EvAE c ta ρ xs) (hr : RCl c r xs k) : Ev c (tCB r ta) ρ k := ev_cb h fun _ e => e ▸ hr
theorem RpL.one {K : PySem.W.Frag} {G : Hp} {d : D} {vs : List V} (h : RpL K G [d] vs) : ∃ v, vs = [v] ∧ Rp K G d v := by
  cases h with
  | cons a b => cases b; exact ⟨_, rfl, a⟩
theorem RpL.two {K : PySem.W.Frag} {G : Hp} {d e : D} {vs : List V} (h : RpL K G [d, e] vs) : ∃ v u, vs = [v, u] ∧ Rp K G d v ∧ Rp K G e u := by
  cases h with
  | cons a b =>
    obtain ⟨u, rfl, h2⟩ := b.one
    exact ⟨_, u, rfl, a, h2⟩
def rLenF (K : PySem.W.Frag) : List V → Hp → VK → Prop := fun xs H Q => ∃ x n, xs = [x] ∧ LenV K x H n ∧ Q (.int n) H
theorem call_lenF {X : Cx} : CallR X (.builtin "len") (rLenF X.K) := call_len
theorem rcl_lenL {ds : List D} : RClE c (rLenF c.K) [.lst ds] (.int ds.length) := fun G H ok vs r Q q => by
  obtain ⟨v, rfl, h⟩ := r.one
  obtain ⟨a, vs, rfl, ha, hl⟩ := h.list
  exact ⟨_, vs.length, rfl, .inl ⟨vs, SqL.of (ok.gh _ _ ha), rfl⟩, q _ _ G H rfl (.refl ok) (by rw [← hl.len]; exact .int _)⟩
theorem rcl_lenT {ds : List D} : RClE c (rLenF c.K) [.tup ds] (.int ds.length) := fun G H ok vs r Q q => by
  obtain ⟨v, rfl, h⟩ := r.one
  obtain ⟨a, vs, rfl, ha, hl⟩ := h.tuple
  exact ⟨_, vs.length, rfl, .inr ⟨vs, SqT.of (ok.gh _ _ ha), rfl⟩, q _ _ G H rfl (.refl ok) (by rw [← hl.len]; exact .int _)⟩
theorem rcl_lenR {ns : List Int} : RClE c (rLenF c.K) [.scr ns] (.int ns.length) := fun G H ok vs r Q q => by
  obtain ⟨v, rfl, h⟩ := r.one
  cases h with
  | scr h => exact ⟨_, _, rfl, .inl ⟨_, ex_l ok.gh h, rfl⟩, q _ _ G H rfl (.refl ok) (by rw [List.length_map]; exact .int _)⟩
theorem rcl_lenS {z : Str} (hz : z.length ≤ sizeLine) : RClE c (rLenF c.K) [.str z] (.int z.length) := fun G H ok vs r Q q => by
  obtain ⟨v, rfl, h⟩ := r.one
  cases h
  exact ⟨_, _, rfl, ⟨hz, rfl⟩, q _ _ G H rfl (.refl ok) (.int _)⟩
/-- len of a list of one's own -/
theorem ev_lenM {ds : List D} (h : ρ[i]? = some (some (.ml ds))) : EvE c (tCB (rLenF c.K) (tCons (tVar i) tNil)) ρ (.int ds.length) := fun G0 H0 σ G H r Q q => by
  obtain ⟨v, h1, p, vs, rfl, ow, hp, hl⟩ := r.slot i _ h
  exact ⟨_, h1, _, vs.length, rfl, .inl ⟨vs, SqL.of hp, rfl⟩, q _ _ G H rfl (.refl r.ok) (by rw [← hl.len]; exact .int _)⟩
/-- an item of a list of one's own -/
theorem ev_ixM {ds : List D} {j : Int} (h : ρ[i]? = some (some (.ml ds))) (hb : EvE c tb ρ (.int j)) (e : L2.atI ds j = some d) : EvE c (tOp (rIxL c.K) (tVar i) tb) ρ d := fun G0 H0 σ G H r Q q => by
  obtain ⟨v, h1, p, vs, rfl, ow, hp, hl⟩ := r.slot i _ h
  refine ⟨_, h1, ?_⟩
  refine hb _ _ _ _ _ r _ fun y u G1 H1 ky s1 ry => ?_
  subst ky
  cases ry
  obtain ⟨w, h2, h3⟩ := hl.atI e
  exact ⟨p, vs, j, w, rfl, rfl, SqL.of (s1.hh p _ ow.2.2 (fun _ z => by cases z) hp), h2, q d w G1 H1 rfl s1 (h3.up s1.gg)⟩
/-- tuple(list), list(list) -/
def rTupF (K : PySem.W.Frag) : List V → Hp → VK → Prop := fun xs H Q => ∃ p ys, xs = [.ref p] ∧ ((SqL K H p ys ∧ ∀ l, H l = none → Q (.ref l) (upd H l (.tup ys))) ∨ (SqT K H p ys ∧ Q (.ref p) H))
theorem call_tupF {X : Cx} : CallR X (.type "tuple") (rTupF X.K) := call_tuple_of
theorem rcl_tupL {ds : List D} : RClE c (rTupF c.K) [.lst ds] (.tup ds) := fun G H ok vs r Q q => by
  obtain ⟨v, rfl, h⟩ := r.one
  obtain ⟨a, vs, rfl, ha, hl⟩ := h.list
  refine ⟨a, vs, rfl, .inl ⟨SqL.of (ok.gh _ _ ha), fun l hl' => ?_⟩⟩
  have s2 := Stp.lay (o := .tup vs) ok hl'
  exact q _ _ _ _ rfl s2 (.tup upd_same (hl.up s2.gg))
def rLstF (K : PySem.W.Frag) : List V → Hp → VK → Prop := fun xs H Q => ∃ p ys, xs = [.ref p] ∧ (SqL K H p ys ∨ SqT K H p ys) ∧ ∀ l, H l = none → Q (.ref l) (upd H l (.lst ys))
theorem call_lstF {X : Cx} : CallR X (.type "list") (rLstF X.K) := call_list_of
theorem rcl_lstL {ds : List D} : RClE c (rLstF c.K) [.lst ds] (.lst ds) := fun G H ok vs r Q q => by
  obtain ⟨v, rfl, h⟩ := r.one
  obtain ⟨a, vs, rfl, ha, hl⟩ := h.list
  refine ⟨a, vs, rfl, .inl (SqL.of (ok.gh _ _ ha)), fun l hl' => ?_⟩
  have s2 := Stp.lay (o := .lst vs) ok hl'
  exact q _ _ _ _ rfl s2 (.lst upd_same (hl.up s2.gg))
/-- max of a list of ints -/
theorem rcl_max {ns : List Int} {m : Int} (h0 : 0 < ns.length) (hm : ∀ y, y ∈ ns → (∀ x, x ∈ ns → x ≤ y) → y = m) : RClE c (rMax c.K) [.lst (ns.map D.int)] (.int m) := fun G H ok vs r Q q => by
  obtain ⟨v, rfl, h⟩ := r.one
  obtain ⟨a, vs, rfl, ha, hl⟩ := h.list
  have e := hl.ints ns
  subst e
  exact ⟨a, ns, rfl, SqL.of (ok.gh _ _ ha), h0, fun y hy hle => by rw [hm y hy hle]; exact q _ _ G H rfl (.refl ok) (.int m)⟩
theorem rcl_all {bs : List Bool} : RClE c (rAll c.K) [.lst (bs.map D.bl)] (.bl (bs.all id)) := fun G H ok vs r Q q => by
  obtain ⟨v, rfl, h⟩ := r.one
  obtain ⟨a, vs, rfl, ha, hl⟩ := h.list
  have e := hl.bls bs
  subst e
  exact ⟨a, bs, rfl, SqL.of (ok.gh _ _ ha), q _ _ G H rfl (.refl ok) (.bl _)⟩
def rAbsF : List V → Hp → VK → Prop := fun xs H Q => ∃ i, xs = [.int i] ∧ Q (.int (if i < 0 then -i else i)) H
theorem call_absF {X : Cx} : CallR X (.builtin "abs") rAbsF := call_abs
theorem rcl_abs {n : Int} : RClE c rAbsF [.int n] (.int (if n < 0 then -n else n)) := fun G H ok vs r Q q => by
  obtain ⟨v, rfl, h⟩ := r.one
  cases h
  exact ⟨n, rfl, q _ _ G H rfl (.refl ok) (.int _)⟩
def rIntF : List V → Hp → VK → Prop := fun xs H Q => (∃ i, xs = [.int i] ∧ Q (.int i) H) ∨ ∃ k, xs = [.bl k] ∧ Q (.int (if k then 1 else 0)) H
theorem call_intF {X : Cx} : CallR X (.type "int") rIntF := call_int1
theorem rcl_intI {n : Int} : RClE c rIntF [.int n] (.int n) := fun G H ok vs r Q q => by
  obtain ⟨v, rfl, h⟩ := r.one
  cases h
  exact .inl ⟨n, rfl, q _ _ G H rfl (.refl ok) (.int _)⟩
theorem rcl_intB {b : Bool} : RClE c rIntF [.bl b] (.int (if b then 1 else 0)) := fun G H ok vs r Q q => by
  obtain ⟨v, rfl, h⟩ := r.one
  cases h
  exact .inr ⟨b, rfl, q _ _ G H rfl (.refl ok) (.int _)⟩
/-- isinstance of data against a built-in class -/
def D.tyn : D → Option String
  | .non => some "NoneType"
  | .bl _ => some "bool"
  | .int _ => some "int"
  | .str _ => some "str"
  | .lst _ => some "list"
  | .tup _ => some "tuple"
  | _ => none
theorem D.tyX {K : PySem.W.Frag} {G H : Hp} {d : D} {v : V} {t : String} (e : d.tyn = some t) (h : Rp K G d v) (g : Ex G H) : TyX K H v (.type t) := by
  cases h with
  | non => cases e; exact .base .non
  | bl b => cases e; exact .base (.bl b)
  | int b => cases e; exact .base (.int b)
  | str b => cases e; exact .base (.str b)
  | lst h1 h2 => cases e; exact .base (.lst (g _ _ h1))
  | tup h1 h2 => cases e; exact .base (.tup (g _ _ h1))
  | obj h1 h2 h3 => cases e
  | raw v => cases e
  | scr h => cases e
theorem rcl_isi {t n : String} {b : Bool} (e : d.tyn = some t) (hk : kitB t n = some b) : RClE c (rIsi c.K) [d, .raw (.ty n)] (.bl b) := fun G H ok vs r Q q => by
  obtain ⟨v, u, rfl, h1, h2⟩ := r.two
  cases h2
  exact ⟨v, .ty n, .type t, .type n, b, rfl, .ty n, D.tyX e h1 ok.gh, kit_ty hk, q _ _ G H rfl (.refl ok) (.bl b)⟩

/-! ### tests -/
theorem et_test {b : Bool} (h : EvE c te ρ (.bl b)) : EvT c (tTest te) ρ b := fun G0 H0 σ G H r Q q => by
  refine h _ _ _ _ _ r _ fun x v G1 H1 kx s1 rx => ?_
  subst kx
  cases rx
  exact ⟨b, rfl, q b G1 H1 rfl s1⟩
theorem et_B {b : Bool} (h : EvE c te ρ (.bl b)) : EvT c (tB te) ρ b := fun G0 H0 σ G H r Q q => by
  refine h _ _ _ _ _ r _ fun x v G1 H1 kx s1 rx => ?_
  subst kx
  cases rx
  exact ⟨b, rfl, q b G1 H1 rfl s1⟩
/-- a test of a value told by a word -/
theorem eb_test {kb : Bool → Prop} (h : Ev c te ρ (fun d => ∃ b, d = .bl b ∧ kb b)) : EvB c (tTest te) ρ kb := fun G0 H0 σ G H r Q q => by
  refine h _ _ _ _ _ r _ fun x v G1 H1 kx s1 rx => ?_
  obtain ⟨b, rfl, hb⟩ := kx
  cases rx
  exact ⟨b, rfl, q b G1 H1 hb s1⟩
theorem et_and {t u : TT} {a b : Bool} (h1 : EvT c t ρ a) (h2 : a = true → EvT c u ρ b) : EvT c (tAnd t u) ρ (a && b) := fun G0 H0 σ G H r Q q => by
  refine h1 _ _ _ _ _ r _ fun x G1 H1 kx s1 => ?_
  subst kx
  cases x with
  | true =>
    refine iteT (h2 rfl _ _ _ _ _ (r.stp s1) _ fun y G2 H2 ky s2 => ?_)
    subst ky
    exact q _ G2 H2 rfl (s1.trans s2)
  | false => exact iteF (q _ G1 H1 rfl s1)
theorem et_or {t u : TT} {a b : Bool} (h1 : EvT c t ρ a) (h2 : a = false → EvT c u ρ b) : EvT c (tOr t u) ρ (a || b) := fun G0 H0 σ G H r Q q => by
  refine h1 _ _ _ _ _ r _ fun x G1 H1 kx s1 => ?_
  subst kx
  cases x with
  | false =>
    refine iteF (h2 rfl _ _ _ _ _ (r.stp s1) _ fun y G2 H2 ky s2 => ?_)
    subst ky
    exact q _ G2 H2 rfl (s1.trans s2)
  | true => exact iteT (q _ G1 H1 rfl s1)
/-- and, told by a word -/
theorem eb_and {t u : TT} {k1 k2 k3 : Bool → Prop} (h1 : EvB c t ρ k1) (h2 : k1 true → EvB c u ρ k2) (h3 : k1 false → k3 false) (h4 : ∀ b, k1 true → k2 b → k3 b) : EvB c (tAnd t u) ρ k3 := fun G0 H0 σ G H r Q q => by
  refine h1 _ _ _ _ _ r _ fun x G1 H1 kx s1 => ?_
  cases x with
  | true =>
    refine iteT (h2 kx _ _ _ _ _ (r.stp s1) _ fun y G2 H2 ky s2 => ?_)
    exact q _ G2 H2 (h4 y kx ky) (s1.trans s2)
  | false => exact iteF (q _ G1 H1 (h3 kx) s1)
theorem et_not {t : TT} {a : Bool} (h1 : EvT c t ρ a) : EvT c (tNot t) ρ (!a) := fun G0 H0 σ G H r Q q => by
  refine h1 _ _ _ _ _ r _ fun x G1 H1 kx s1 => ?_
  subst kx
  exact q _ G1 H1 rfl s1
theorem ev_andV {a b : Bool} (h1 : EvE c ta ρ (.bl a)) (h2 : a = true → EvE c tb ρ (.bl b)) : EvE c (tAndV ta tb) ρ (.bl (a && b)) := fun G0 H0 σ G H r Q q => by
  refine h1 _ _ _ _ _ r _ fun x v G1 H1 kx s1 rx => ?_
  subst kx
  cases rx
  refine ⟨a, rfl, ?_⟩
  cases a with
  | true =>
    refine iteT (h2 rfl _ _ _ _ _ (r.stp s1) _ fun y u G2 H2 ky s2 ry => ?_)
    exact q _ u G2 H2 ky (s1.trans s2) ry
  | false => exact iteF (q _ _ G1 H1 rfl s1 (.bl _))
theorem ev_orV {a b : Bool} (h1 : EvE c ta ρ (.bl a)) (h2 : a = false → EvE c tb ρ (.bl b)) : EvE c (tOrV ta tb) ρ (.bl (a || b)) := fun G0 H0 σ G H r Q q => by
  refine h1 _ _ _ _ _ r _ fun x v G1 H1 kx s1 rx => ?_
  subst kx
  cases rx
  refine ⟨a, rfl, ?_⟩
  cases a with
  | false =>
    refine iteF (h2 rfl _ _ _ _ _ (r.stp s1) _ fun y u G2 H2 ky s2 ry => ?_)
    exact q _ u G2 H2 ky (s1.trans s2) ry
  | true => exact iteT (q _ _ G1 H1 rfl s1 (.bl _))
theorem ev_notV {a : Bool} (h1 : EvE c ta ρ (.bl a)) : EvE c (tNotV ta) ρ (.bl (!a)) := fun G0 H0 σ G H r Q q => by
  refine h1 _ _ _ _ _ r _ fun x v G1 H1 kx s1 rx => ?_
  subst kx
  cases rx
  exact ⟨a, rfl, q _ _ G1 H1 rfl s1 (.bl _)⟩
theorem ev_if {t : TT} {b : Bool} (h : EvT c t ρ b) (h1 : b = true → Ev c ta ρ k) (h2 : b = false → Ev c tb ρ k) : Ev c (tIf t ta tb) ρ k := fun G0 H0 σ G H r Q q => by
  refine h _ _ _ _ _ r _ fun x G1 H1 kx s1 => ?_
  subst kx
  cases x with
  | true => exact iteT (h1 rfl _ _ _ _ _ (r.stp s1) _ fun y u G2 H2 ky s2 ry => q y u G2 H2 ky (s1.trans s2) ry)
  | false => exact iteF (h2 rfl _ _ _ _ _ (r.stp s1) _ fun y u G2 H2 ky s2 ry => q y u G2 H2 ky (s1.trans s2) ry)
/-- a comparison of three -/
theorem ev_chain {r1 r2 : R2} {a b : Bool} (hx : EvE c ta ρ x) (hy : EvE c tb ρ y) (h1 : ROpE c r1 x y (.bl a)) (hz : a = true → EvE c tc' ρ z) (h2 : a = true → ROpE c r2 y z (.bl b)) : EvE c (tChain r1 r2 ta tb tc') ρ (.bl (a && b)) := fun G0 H0 σ G H r Q q => by
  refine hx _ _ _ _ _ r _ fun x' v G1 H1 kx s1 rx => ?_
  refine hy _ _ _ _ _ (r.stp s1) _ fun y' u G2 H2 ky s2 ry => ?_
  subst kx ky
  refine h1 G2 H2 s2.ok v u (rx.up s2.gg) ry _ fun d w G3 H3 kd s3 rd => ?_
  subst kd
  cases rd
  refine ⟨a, rfl, ?_⟩
  cases a with
  | true =>
    refine iteT (hz rfl _ _ _ _ _ (((r.stp s1).stp s2).stp s3) _ fun z' w' G4 H4 kz s4 rz => ?_)
    subst kz
    exact h2 rfl G4 H4 s4.ok u w' ((ry.up s3.gg).up s4.gg) rz _ fun d w2 G5 H5 kd s5 rd => q d w2 G5 H5 kd ((((s1.trans s2).trans s3).trans s4).trans s5) rd
  | false => exact iteF (q _ _ G3 H3 rfl ((s1.trans s2).trans s3) (.bl _))

/-! ### attributes of instances -/
theorem look_zip {ns : List Str} {fs : List (Str × V)} {ds : List D} {K : PySem.W.Frag} {G : Hp} {f : Str} (e : fs.map (·.1) = ns) (h : RpL K G ds (fs.map (·.2))) (hd : (ns.zip ds).lookup f = some d) : ∃ v, fs.lookup f = some v ∧ Rp K G d v := by
  subst e
  induction fs generalizing ds with
  | nil => simp at hd
  | cons p fs ih =>
    obtain ⟨n, v⟩ := p
    cases ds with
    | nil => simp at hd
    | cons d' ds =>
      rw [List.map_cons] at h
      cases h with
      | cons a b =>
        rw [List.map_cons, List.zip_cons_cons, List.lookup_cons] at hd
        rw [List.lookup_cons]
        show ∃ v_1, (match f == n with | true => some v | false => List.lookup f fs) = some v_1 ∧ Rp K G d v_1
        cases q : f == n with
        | true =>
          have hd' : some d' = some d := by
            have : (match f == n with | true => some d' | false => List.lookup f ((fs.map (·.1)).zip ds)) = some d := hd
            rw [q] at this
            exact this
          cases hd'
          exact ⟨v, rfl, a⟩
        | false =>
          have hd' : List.lookup f ((fs.map (·.1)).zip ds) = some d := by
            have : (match f == n with | true => some d' | false => List.lookup f ((fs.map (·.1)).zip ds)) = some d := hd
            rw [q] at this
            exact this
          exact ih b hd'
theorem ev_fld {C : Addr} {ns : List Str} {ds : List D} {f : Str} (h : EvE c ta ρ (.obj C ns ds)) (hc : Cls c.K C) (hn : NoAttr c.K C f) (hd : (ns.zip ds).lookup f = some d) : EvE c (tFld c.K ta f) ρ d := fun G0 H0 σ G H r Q q => by
  refine h _ _ _ _ _ r _ fun x v G1 H1 kx s1 rx => ?_
  subst kx
  cases rx with
  | obj h1 h2 h3 =>
    obtain ⟨v, h4, h5⟩ := look_zip h2 h3 hd
    exact ⟨_, C, _, _, v, rfl, s1.ok.gh _ _ h1, hc, hn, h4, q d v G1 H1 rfl s1 h5⟩
theorem ev_fldR {C : Addr} {ns : List Str} {ds : List D} {f : Str} (h : ρ[i]? = some (some (.ro C ns ds))) (hc : Cls c.K C) (hn : NoAttr c.K C f) (hd : (ns.zip ds).lookup f = some d) : EvE c (tFld c.K (tVar i) f) ρ d := fun G0 H0 σ G H r Q q => by
  obtain ⟨v, h1, p, dx, fs, rfl, ow, hp, hf, hl⟩ := r.slot i _ h
  obtain ⟨v, h4, h5⟩ := look_zip hf hl hd
  exact ⟨_, h1, p, C, dx, fs, v, rfl, hp, hc, hn, h4, q d v G H rfl (.refl r.ok) h5⟩
end

/-! ### calls of defs, by their promises -/
def CRs (c : Ct) (H0 G H : Hp) : List Cell → List V → Prop
  | [], [] => True
  | cl :: cls, v :: vs => CR c H0 G H cl v ∧ CRs c H0 G H cls vs
  | _, _ => False
/-- a promise over data: i the arguments, told typed -/
def SpF (c : Ct) {ι : Type} (args : ι → List D) (pre : ι → Prop) (post : ι → D → Prop) : Sp := fun vs H Q _ =>
  ∃ (i : ι) (G : Hp), Ok { c with B := none } G H ∧ RpL c.K G (args i) vs ∧ pre i ∧ ∀ d v G' H', post i d → Stp { c with B := none } G H G' H' → Rp c.K G' d v → Q v H'
section
variable {c : Ct} {ρ : Env}
theorem Ok.noB {G H : Hp} (h : Ok c G H) : Ok { c with B := none } G H := ⟨h.gh, (fun _ z => by cases z), h.tb, h.nt⟩
/-- what a def without the box does leaves the box -/
theorem Stp.withB {G H G' H' : Hp} (ok : Ok c G H) (s : Stp { c with B := none } G H G' H') : Stp c G H G' H' := by
  refine ⟨⟨s.ok.gh, fun b hb => ?_, s.ok.tb, s.ok.nt⟩, s.gg, fun a o _ t h => s.hh a o (fun z => by cases z) t h, s.hn, s.nw⟩
  obtain ⟨h1, r, ns, k, h2, h3, h4⟩ := ok.bx b hb
  refine ⟨?_, r, ns, k, s.hh b _ (fun z => by cases z) (fun _ z => by cases z) h2, h3, h4.up s.gg⟩
  cases q : G' b with
  | none => rfl
  | some u =>
    rcases s.nw b u q with z | z
    · rw [h1] at z; cases z
    · rw [h2] at z; cases z
theorem ev_call {ι : Type} {args : ι → List D} {pre : ι → Prop} {post : ι → D → Prop} {E : XK} {ta : TA} (i : ι) (h : EvAE c ta ρ (args i)) (hp : pre i) : Ev c (tCall (SpF c args pre post) [] E ta) ρ (post i) := fun G0 H0 σ G H r Q q => by
  refine h _ _ _ _ _ r _ fun x vs G1 H1 kx s1 rx => ?_
  subst kx
  show SpF c args pre post (vs ++ []) H1 Q E
  rw [List.append_nil]
  exact ⟨i, G1, s1.ok.noB, rx, hp, fun d v G' H' pd s2 rd => q d v G' H' pd (s1.trans (s2.withB s1.ok)) rd⟩
theorem ev_callE {ι : Type} {args : ι → List D} {pre : ι → Prop} {f : ι → D} {E : XK} {ta : TA} (i : ι) (h : EvAE c ta ρ (args i)) (hp : pre i) : EvE c (tCall (SpF c args pre fun i d => d = f i) [] E ta) ρ (f i) := ev_call i h hp
end
end Fx
/-! text FxLoop -/
namespace Fx
open PySem L2 Evl

/-! ### an own object is written, frozen -/
/-- neither a table nor a code object nor a function: what an own cell holds -/
structure Plain (p : Addr) (o : HO) : Prop where
  t : ∀ ps, o ≠ .tbl ps
  c : ∀ q, o ≠ LamX.CodeO p q
  f : ∀ F, o ≠ NdefX.FnO p F
theorem plain_lst {p : Addr} {xs : List V} : Plain p (.lst xs) := ⟨(fun _ z => by cases z), (fun _ z => by unfold LamX.CodeO at z; cases z), fun _ z => by unfold NdefX.FnO at z; cases z⟩
theorem plain_dK {p : Addr} {xs : List (Key × V)} : Plain p (.dK xs) := ⟨(fun _ z => by cases z), (fun _ z => by unfold LamX.CodeO at z; cases z), fun _ z => by unfold NdefX.FnO at z; cases z⟩
theorem plain_ins {p C dx : Addr} {fs : List (Str × V)} : Plain p (.ins C dx fs) := ⟨(fun _ z => by cases z), (fun _ z => by unfold LamX.CodeO at z; cases z), fun _ z => by unfold NdefX.FnO at z; cases z⟩
theorem get_rep (p : Addr) (oc : Obj) (h : oc.isFreed = false) : ({ objs := Array.replicate (p + 1) oc } : Heap).get? p = some oc := by
  show (match (Array.replicate (p + 1) oc)[p]? with | some ⟨_, _, .freed, _⟩ => none | o => o) = some oc
  rw [Array.getElem?_replicate, if_pos (Nat.lt_succ_self p)]
  obtain ⟨c, d, dt, sl⟩ := oc
  cases dt <;> first | rfl | cases h
theorem plain_DN {P : Program} {w : World} {p : Addr} {xs : List (NestedKey × Addr × V)} : Plain p (DN P w p xs) := by
  refine ⟨(fun _ z => by unfold DN at z; cases z), fun q z => ?_, fun F z => ?_⟩
  · unfold DN LamX.CodeO at z
    injection z with z
    have z2 := congrFun z { objs := Array.replicate (p + 1) { cls := .none, data := .fields #[.none, .str q 0] } }
    have hg := get_rep p { cls := .none, data := .fields #[.none, .str q 0] } rfl
    have y : ∃ (oc : Obj) (vs : Array Value) (t : Tok), ({ objs := Array.replicate (p + 1) { cls := .none, data := .fields #[.none, .str q 0] } } : Heap).get? p = some oc ∧ oc.data = .fields vs ∧ vs[1]? = some (.str q t) := ⟨_, _, 0, hg, rfl, rfl⟩
    rw [← z2] at y
    obtain ⟨o, es, ep, ys, h1, _, h2, _⟩ := y
    rw [hg] at h1
    cases h1
    cases h2
  · unfold DN NdefX.FnO at z
    injection z with z
    have z2 := congrFun z { objs := Array.replicate (p + 1) { cls := .type "function", data := .func (F.fd .none .none .none) } }
    have hg := get_rep p { cls := .type "function", data := .func (F.fd .none .none .none) } rfl
    have y : ∃ (od : Option Addr) (sl : Array (Option Value)) (doc pm ctv : Value), ({ objs := Array.replicate (p + 1) { cls := .type "function", data := .func (F.fd .none .none .none) } } : Heap).get? p = some (⟨.type "function", od, .func (F.fd doc pm ctv), sl⟩ : Obj) := ⟨_, _, .none, .none, .none, hg⟩
    rw [← z2] at y
    obtain ⟨o, es, ep, ys, h1, _, h2, _⟩ := y
    rw [hg] at h1
    cases h1
    cases h2
theorem tabN_mut {H : Hp} {p : Addr} {o o' : HO} {P : Addr} {nm : Nat → Nat → Str} (h : NdefX.TabN H P nm) (hp : H p = some o) (pl : Plain p o) : NdefX.TabN (upd H p o') P nm := by
  obtain ⟨ps, h1, h2, h3⟩ := h
  have n1 : P ≠ p := fun e => by
    subst e
    rw [h1] at hp
    exact pl.t ps (Option.some.inj hp).symm
  refine ⟨ps, by rw [upd_ne n1]; exact h1, h2, fun pos cv e => ?_⟩
  obtain ⟨c, e1, e2⟩ := h3 pos cv e
  refine ⟨c, e1, ?_⟩
  have n2 : c ≠ p := fun z => by
    subst z
    rw [e2] at hp
    exact pl.c _ (Option.some.inj hp).symm
  rw [upd_ne n2]
  exact e2
section
variable {c : Ct} {G H G' H' : Hp} {p : Addr} {o o' : HO}
theorem Ok.nb (ok : Ok c G H) (hp : H p = none) : some p ≠ c.B := fun z => by
  obtain ⟨_, _, _, _, h, _⟩ := ok.bx p z.symm
  rw [hp] at h
  cases h
/-- an object that was not there at (G, H) and is not frozen is written -/
theorem Stp.mut (s : Stp c G H G' H') (hp : H p = none) (gp : G' p = none) (nb : some p ≠ c.B) (hp' : H' p = some o) (pl : Plain p o) : Stp c G H G' (upd H' p o') := by
  refine ⟨⟨fun a u e => ?_, fun b hb => ?_, fun q hq => tabN_mut (s.ok.tb q hq) hp' pl, s.ok.nt⟩, s.gg, fun a u n t e => ?_, fun a e => ?_, s.nw⟩
  · have ne : a ≠ p := fun z => by rw [z, gp] at e; cases e
    rw [upd_ne ne]
    exact s.ok.gh a u e
  · obtain ⟨h1, r, ns, k, h2, h3, h4⟩ := s.ok.bx b hb
    have ne : b ≠ p := fun z => nb (by rw [← z]; exact hb.symm)
    exact ⟨h1, r, ns, k, by rw [upd_ne ne]; exact h2, h3, h4⟩
  · have ne : a ≠ p := fun z => by rw [z, hp] at e; cases e
    rw [upd_ne ne]
    exact s.hh a u n t e
  · by_cases ha : a = p
    · subst ha; exact hp
    · rw [upd_ne ha] at e
      exact s.hn a e
/-- .. is frozen -/
theorem Stp.frz (s : Stp c G H G' H') (hp : H p = none) (gp : G' p = none) (nb : some p ≠ c.B) (hp' : H' p = some o) (ht : ∀ ps, o ≠ .tbl ps) : Stp c G H (upd G' p o) H' := by
  have eg : Ex G' (upd G' p o) := Ex.new gp
  refine ⟨⟨fun a u e => ?_, fun b hb => ?_, s.ok.tb, fun a ps e => by
    by_cases ha : a = p
    · subst ha; rw [upd_same] at e; exact ht ps (Option.some.inj e)
    · rw [upd_ne ha] at e; exact s.ok.nt a ps e⟩, s.gg.trans eg, s.hh, s.hn, fun a u e => ?_⟩
  · by_cases ha : a = p
    · subst ha; rw [upd_same] at e; rw [hp']; exact e
    · rw [upd_ne ha] at e
      exact s.ok.gh a u e
  · obtain ⟨h1, r, ns, k, h2, h3, h4⟩ := s.ok.bx b hb
    have ne : b ≠ p := fun z => nb (by rw [← z]; exact hb.symm)
    exact ⟨by rw [upd_ne ne]; exact h1, r, ns, k, h2, h3, h4.up eg⟩
  · by_cases ha : a = p
    · subst ha; exact .inr hp
    · rw [upd_ne ha] at e
      exact s.nw a u e
end

/-! ### forgotten slots -/
def wipeE (ρ : Env) : List Nat → Env
  | [] => ρ
  | v :: vs => (wipeE ρ vs).set v none
theorem wipeE_length (ρ : Env) : ∀ vs : List Nat, (wipeE ρ vs).length = ρ.length
  | [] => rfl
  | v :: vs => by show ((wipeE ρ vs).set v none).length = _; rw [List.length_set, wipeE_length ρ vs]
theorem wipeE_get {ρ : Env} {i : Nat} {cl : Cell} : ∀ {vs : List Nat}, (wipeE ρ vs)[i]? = some (some cl) → ρ[i]? = some (some cl) ∧ i ∉ vs
  | [], h => ⟨h, by simp⟩
  | v :: vs, h => by
    have h' : ((wipeE ρ vs).set v none)[i]? = some (some cl) := h
    by_cases e : v = i
    · subst e
      have hi : v < (wipeE ρ vs).length := by
        have := (List.getElem?_eq_some_iff.mp h').1
        rwa [List.length_set] at this
      rw [List.getElem?_set_self hi] at h'
      cases h'
    · rw [List.getElem?_set_ne e] at h'
      obtain ⟨h1, h2⟩ := wipeE_get h'
      exact ⟨h1, by simp [Ne.symm e, h2]⟩
theorem wipe_out (σ : L2.St) {i : Nat} : ∀ {vs : List Nat}, i ∉ vs → (wipe σ vs)[i]? = σ[i]?
  | [], _ => rfl
  | v :: vs, h => by
    show ((wipe σ vs).set v none)[i]? = _
    rw [List.getElem?_set_ne (fun e => h (by simp [e])), wipe_out σ (fun z => h (by simp [z]))]
theorem wipe_in (σ : L2.St) {i : Nat} (hi : i < σ.length) : ∀ {vs : List Nat}, i ∈ vs → (wipe σ vs)[i]? = some none
  | [], h => by simp at h
  | v :: vs, h => by
    show ((wipe σ vs).set v none)[i]? = _
    by_cases e : v = i
    · subst e
      rw [List.getElem?_set_self (by rw [wipe_length]; exact hi)]
    · rw [List.getElem?_set_ne e]
      rcases List.mem_cons.mp h with z | z
      · exact absurd z.symm e
      · exact wipe_in σ hi z
theorem wipe_eq {σ σ' : L2.St} {vs : List Nat} (hl : σ'.length = σ.length) (h : ∀ k, k ∉ vs → σ'[k]? = σ[k]?) : wipe σ' vs = wipe σ vs := by
  refine List.ext_getElem? fun i => ?_
  by_cases hi : i ∈ vs
  · by_cases hlt : i < σ.length
    · rw [wipe_in σ hlt hi, wipe_in σ' (by omega) hi]
    · rw [List.getElem?_eq_none (by rw [wipe_length]; omega), List.getElem?_eq_none (by rw [wipe_length]; omega)]
  · rw [wipe_out σ hi, wipe_out σ' hi, h i hi]
theorem wipe_wipe (σ : L2.St) (vs : List Nat) : wipe (wipe σ vs) vs = wipe σ vs := wipe_eq (wipe_length _ _) fun _ h => wipe_out σ h
section
variable {c : Ct} {G0 H0 G H G' H' G1 H1 : Hp} {ρ : Env} {σ : L2.St}
theorem Rel.wipe (r : Rel c G0 H0 ρ σ G H) (vs : List Nat) : Rel c G0 H0 (wipeE ρ vs) (L2.wipe σ vs) G H :=
  ⟨r.st, by rw [wipe_length, wipeE_length, r.len], fun i cl e => by
    obtain ⟨h1, h2⟩ := wipeE_get e
    obtain ⟨v, h3, h4⟩ := r.slot i cl h1
    exact ⟨v, by rw [wipe_out σ h2]; exact h3, h4⟩, fun i j ci cj n e1 e2 m1 m2 => by
    obtain ⟨h1, h2⟩ := wipeE_get e1
    obtain ⟨h3, h4⟩ := wipeE_get e2
    rw [wipe_out σ h2, wipe_out σ h4]
    exact r.sep i j ci cj n h1 h3 m1 m2⟩
end

/-! ### what is walked, and the targets -/
/-- the iterator J gives the data xs, whatever is frozen since G1 -/
def ItD (c : Ct) (J : It) (xs : List D) (G1 : Hp) : Prop :=
  ∀ G H, Ok c G H → Ex G1 G → (∀ i, xs.length ≤ i → J.stop i H) ∧ ∀ i x, xs[i]? = some x → J.go i H ∧ ∀ v H', J.yld i H v H' → ∃ G', Stp c G H G' H' ∧ Rp c.K G' x v
def EvI (c : Ct) (wi : TI) (ρ : Env) (xs : List D) : Prop :=
  ∀ G0 H0 σ G H, Rel c G0 H0 ρ σ G H → ∀ R : It → Hp → Prop, (∀ J G' H', Stp c G H G' H' → ItD c J xs G' → R J H') → wi σ H R
/-- .. told by a word -/
def EvIK (c : Ct) (wi : TI) (ρ : Env) (k : List D → Prop) : Prop :=
  ∀ G0 H0 σ G H, Rel c G0 H0 ρ σ G H → ∀ R : It → Hp → Prop, (∀ xs J G' H', k xs → Stp c G H G' H' → ItD c J xs G' → R J H') → wi σ H R
theorem EvI.k {c : Ct} {wi : TI} {ρ : Env} {xs : List D} (h : EvI c wi ρ xs) : EvIK c wi ρ (fun ys => ys = xs) := fun G0 H0 σ G H r R q => h G0 H0 σ G H r R fun J G' H' s i => q xs J G' H' rfl s i
/-- a target takes the data x: the slots js are written -/
def EvG (c : Ct) (g : TG) (ρ : Env) (x : D) (ρ' : Env) (js : List Nat) : Prop :=
  ∀ G0 H0 σ G H, Rel c G0 H0 ρ σ G H → ∀ v, Rp c.K G x v → ∀ Q : L2.St → Hp → Prop, (∀ σ', Rel c G0 H0 ρ' σ' G H → σ'.length = σ.length → (∀ k, k ∉ js → σ'[k]? = σ[k]?) → Q σ' H) → g v σ H Q
section
variable {c : Ct} {ρ : Env} {x y z d : D} {te tl : TE}
theorem eg_name {i : Nat} : EvG c (gName i) ρ x (ρ.set i (some (.dat x))) [i] := fun G0 H0 σ G H r v hv Q q =>
  q _ (r.setD hv) (by rw [List.length_set]) fun k hk => List.getElem?_set_ne fun e => hk (by simp [e])
theorem eg_tup2 {i j : Nat} {d1 d2 : D} : EvG c (gTup c.K 2 (gCons (gName i) (gCons (gName j) gNil))) ρ (.tup [d1, d2]) ((ρ.set i (some (.dat d1))).set j (some (.dat d2))) [i, j] := fun G0 H0 σ G H r v hv Q q => by
  obtain ⟨a, vs, rfl, ha, hl⟩ := hv.tuple
  obtain ⟨v1, v2, rfl, h1, h2⟩ := hl.two
  refine ⟨a, _, rfl, SqT.of (r.ok.gh _ _ ha), rfl, v1, [v2], rfl, v2, [], rfl, rfl, ?_⟩
  refine q _ ((r.setD h1).setD h2) (by rw [List.length_set, List.length_set]) fun k hk => ?_
  have n1 : i ≠ k := fun e => hk (by simp [e])
  have n2 : j ≠ k := fun e => hk (by simp [e])
  rw [List.getElem?_set_ne n2, List.getElem?_set_ne n1]
theorem ei_list {xs : List D} (h : EvE c tl ρ (.lst xs)) : EvI c (iList c.K tl) ρ xs := fun G0 H0 σ G H r R q => by
  refine h _ _ _ _ _ r _ fun x v G1 H1 kx s1 rx => ?_
  subst kx
  obtain ⟨a, vs, rfl, ha, hl⟩ := rx.list
  refine ⟨a, rfl, ⟨vs, SqL.of (s1.ok.gh _ _ ha)⟩, q _ G1 H1 s1 fun G H ok e => ⟨fun i hi => ⟨vs, SqL.of (ok.gh _ _ (e _ _ ha)), by rw [← hl.len]; exact hi⟩, fun i x hx => ?_⟩⟩
  obtain ⟨v, h1, h2⟩ := hl.get hx
  have hS : SqL c.K H a vs := SqL.of (ok.gh _ _ (e _ _ ha))
  refine ⟨⟨vs, v, hS, h1⟩, fun u H' hy => ?_⟩
  obtain ⟨e1, e2⟩ := hy
  subst e1
  have e3 : some v = some u := h1.symm.trans (e2 vs hS)
  cases e3
  exact ⟨G, .refl ok, h2.up e⟩
theorem ei_listR {ns : List Int} (h : EvE c tl ρ (.scr ns)) : EvI c (iList c.K tl) ρ (ns.map D.int) := fun G0 H0 σ G H r R q => by
  refine h _ _ _ _ _ r _ fun x v G1 H1 kx s1 rx => ?_
  subst kx
  cases rx with
  | @scr a _ ha =>
    refine ⟨a, rfl, ⟨_, ex_l s1.ok.gh ha⟩, q _ G1 H1 s1 fun G H ok e => ⟨fun i hi => ⟨_, ex_l ok.gh (ex_l e ha), by simpa using hi⟩, fun i x hx => ?_⟩⟩
    have hS : SqL c.K H a (ns.map V.int) := ex_l ok.gh (ex_l e ha)
    obtain ⟨v, h1, h2⟩ := (RpL.ofInts (K := c.K) (G := G) ns).get hx
    refine ⟨⟨_, v, hS, h1⟩, fun u H' hy => ?_⟩
    obtain ⟨e1, e2⟩ := hy
    subst e1
    have e3 : some v = some u := h1.symm.trans (e2 _ hS)
    cases e3
    exact ⟨G, .refl ok, h2⟩
/-- the ints lo, lo + 1, .. -/
def upTo (lo : Int) (n : Nat) : List D := (List.range n).map fun i => D.int (lo + (i : Nat))
theorem upTo_length (lo : Int) (n : Nat) : (upTo lo n).length = n := by simp [upTo]
theorem upTo_get {lo : Int} {n i : Nat} {x : D} (h : (upTo lo n)[i]? = some x) : i < n ∧ x = .int (lo + (i : Nat)) := by
  unfold upTo at h
  rw [List.getElem?_map] at h
  by_cases hi : i < n
  · rw [List.getElem?_range hi] at h
    exact ⟨hi, (Option.some.inj h).symm⟩
  · rw [List.getElem?_eq_none (by simpa using hi)] at h
    cases h
theorem upTo_at {lo : Int} {n i : Nat} (h : i < n) : (upTo lo n)[i]? = some (.int (lo + (i : Nat))) := by
  unfold upTo
  rw [List.getElem?_map, List.getElem?_range h]
  rfl
theorem itd_range {lo : Int} {n : Nat} {G1 : Hp} : ItD c (Itr lo n) (upTo lo n) G1 := fun G H ok e => ⟨fun i hi => by rw [upTo_length] at hi; exact hi, fun i x hx => by
  obtain ⟨h1, rfl⟩ := upTo_get hx
  refine ⟨h1, fun v H' hy => ?_⟩
  obtain ⟨e1, e2⟩ := hy
  subst e1 e2
  exact ⟨G, .refl ok, .int _⟩⟩
theorem ei_rng1 {ta : TA} {n : Int} (h : EvAE c ta ρ [.int n]) (hn : 0 ≤ n ∧ n ≤ 1000000 := by omega) : EvI c (iRng1 ta) ρ (upTo 0 n.toNat) := fun G0 H0 σ G H r R q => by
  refine h _ _ _ _ _ r _ fun x vs G1 H1 kx s1 rx => ?_
  subst kx
  obtain ⟨v, rfl, h1⟩ := rx.one
  cases h1
  exact ⟨n, rfl, by omega, by omega, q _ G1 H1 s1 itd_range⟩
theorem ei_rng2 {ta : TA} {lo hi : Int} (h : EvAE c ta ρ [.int lo, .int hi]) (hn : -1000000 ≤ lo ∧ lo ≤ 1000000 ∧ -1000000 ≤ hi ∧ hi ≤ 1000000 := by omega) : EvI c (iRng2 ta) ρ (upTo lo (hi - lo).toNat) := fun G0 H0 σ G H r R q => by
  refine h _ _ _ _ _ r _ fun x vs G1 H1 kx s1 rx => ?_
  subst kx
  obtain ⟨v, u, rfl, h1, h2⟩ := rx.two
  cases h1
  cases h2
  exact ⟨lo, hi, rfl, ⟨by omega, by omega, by omega, by omega⟩, q _ G1 H1 s1 itd_range⟩
theorem ei_listK {c : Ct} {ρ : Env} {tl : TE} {k : List D → Prop} (h : Ev c tl ρ (fun d => ∃ xs, d = .lst xs ∧ k xs)) : EvIK c (iList c.K tl) ρ k := fun G0 H0 σ G H r R q => by
  refine h _ _ _ _ _ r _ fun x v G1 H1 kx s1 rx => ?_
  obtain ⟨xs, rfl, hk⟩ := kx
  obtain ⟨a, vs, rfl, ha, hl⟩ := rx.list
  refine ⟨a, rfl, ⟨vs, SqL.of (s1.ok.gh _ _ ha)⟩, q xs _ G1 H1 hk s1 fun G H ok e => ⟨fun i hi => ⟨vs, SqL.of (ok.gh _ _ (e _ _ ha)), by rw [← hl.len]; exact hi⟩, fun i x hx => ?_⟩⟩
  obtain ⟨v, h1, h2⟩ := hl.get hx
  have hS : SqL c.K H a vs := SqL.of (ok.gh _ _ (e _ _ ha))
  refine ⟨⟨vs, v, hS, h1⟩, fun u H' hy => ?_⟩
  obtain ⟨e1, e2⟩ := hy
  subst e1
  have e3 : some v = some u := h1.symm.trans (e2 vs hS)
  cases e3
  exact ⟨G, .refl ok, h2.up e⟩
/-- range told by a word -/
theorem ei_rng1K {ta : TA} {kn : Int → Prop} (h : EvA c ta ρ (fun ds => ∃ n, ds = [.int n] ∧ kn n)) (hn : ∀ n, kn n → 0 ≤ n ∧ n ≤ 1000000) : EvIK c (iRng1 ta) ρ (fun xs => ∃ n, kn n ∧ xs = upTo 0 n.toNat) := fun G0 H0 σ G H r R q => by
  refine h _ _ _ _ _ r _ fun x vs G1 H1 kx s1 rx => ?_
  obtain ⟨n, rfl, hk⟩ := kx
  obtain ⟨v, rfl, h1⟩ := rx.one
  cases h1
  have := hn n hk
  exact ⟨n, rfl, by omega, by omega, q _ _ G1 H1 ⟨n, hk, rfl⟩ s1 itd_range⟩
/-- the signs of a text -/
def signs (z : Str) : List D := z.cps.toList.map fun a => D.str ⟨#[a]⟩
theorem ei_str {z : Str} (h : EvE c te ρ (.str z)) : EvI c (iStr te) ρ (signs z) := fun G0 H0 σ G H r R q => by
  refine h _ _ _ _ _ r _ fun x v G1 H1 kx s1 rx => ?_
  subst kx
  cases rx
  refine ⟨z, rfl, q _ G1 H1 s1 fun G H ok e => ⟨fun i hi => ?_, fun i x hx => ?_⟩⟩
  · show z.cps.size ≤ i
    simpa [signs] using hi
  · unfold signs at hx
    rw [List.getElem?_map] at hx
    cases q : z.cps.toList[i]? with
    | none => rw [q] at hx; cases hx
    | some a =>
      rw [q] at hx
      cases hx
      have hlt : i < z.cps.size := by
        have := (List.getElem?_eq_some_iff.mp q).1
        simpa using this
      refine ⟨hlt, fun v H' hy => ?_⟩
      obtain ⟨e1, b, e2, e3⟩ := hy
      subst e1 e3
      have e4 : z.cps[i]? = some a := by rw [← Array.getElem?_toList]; exact q
      rw [e4] at e2
      cases e2
      exact ⟨G, .refl ok, .str _⟩
/-- enumerate of a list -/
def numd (xs : List D) : List D := xs.mapIdx fun i x => D.tup [.int (i : Nat), x]
theorem ei_enum {ta : TA} {xs : List D} (h : EvAE c ta ρ [.lst xs]) : EvI c (iEnum c.K ta) ρ (numd xs) := fun G0 H0 σ G H r R q => by
  refine h _ _ _ _ _ r _ fun x vs G1 H1 kx s1 rx => ?_
  subst kx
  obtain ⟨v, rfl, h1⟩ := rx.one
  obtain ⟨a, vs, rfl, ha, hl⟩ := h1.list
  refine ⟨a, vs, rfl, SqL.of (s1.ok.gh _ _ ha), q _ G1 H1 s1 fun G H ok e => ⟨fun i hi => ⟨vs, SqL.of (ok.gh _ _ (e _ _ ha)), ?_⟩, fun i x hx => ?_⟩⟩
  · rw [← hl.len]
    simpa [numd] using hi
  · unfold numd at hx
    rw [List.getElem?_mapIdx] at hx
    cases q : xs[i]? with
    | none => rw [q] at hx; cases hx
    | some y =>
      rw [q] at hx
      cases hx
      obtain ⟨v, h1, h2⟩ := hl.get q
      have hS : SqL c.K H a vs := SqL.of (ok.gh _ _ (e _ _ ha))
      refine ⟨⟨vs, v, hS, h1⟩, fun u H' hy => ?_⟩
      obtain ⟨T, w, rfl, hT, rfl, e2⟩ := hy
      have e3 : some v = some w := h1.symm.trans (e2 vs hS)
      cases e3
      have s := Stp.lay (o := .tup [.int (i : Nat), v]) ok hT
      exact ⟨_, s, .tup upd_same (.cons (.int _) (.cons ((h2.up e).up s.gg) .nil))⟩
end

/-! ### comprehensions -/
section
variable {c : Ct} {ρ : Env} {te : TE} {wi : TI} {g : TG} {tt : TT} {vs : List Nat}
/-- what is made so far: ds, of the turns so far, at Dl -/
def Lc (c : Ct) (G1 H1 : Hp) (Dl : Addr) (Pd : Nat → List D → Prop) (i : Nat) (H' : Hp) : Prop :=
  ∃ G' ds us, Stp c G1 H1 G' H' ∧ G' Dl = none ∧ H' Dl = some (.lst us) ∧ RpL c.K G' ds us ∧ ds.length ≤ i ∧ Pd i ds
/-- the general comprehension: Pd tells what is made by the turn -/
theorem ev_lcPK {kx : List D → Prop} (h : EvIK c wi ρ kx) (hz : ∀ xs, kx xs → xs.length ≤ 100000) (Pd : List D → Nat → List D → Prop) (h0 : ∀ xs, kx xs → Pd xs 0 [])
    (ht : ∀ xs, kx xs → ∀ (i : Nat) x, xs[i]? = some x → ∃ ρ' js, EvG c g (wipeE ρ vs) x ρ' js ∧ (∀ j, j ∈ js → j ∈ vs) ∧ ∃ b, EvT c tt ρ' b ∧ (b = true → Ev c te ρ' fun y => ∀ ds, Pd xs i ds → Pd xs (i + 1) (ds ++ [y])) ∧ (b = false → ∀ ds, Pd xs i ds → Pd xs (i + 1) ds))
    : Ev c (tLc wi g tt te vs) ρ (fun d => ∃ xs ds, kx xs ∧ d = .lst ds ∧ Pd xs xs.length ds) := fun G0 H0 σ G H r Q q => by
  refine h _ _ _ _ _ r _ fun xs J G1 H1 hkx s1 itd => ?_
  have hz := hz xs hkx
  have h0 := h0 xs hkx
  have ht := ht xs hkx
  intro Dl hD
  have nb := s1.ok.nb hD
  refine ⟨fun i m H' => m = xs.length - i ∧ i ≤ xs.length ∧ Lc c G1 H1 Dl (Pd xs) i H', ⟨xs.length, by omega, Nat.zero_le _, G1, [], [], .layM s1.ok hD, fresh_back s1.ok.gh hD, upd_same, .nil, Nat.le_refl _, h0⟩, ?_⟩
  rintro i m H2 ⟨rfl, hi, G2, ds, us, s2, gD, hH, hl, hlen, pd⟩
  obtain ⟨stop, go⟩ := itd G2 H2 s2.ok s2.gg
  by_cases hlt : i < xs.length
  · refine .inr ?_
    have hx : xs[i]? = some xs[i] := List.getElem?_eq_getElem hlt
    obtain ⟨g1, g2⟩ := go i _ hx
    refine ⟨g1, fun H' => Lc c G1 H1 Dl (Pd xs) (i + 1) H', fun H' p => ⟨xs.length - (i + 1), by omega, rfl, hlt, p⟩, fun v H3 hy => ?_⟩
    obtain ⟨G3, s3, rx⟩ := g2 v H3 hy
    obtain ⟨ρ', js, eg, hjs, b, et, e1, e2⟩ := ht i _ hx
    have r3 : Rel c G0 H0 (wipeE ρ vs) (wipe σ vs) G3 H3 := (((r.stp s1).stp s2).stp s3).wipe vs
    refine eg _ _ _ _ _ r3 v rx _ fun σ' r4 hl4 h4 => ⟨?_, ?_⟩
    · rw [← wipe_wipe σ vs]
      exact wipe_eq hl4 fun k hk => h4 k fun z => hk (hjs k z)
    refine et _ _ _ _ _ r4 _ fun b' G4 H4 kb s4 => ?_
    subst kb
    have hD4 : H4 Dl = some (.lst us) := s4.hh Dl _ nb (fun _ z => by cases z) (s3.hh Dl _ nb (fun _ z => by cases z) hH)
    have gone : ∀ {Ga Ha Gb Hb : Hp}, Stp c Ga Ha Gb Hb → Ga Dl = none → Ha Dl = some (.lst us) → Gb Dl = none := fun {Ga Ha Gb Hb} s a b => by
      cases z : Gb Dl with
      | none => rfl
      | some u =>
        rcases s.nw Dl u z with y | y
        · rw [a] at y; cases y
        · rw [b] at y; cases y
    have gD3 := gone s3 gD hH
    have hD3 : H3 Dl = some (.lst us) := s3.hh Dl _ nb (fun _ z => by cases z) hH
    have gD4 := gone s4 gD3 hD3
    cases hb : b' with
    | false =>
      refine iteF ⟨G4, ds, us, (s2.trans s3).trans s4, gD4, hD4, (hl.up s3.gg).up s4.gg, by omega, e2 hb ds pd⟩
    | true =>
      refine iteT (e1 hb _ _ _ _ _ (r4.stp s4) _ fun y u G5 H5 ky s5 ry => ?_)
      have hD5 : H5 Dl = some (.lst us) := s5.hh Dl _ nb (fun _ z => by cases z) hD4
      have gD5 := gone s5 gD4 hD4
      have s6 : Stp c G1 H1 G5 H5 := ((s2.trans s3).trans s4).trans s5
      refine ⟨us, hD5, ?_, G5, ds ++ [y], us ++ [u], s6.mut hD gD5 nb hD5 plain_lst, gD5, upd_same, (((hl.up s3.gg).up s4.gg).up s5.gg).snoc ry, by rw [List.length_append]; show _ + 1 ≤ _; omega, ky ds pd⟩
      have := sz_ok (show us.length + 1 ≤ 100000 by rw [← hl.len]; omega)
      omega
  · have e : i = xs.length := by omega
    subst e
    refine .inl ⟨stop _ (Nat.le_refl _), ?_⟩
    have s3 := s2.frz hD gD nb hH fun _ z => by cases z
    exact q _ _ _ _ ⟨xs, ds, hkx, rfl, pd⟩ (s1.trans s3) (.lst upd_same (hl.up (Ex.new gD)))
theorem ev_lcP {xs : List D} (h : EvI c wi ρ xs) (hz : xs.length ≤ 100000) (Pd : Nat → List D → Prop) (h0 : Pd 0 [])
    (ht : ∀ (i : Nat) x, xs[i]? = some x → ∃ ρ' js, EvG c g (wipeE ρ vs) x ρ' js ∧ (∀ j, j ∈ js → j ∈ vs) ∧ ∃ b, EvT c tt ρ' b ∧ (b = true → Ev c te ρ' fun y => ∀ ds, Pd i ds → Pd (i + 1) (ds ++ [y])) ∧ (b = false → ∀ ds, Pd i ds → Pd (i + 1) ds))
    : Ev c (tLc wi g tt te vs) ρ (fun d => ∃ ds, d = .lst ds ∧ Pd xs.length ds) := (ev_lcPK h.k (fun _ e => e ▸ hz) (fun _ => Pd) (fun _ _ => h0) fun _ e => e ▸ ht).imp fun d ⟨xs', ds, e, h1, h2⟩ => ⟨ds, h1, e ▸ h2⟩
/-- one item a turn, told by f -/
theorem ev_lcE {xs : List D} (h : EvI c wi ρ xs) (hz : xs.length ≤ 100000) (f : D → D)
    (ht : ∀ (i : Nat) x, xs[i]? = some x → ∃ ρ' js, EvG c g (wipeE ρ vs) x ρ' js ∧ (∀ j, j ∈ js → j ∈ vs) ∧ EvE c te ρ' (f x)) : EvE c (tLc wi g tYes te vs) ρ (.lst (xs.map f)) := by
  refine (ev_lcP h hz (fun i ds => ds = (xs.take i).map f) rfl fun i x hx => ?_).imp ?_
  · obtain ⟨ρ', js, h1, h2, h3⟩ := ht i x hx
    refine ⟨ρ', js, h1, h2, true, fun G0 H0 σ G H r Q q => q true G H rfl (.refl r.ok), fun _ => h3.imp ?_, fun z => by cases z⟩
    rintro y rfl ds rfl
    rw [List.take_add_one, hx]
    simp
  · rintro d ⟨ds, rfl, rfl⟩
    rw [List.take_length]
/-- one item a turn, told by a word -/
theorem ev_lcK {xs : List D} (h : EvI c wi ρ xs) (hz : xs.length ≤ 100000) (R : D → Prop)
    (ht : ∀ (i : Nat) x, xs[i]? = some x → ∃ ρ' js, EvG c g (wipeE ρ vs) x ρ' js ∧ (∀ j, j ∈ js → j ∈ vs) ∧ Ev c te ρ' R) : Ev c (tLc wi g tYes te vs) ρ (fun d => ∃ ds, d = .lst ds ∧ ds.length = xs.length ∧ ∀ y ∈ ds, R y) := by
  refine (ev_lcP h hz (fun i ds => ds.length = i ∧ ∀ y ∈ ds, R y) ⟨rfl, by simp⟩ fun i x hx => ?_)
  obtain ⟨ρ', js, h1, h2, h3⟩ := ht i x hx
  refine ⟨ρ', js, h1, h2, true, fun G0 H0 σ G H r Q q => q true G H rfl (.refl r.ok), fun _ => h3.imp ?_, fun z => by cases z⟩
  rintro y hy ds ⟨hl, ha⟩
  refine ⟨by rw [List.length_append, hl]; rfl, fun z hz => ?_⟩
  rcases List.mem_append.mp hz with hz | hz
  · exact ha z hz
  · have e : z = y := by simpa using hz
    rw [e]; exact hy
/-- with a test -/
theorem ev_lcF {xs : List D} (h : EvI c wi ρ xs) (hz : xs.length ≤ 100000) (p : D → Bool) (f : D → D)
    (ht : ∀ (i : Nat) x, xs[i]? = some x → ∃ ρ' js, EvG c g (wipeE ρ vs) x ρ' js ∧ (∀ j, j ∈ js → j ∈ vs) ∧ EvT c tt ρ' (p x) ∧ (p x = true → EvE c te ρ' (f x))) : EvE c (tLc wi g tt te vs) ρ (.lst ((xs.filter p).map f)) := by
  refine (ev_lcP h hz (fun i ds => ds = ((xs.take i).filter p).map f) rfl fun i x hx => ?_).imp ?_
  · obtain ⟨ρ', js, h1, h2, h3, h4⟩ := ht i x hx
    refine ⟨ρ', js, h1, h2, p x, h3, fun hp => (h4 hp).imp ?_, fun hp => ?_⟩
    · rintro y rfl ds rfl
      rw [List.take_add_one, hx]
      simp [hp]
    · rintro ds rfl
      rw [List.take_add_one, hx]
      simp [hp]
  · rintro d ⟨ds, rfl, rfl⟩
    rw [List.take_length]
end
end Fx
/-! text FxSt -/
namespace Fx
open PySem L2 Evl

section
variable {c : Ct} {G0 H0 G H G' H' : Hp} {ρ : Env} {σ : L2.St} {i : Nat} {p : Addr} {o o' : HO} {cl cl' : Cell}
/-- an own object's address -/
theorem CR.own {v : V} (m : cl.mu = true) (h : CR c H0 G H cl v) : ∃ p o, v = .ref p ∧ Own c H0 G p ∧ H p = some o ∧ Plain p o := by
  cases cl with
  | ml ds =>
    obtain ⟨p, vs, e, ow, hp, r⟩ := h
    exact ⟨p, _, e, ow, hp, plain_lst⟩
  | mk ds =>
    obtain ⟨p, vs, e, ow, hp, r⟩ := h
    exact ⟨p, _, e, ow, hp, plain_dK⟩
  | mn ds =>
    obtain ⟨p, vs, e, ow, hp, r⟩ := h
    exact ⟨p, _, e, ow, hp, plain_DN⟩
  | ro C ns ds =>
    obtain ⟨p, dx, fs, e, ow, hp, r⟩ := h
    exact ⟨p, _, e, ow, hp, plain_ins⟩
  | dat _ => cases m
  | box => cases m
  | fn _ _ _ => cases m
  | rs _ _ _ => cases m
theorem CR.upd {q : Addr} {u : HO} {v : V} (h : CR c H0 G H cl v) (n1 : cl.mu = true → v ≠ .ref q) (pl : ∀ o, H q = some o → Plain q o) (h0 : H0 q = none) : CR c H0 G (upd H q u) cl v := by
  cases cl with
  | dat d => exact h
  | box => exact h
  | fn F vws ds =>
    obtain ⟨f, e, h1, h2, r⟩ := h
    have m1 : f ≠ q := fun z => by subst z; exact (pl _ h1).f _ rfl
    have m2 : F.c ≠ q := fun z => by subst z; exact (pl _ h2).c _ rfl
    exact ⟨f, e, by rw [upd_ne m1]; exact h1, by rw [upd_ne m2]; exact h2, r⟩
  | rs C ns ds =>
    obtain ⟨p, dx, fs, e, ow, hp, r⟩ := h
    exact ⟨p, dx, fs, e, ow, by rw [upd_ne (fun z => ow.1 (by rw [z]; exact h0))]; exact hp, r⟩
  | ml ds =>
    obtain ⟨p, vs, e, ow, hp, r⟩ := h
    exact ⟨p, vs, e, ow, by rw [upd_ne (fun z => n1 rfl (by rw [e, z]))]; exact hp, r⟩
  | mk ds =>
    obtain ⟨p, vs, e, ow, hp, r⟩ := h
    exact ⟨p, vs, e, ow, by rw [upd_ne (fun z => n1 rfl (by rw [e, z]))]; exact hp, r⟩
  | mn ds =>
    obtain ⟨p, vs, e, ow, hp, r⟩ := h
    exact ⟨p, vs, e, ow, by rw [upd_ne (fun z => n1 rfl (by rw [e, z]))]; exact hp, r⟩
  | ro C ns ds =>
    obtain ⟨p, dx, fs, e, ow, hp, r⟩ := h
    exact ⟨p, dx, fs, e, ow, by rw [upd_ne (fun z => n1 rfl (by rw [e, z]))]; exact hp, r⟩
/-- the own object of a slot is written -/
theorem Rel.mutA (r : Rel c G0 H0 ρ σ G H) (hi : ρ[i]? = some (some cl)) (hm : cl.mu = true) (hσ : σ[i]? = some (some (.ref p))) (ow : Own c H0 G p) (hp : H p = some o) (pl : Plain p o)
    (hm' : cl'.mu = true) (h' : CR c H0 G (upd H p o') cl' (.ref p)) : Rel c G0 H0 (ρ.set i (some cl')) σ G (upd H p o') := by
  have hil : i < ρ.length := (List.getElem?_eq_some_iff.mp hi).1
  refine ⟨r.st.mut ow.1 ow.2.1 ow.2.2 hp pl, by rw [List.length_set]; exact r.len, fun j cj e => ?_, fun j k cj ck n e1 e2 m1 m2 => ?_⟩
  · by_cases hj : i = j
    · subst hj
      rw [List.getElem?_set_self hil] at e
      cases e
      exact ⟨_, hσ, h'⟩
    · rw [List.getElem?_set_ne hj] at e
      obtain ⟨v, h1, h2⟩ := r.slot j cj e
      refine ⟨v, h1, h2.upd (fun mu z => ?_) (fun o2 e2 => by rw [hp] at e2; cases e2; exact pl) ow.1⟩
      subst z
      exact r.sep i j cl cj hj hi e hm mu (hσ.trans h1.symm)
  · by_cases hj : i = j
    · subst hj
      rw [List.getElem?_set_ne n] at e2
      exact r.sep i k cl ck n hi e2 hm m2
    · rw [List.getElem?_set_ne hj] at e1
      by_cases hk : i = k
      · subst hk
        exact r.sep j i cj cl n e1 hi m1 hm
      · rw [List.getElem?_set_ne hk] at e2
        exact r.sep j k cj ck n e1 e2 m1 m2
/-- a slot takes a new own object -/
theorem Rel.newA (r : Rel c G0 H0 ρ σ G H) (hp : H p = none) (h' : CR c H0 G (upd H p o') cl' (.ref p)) : Rel c G0 H0 (ρ.set i (some cl')) (σ.set i (some (.ref p))) G (upd H p o') := by
  have s := Stp.layM (o := o') r.ok hp
  have fr : ∀ {j : Nat} {cj : Cell} {v : V}, ρ[j]? = some (some cj) → σ[j]? = some (some v) → cj.mu = true → v ≠ .ref p := fun {j cj v} e1 e2 m z => by
    obtain ⟨v', h1, h2⟩ := r.slot j cj e1
    obtain ⟨q, o, e3, _, h3, _⟩ := h2.own m
    rw [e2] at h1
    cases h1
    rw [z] at e3
    cases e3
    rw [hp] at h3
    cases h3
  refine ⟨r.st.trans s, by rw [List.length_set, List.length_set]; exact r.len, fun j cj e => ?_, fun j k cj ck n e1 e2 m1 m2 => ?_⟩
  · by_cases hj : i = j
    · subst hj
      have hil : i < ρ.length := by
        have := (List.getElem?_eq_some_iff.mp e).1
        rwa [List.length_set] at this
      rw [List.getElem?_set_self hil] at e
      cases e
      exact ⟨_, List.getElem?_set_self (by rw [r.len]; exact hil), h'⟩
    · rw [List.getElem?_set_ne hj] at e ⊢
      obtain ⟨v, h1, h2⟩ := r.slot j cj e
      exact ⟨v, h1, h2.stp r.st.ok s⟩
  · have look : ∀ {j : Nat} {cj : Cell}, (ρ.set i (some cl'))[j]? = some (some cj) → cj.mu = true → (i = j ∧ (σ.set i (some (V.ref p)))[j]? = some (some (.ref p))) ∨ (i ≠ j ∧ ρ[j]? = some (some cj) ∧ (σ.set i (some (V.ref p)))[j]? = σ[j]?) := fun {j cj} e m => by
      by_cases hj : i = j
      · subst hj
        have hil : i < ρ.length := by
          have := (List.getElem?_eq_some_iff.mp e).1
          rwa [List.length_set] at this
        exact .inl ⟨rfl, List.getElem?_set_self (by rw [r.len]; exact hil)⟩
      · rw [List.getElem?_set_ne hj] at e
        exact .inr ⟨hj, e, List.getElem?_set_ne hj⟩
    rcases look e1 m1 with ⟨a1, a2⟩ | ⟨a1, a2, a3⟩
    · rcases look e2 m2 with ⟨b1, b2⟩ | ⟨b1, b2, b3⟩
      · exact absurd (a1.symm.trans b1) n
      · rw [a2, b3]
        obtain ⟨v, h1, h2⟩ := r.slot k ck b2
        rw [h1]
        exact fun z => fr b2 h1 m2 (Option.some.inj (Option.some.inj z)).symm
    · rcases look e2 m2 with ⟨b1, b2⟩ | ⟨b1, b2, b3⟩
      · rw [a3, b2]
        obtain ⟨v, h1, h2⟩ := r.slot j cj a2
        rw [h1]
        exact fun z => fr a2 h1 m1 (Option.some.inj (Option.some.inj z))
      · rw [a3, b3]
        exact r.sep j k cj ck n a2 b2 m1 m2
/-- an own object is frozen -/
theorem Rel.frzA {d : D} (r : Rel c G0 H0 ρ σ G H) (hi : ρ[i]? = some (some cl)) (hm : cl.mu = true) (h1 : σ[i]? = some (some (.ref p))) (ow : Own c H0 G p) (hp : H p = some o) (h' : Rp c.K (upd G p o) d (.ref p)) (ht : ∀ ps, o ≠ .tbl ps) :
    Rel c G0 H0 (ρ.set i (some (.dat d))) σ (upd G p o) H := by
  have eg : Ex G (upd G p o) := Ex.new ow.2.1
  have hil : i < ρ.length := (List.getElem?_eq_some_iff.mp hi).1
  refine ⟨r.st.frz ow.1 ow.2.1 ow.2.2 hp ht, by rw [List.length_set]; exact r.len, fun j cj e => ?_, fun j k cj ck n e1 e2 m1 m2 => ?_⟩
  · by_cases hj : i = j
    · subst hj
      rw [List.getElem?_set_self hil] at e
      cases e
      exact ⟨_, h1, h'⟩
    · rw [List.getElem?_set_ne hj] at e
      obtain ⟨v, h3, h4⟩ := r.slot j cj e
      refine ⟨v, h3, ?_⟩
      have ne : ∀ {q}, cj.mu = true → v = .ref q → q ≠ p := fun {q} mu ev z => by
        subst ev z
        exact r.sep i j _ cj hj hi e hm mu (h1.trans h3.symm)
      cases cj with
      | dat d => exact Rp.up eg h4
      | box => exact h4
      | fn F vws ds' =>
        obtain ⟨f, e3, x1, x2, r1⟩ := h4
        exact ⟨f, e3, x1, x2, r1.up eg⟩
      | rs C ns ds' =>
        obtain ⟨q, dx, fs, e3, o1, hq, hn, r1⟩ := h4
        exact ⟨q, dx, fs, e3, ⟨o1.1, by rw [upd_ne (fun z => o1.1 (by rw [z]; exact ow.1))]; exact o1.2.1, o1.2.2⟩, hq, hn, r1.up eg⟩
      | ml ds' =>
        obtain ⟨q, us, e3, o1, hq, r1⟩ := h4
        exact ⟨q, us, e3, ⟨o1.1, by rw [upd_ne (ne rfl e3)]; exact o1.2.1, o1.2.2⟩, hq, r1.up eg⟩
      | mk ds' =>
        obtain ⟨q, us, e3, o1, hq, r1⟩ := h4
        exact ⟨q, us, e3, ⟨o1.1, by rw [upd_ne (ne rfl e3)]; exact o1.2.1, o1.2.2⟩, hq, r1.up eg⟩
      | mn ds' =>
        obtain ⟨q, us, e3, o1, hq, r1⟩ := h4
        exact ⟨q, us, e3, ⟨o1.1, by rw [upd_ne (ne rfl e3)]; exact o1.2.1, o1.2.2⟩, hq, r1.up eg⟩
      | ro C ns ds' =>
        obtain ⟨q, dx, fs, e3, o1, hq, hn, r1⟩ := h4
        exact ⟨q, dx, fs, e3, ⟨o1.1, by rw [upd_ne (ne rfl e3)]; exact o1.2.1, o1.2.2⟩, hq, hn, r1.up eg⟩
  · have nm : ∀ {m : Nat} {cm : Cell}, (ρ.set i (some (Cell.dat d)))[m]? = some (some cm) → cm.mu = true → i ≠ m := fun {m cm} e mu z => by
      subst z
      rw [List.getElem?_set_self hil] at e
      cases e
      cases mu
    have n1 := nm e1 m1
    have n2 := nm e2 m2
    rw [List.getElem?_set_ne n1] at e1
    rw [List.getElem?_set_ne n2] at e2
    exact r.sep j k cj ck n e1 e2 m1 m2
/-- an own list is frozen -/
theorem Rel.frzL {ds : List D} (r : Rel c G0 H0 ρ σ G H) (hi : ρ[i]? = some (some (.ml ds))) : ∃ G', Ex G G' ∧ Rel c G0 H0 (ρ.set i (some (.dat (.lst ds)))) σ G' H := by
  obtain ⟨v, h1, p, vs, rfl, ow, hp, hl⟩ := r.slot i _ hi
  exact ⟨_, Ex.new ow.2.1, r.frzA hi rfl h1 ow hp (.lst upd_same (hl.up (Ex.new ow.2.1))) fun _ z => by cases z⟩
/-- an own instance is frozen -/
theorem Rel.frzO {C : Addr} {ns : List Str} {ds : List D} (r : Rel c G0 H0 ρ σ G H) (hi : ρ[i]? = some (some (.ro C ns ds))) : ∃ G', Ex G G' ∧ Rel c G0 H0 (ρ.set i (some (.dat (.obj C ns ds)))) σ G' H := by
  obtain ⟨v, h1, p, dx, fs, rfl, ow, hp, hn, hl⟩ := r.slot i _ hi
  exact ⟨_, Ex.new ow.2.1, r.frzA hi rfl h1 ow hp (.obj upd_same hn (hl.up (Ex.new ow.2.1))) fun _ z => by cases z⟩
end

/-! ### statements -/
structure AEnds where
  nx : Env → Prop
  rt : D → Prop
  ex : Addr → Str → Prop := fun _ _ => False
/-- what an exception that leaves bears -/
def ExAt (d : Addr) (s : Str) (H : Hp) : Prop := H d = some (.xd [("reason", .str s)])
def AS (c : Ct) (E : XK) (ts : TS) (ρ : Env) (A : AEnds) : Prop :=
  ∀ G0 H0 σ G H, Rel c G0 H0 ρ σ G H → ∀ Dn : Ends,
    (∀ ρ' σ' G' H', A.nx ρ' → Ex G G' → Rel c G0 H0 ρ' σ' G' H' → Dn.nx σ' H') →
    (∀ d v G' H', A.rt d → Stp c G0 H0 G' H' → Ex G G' → Rp c.K G' d v → Dn.rt v H') →
    (∀ C s d G' H', A.ex C s → Stp c G0 H0 G' H' → ExAt d s H' → E (.ref C) (some d) H') → ts Dn σ H
section
variable {c : Ct} {E : XK} {ρ ρ' : Env} {A : AEnds} {t u tb : TS} {te ta tk tv td : TE} {i : Nat} {k : D → Prop} {d x y : D}
theorem AS.wk (w : Wk ρ ρ') (h : AS c E t ρ' A) : AS c E t ρ A := fun G0 H0 σ G H r Dn q1 q2 q3 => h _ _ _ _ _ (r.wk w) Dn q1 q2 q3
theorem AS.imp {A' : AEnds} (h : AS c E t ρ A) (h1 : ∀ ρ, A.nx ρ → A'.nx ρ) (h2 : ∀ d, A.rt d → A'.rt d) (h3 : ∀ C s, A.ex C s → A'.ex C s) : AS c E t ρ A' := fun G0 H0 σ G H r Dn q1 q2 q3 =>
  h _ _ _ _ _ r Dn (fun ρ' σ' G' H' n e r' => q1 ρ' σ' G' H' (h1 _ n) e r') (fun d v G' H' n s e rp => q2 d v G' H' (h2 _ n) s e rp) fun C s d G' H' n st x => q3 C s d G' H' (h3 _ _ n) st x
theorem as_seq (h : AS c E t ρ { A with nx := fun ρ' => AS c E u ρ' A }) : AS c E (tSeq t u) ρ A := fun G0 H0 σ G H r Dn q1 q2 q3 =>
  h _ _ _ _ _ r { Dn with nx := u Dn } (fun ρ' σ' G' H' hn e r' => hn _ _ _ _ _ r' Dn (fun ρ2 σ2 G2 H2 n e2 r2 => q1 ρ2 σ2 G2 H2 n (e.trans e2) r2) (fun d v G2 H2 n s e2 rp => q2 d v G2 H2 n s (e.trans e2) rp) q3) q2 q3
theorem as_next (h : A.nx ρ) : AS c E tNext ρ A := fun G0 H0 σ G H r Dn q1 _ _ => q1 ρ σ G H h (Ex.refl G) r
theorem as_frz {ds : List D} (hi : ρ[i]? = some (some (.ml ds))) (h : AS c E t (ρ.set i (some (.dat (.lst ds)))) A) : AS c E t ρ A := fun G0 H0 σ G H r Dn q1 q2 q3 => by
  obtain ⟨G', e, r'⟩ := r.frzL hi
  exact h _ _ _ _ _ r' Dn (fun ρ2 σ2 G2 H2 n e2 r2 => q1 ρ2 σ2 G2 H2 n (e.trans e2) r2) (fun d v G2 H2 n s e2 rp => q2 d v G2 H2 n s (e.trans e2) rp) q3
theorem as_frzO {C : Addr} {ns : List Str} {ds : List D} (hi : ρ[i]? = some (some (.ro C ns ds))) (h : AS c E t (ρ.set i (some (.dat (.obj C ns ds)))) A) : AS c E t ρ A := fun G0 H0 σ G H r Dn q1 q2 q3 => by
  obtain ⟨G', e, r'⟩ := r.frzO hi
  exact h _ _ _ _ _ r' Dn (fun ρ2 σ2 G2 H2 n e2 r2 => q1 ρ2 σ2 G2 H2 n (e.trans e2) r2) (fun d v G2 H2 n s e2 rp => q2 d v G2 H2 n s (e.trans e2) rp) q3
theorem as_set (h : Ev c te ρ k) (hn : ∀ d, k d → A.nx (ρ.set i (some (.dat d)))) : AS c E (tAsg te (gName i)) ρ A := fun G0 H0 σ G H r Dn q1 q2 q3 =>
  h _ _ _ _ _ r _ fun d v G' H' kd s rd => q1 _ _ G' H' (hn d kd) s.gg ((r.stp s).setD rd)
theorem as_setE (h : EvE c te ρ d) (hn : A.nx (ρ.set i (some (.dat d)))) : AS c E (tAsg te (gName i)) ρ A := as_set h fun _ e => e ▸ hn
theorem as_asg {g : TG} {js : List Nat} (h : EvE c te ρ d) (hg : EvG c g ρ d ρ' js) (hn : A.nx ρ') : AS c E (tAsg te g) ρ A := fun G0 H0 σ G H r Dn q1 q2 q3 =>
  h _ _ _ _ _ r _ fun d v G' H' kd s rd => by
    subst kd
    exact hg _ _ _ _ _ (r.stp s) v rd _ fun σ' r' _ _ => q1 _ _ G' H' hn s.gg r'
theorem eg_tup3 {i j k : Nat} {d1 d2 d3 : D} : EvG c (gTup c.K 3 (gCons (gName i) (gCons (gName j) (gCons (gName k) gNil)))) ρ (.tup [d1, d2, d3]) (((ρ.set i (some (.dat d1))).set j (some (.dat d2))).set k (some (.dat d3))) [i, j, k] := fun G0 H0 σ G H r v hv Q q => by
  obtain ⟨a, vs, rfl, ha, hl⟩ := hv.tuple
  cases hl with
  | cons h1 hl =>
    obtain ⟨v2, v3, rfl, h2, h3⟩ := hl.two
    refine ⟨a, _, rfl, SqT.of (r.ok.gh _ _ ha), rfl, _, _, rfl, v2, _, rfl, v3, [], rfl, rfl, ?_⟩
    refine q _ (((r.setD h1).setD h2).setD h3) (by rw [List.length_set, List.length_set, List.length_set]) fun m hm => ?_
    have n1 : i ≠ m := fun e => hm (by simp [e])
    have n2 : j ≠ m := fun e => hm (by simp [e])
    have n3 : k ≠ m := fun e => hm (by simp [e])
    rw [List.getElem?_set_ne n3, List.getElem?_set_ne n2, List.getElem?_set_ne n1]
theorem as_new {ta : TA} {ds : List D} (h : EvAE c ta ρ ds) (hz : ds.length ≤ 100000) (hn : A.nx (ρ.set i (some (.ml ds)))) : AS c E (tAsg (tLst ta) (gName i)) ρ A := fun G0 H0 σ G H r Dn q1 q2 q3 => by
  refine h _ _ _ _ _ r _ fun ds' vs G1 H1 kd s rd => ?_
  subst kd
  refine ⟨by rw [← rd.len]; exact sz_ok hz, fun p hp => ?_⟩
  have r1 := r.stp s
  exact q1 _ _ G1 _ hn s.gg (r1.newA (o' := .lst vs) hp ⟨p, vs, rfl, ⟨r1.st.hn p hp, fresh_back r1.ok.gh hp, r1.ok.nb hp⟩, upd_same, rd⟩)
theorem as_app {ds : List D} (hi : ρ[i]? = some (some (.ml ds))) (h : Ev c te ρ k) (hz : ds.length < 100000) (hn : ∀ d, k d → A.nx (ρ.set i (some (.ml (ds ++ [d]))))) : AS c E (tDrop (tBM c.K "list" rAppend (tVar i) (tCons te tNil))) ρ A := fun G0 H0 σ G H r Dn q1 q2 q3 => by
  obtain ⟨v, h1, p, vs, rfl, ow, hp, hl⟩ := r.slot i _ hi
  refine ⟨_, h1, .inl ⟨rfl, _, SqL.of hp⟩, ?_⟩
  refine h _ _ _ _ _ r _ fun d u G1 H1 kd s rd => ?_
  have hp1 := s.hh p _ ow.2.2 (fun _ z => by cases z) hp
  refine ⟨p, vs, u, rfl, rfl, hp1, ?_, ?_⟩
  · rw [← hl.len]
    exact sz_lt hz
  · exact q1 _ _ G1 _ (hn d kd) s.gg ((r.stp s).mutA hi rfl h1 (ow.stp hp s) hp1 plain_lst rfl ⟨p, _, rfl, ow.stp hp s, upd_same, (hl.up s.gg).snoc rd⟩)
theorem as_appE {ds : List D} (hi : ρ[i]? = some (some (.ml ds))) (h : EvE c te ρ d) (hz : ds.length < 100000) (hn : A.nx (ρ.set i (some (.ml (ds ++ [d]))))) : AS c E (tDrop (tBM c.K "list" rAppend (tVar i) (tCons te tNil))) ρ A := as_app hi h hz fun _ e => e ▸ hn
/-- xs.extend(ys), ys data -/
theorem as_ext {ds es : List D} (hi : ρ[i]? = some (some (.ml ds))) (h : EvE c te ρ (.lst es)) (hz : ds.length + es.length ≤ 100000) (hn : A.nx (ρ.set i (some (.ml (ds ++ es))))) : AS c E (tDrop (tBM c.K "list" rExtend (tVar i) (tCons te tNil))) ρ A := fun G0 H0 σ G H r Dn q1 q2 q3 => by
  obtain ⟨v, h1, p, vs, rfl, ow, hp, hl⟩ := r.slot i _ hi
  refine ⟨_, h1, .inl ⟨rfl, _, SqL.of hp⟩, ?_⟩
  refine h _ _ _ _ _ r _ fun d u G1 H1 kd s rd => ?_
  subst kd
  obtain ⟨b, ws, rfl, hb, hl2⟩ := rd.list
  have hp1 := s.hh p _ ow.2.2 (fun _ z => by cases z) hp
  refine ⟨p, b, vs, ws, rfl, rfl, hp1, s.ok.gh _ _ hb, ?_, ?_⟩
  · rw [← hl.len, ← hl2.len]
    exact sz_ok hz
  · exact q1 _ _ G1 _ hn s.gg ((r.stp s).mutA hi rfl h1 (ow.stp hp s) hp1 plain_lst rfl ⟨p, _, rfl, ow.stp hp s, upd_same, (hl.up s.gg).append hl2⟩)
theorem as_ret (h : Ev c te ρ k) (hn : ∀ d, k d → A.rt d) : AS c E (tRet te) ρ A := fun G0 H0 σ G H r Dn q1 q2 q3 =>
  h _ _ _ _ _ r _ fun d v G' H' kd s rd => q2 d v G' H' (hn d kd) (r.st.trans s) s.gg rd
theorem as_retE (h : EvE c te ρ d) (hn : A.rt d) : AS c E (tRet te) ρ A := as_ret h fun _ e => e ▸ hn
theorem as_retN (hn : A.rt .non) : AS c E tRetN ρ A := fun G0 H0 σ G H r Dn q1 q2 q3 => q2 .non .non G H hn r.st (Ex.refl G) .non
theorem as_drop (h : Ev c te ρ k) (hn : A.nx ρ) : AS c E (tDrop te) ρ A := fun G0 H0 σ G H r Dn q1 q2 q3 =>
  h _ _ _ _ _ r _ fun d v G' H' kd s rd => q1 _ _ G' H' hn s.gg (r.stp s)
theorem as_if {tt : TT} {kb : Bool → Prop} (h : EvB c tt ρ kb) (h1 : kb true → AS c E t ρ A) (h2 : kb false → AS c E u ρ A) : AS c E (tIfS tt t u) ρ A := fun G0 H0 σ G H r Dn q1 q2 q3 => by
  refine h _ _ _ _ _ r _ fun b G' H' kb s => ?_
  cases b with
  | true => exact iteT (h1 kb _ _ _ _ _ (r.stp s) Dn (fun ρ2 σ2 G2 H2 n e2 r2 => q1 ρ2 σ2 G2 H2 n (s.gg.trans e2) r2) (fun d v G2 H2 n s2 e2 rp => q2 d v G2 H2 n s2 (s.gg.trans e2) rp) q3)
  | false => exact iteF (h2 kb _ _ _ _ _ (r.stp s) Dn (fun ρ2 σ2 G2 H2 n e2 r2 => q1 ρ2 σ2 G2 H2 n (s.gg.trans e2) r2) (fun d v G2 H2 n s2 e2 rp => q2 d v G2 H2 n s2 (s.gg.trans e2) rp) q3)
theorem as_ifT {tt : TT} {b : Bool} (h : EvT c tt ρ b) (h1 : b = true → AS c E t ρ A) (h2 : b = false → AS c E u ρ A) : AS c E (tIfS tt t u) ρ A := as_if h (fun e => h1 e.symm) fun e => h2 e.symm
theorem as_never (h : False) : AS c E t ρ A := h.elim
theorem as_aug {f : Int → Int → Int} {a b : Int} (hi : ρ[i]? = some (some (.dat (.int a)))) (h : EvE c te ρ (.int b)) (hn : A.nx (ρ.set i (some (.dat (.int (f a b)))))) : AS c E (tAug i te (ipI f)) ρ A := fun G0 H0 σ G H r Dn q1 q2 q3 => by
  obtain ⟨v, h1, h2⟩ := r.dat hi
  cases h2
  refine ⟨_, h1, ?_⟩
  refine h _ _ _ _ _ r _ fun d v G' H' kd s rd => ?_
  subst kd
  cases rd
  exact ⟨a, b, rfl, rfl, q1 _ _ G' H' hn s.gg ((r.stp s).setD (.int _))⟩
/-- for: Iv the turn's word over the names -/
theorem as_forK {wi : TI} {g : TG} {kx : List D → Prop} (h : EvIK c wi ρ kx) (hb : ∀ xs, kx xs → ∃ Iv : Nat → Env → Prop, Iv 0 ρ ∧
    (∀ (i : Nat) x ρ1, xs[i]? = some x → Iv i ρ1 → ∃ ρ2 js, EvG c g ρ1 x ρ2 js ∧ AS c E tb ρ2 { A with nx := fun ρ3 => ∃ ρ4, Wk ρ3 ρ4 ∧ Iv (i + 1) ρ4 }) ∧ ∀ ρ1, Iv xs.length ρ1 → A.nx ρ1) : AS c E (tFor wi g tb) ρ A := fun G0 H0 σ G H r Dn q1 q2 q3 => by
  refine h _ _ _ _ _ r _ fun xs J G1 H1 hkx s1 itd => ?_
  obtain ⟨Iv, h0, hs, hd⟩ := hb xs hkx
  refine ⟨fun i m σ2 H2 => m = xs.length - i ∧ i ≤ xs.length ∧ ∃ ρ2 G2, Iv i ρ2 ∧ Ex G1 G2 ∧ Rel c G0 H0 ρ2 σ2 G2 H2, ⟨xs.length, by omega, Nat.zero_le _, ρ, G1, h0, Ex.refl _, r.stp s1⟩, ?_⟩
  rintro i m σ2 H2 ⟨rfl, hi, ρ2, G2, iv, e2, r2⟩
  obtain ⟨stop, go⟩ := itd G2 H2 r2.ok e2
  by_cases hlt : i < xs.length
  · refine .inr ?_
    have hx : xs[i]? = some xs[i] := List.getElem?_eq_getElem hlt
    obtain ⟨g1, g2⟩ := go i _ hx
    refine ⟨g1, fun σ3 H3 => ∃ ρ3 G3, Iv (i + 1) ρ3 ∧ Ex G1 G3 ∧ Rel c G0 H0 ρ3 σ3 G3 H3, fun σ3 H3 ⟨ρ3, G3, a, b, c⟩ => ⟨xs.length - (i + 1), by omega, rfl, hlt, ρ3, G3, a, b, c⟩, fun v H3 hy => ?_⟩
    obtain ⟨G3, s3, rx⟩ := g2 v H3 hy
    obtain ⟨ρ3, js, eg, as⟩ := hs i _ ρ2 hx iv
    refine eg _ _ _ _ _ (r2.stp s3) v rx _ fun σ3 r3 _ _ => ?_
    have e13 : Ex G1 G3 := e2.trans s3.gg
    refine as _ _ _ _ _ r3 _ (fun ρ4 σ4 G4 H4 n e4 r4 => ?_) (fun d v G4 H4 n st e4 rp => q2 d v G4 H4 n st ((s1.gg.trans e13).trans e4) rp) q3
    obtain ⟨ρ5, w, iv5⟩ := n
    exact ⟨ρ5, G4, iv5, e13.trans e4, r4.wk w⟩
  · have e : i = xs.length := by omega
    subst e
    exact .inl ⟨stop _ (Nat.le_refl _), q1 _ _ G2 H2 (hd _ iv) (s1.gg.trans e2) r2⟩
theorem as_for {wi : TI} {g : TG} {xs : List D} (h : EvI c wi ρ xs) (Iv : Nat → Env → Prop) (h0 : Iv 0 ρ)
    (hs : ∀ (i : Nat) x ρ1, xs[i]? = some x → Iv i ρ1 → ∃ ρ2 js, EvG c g ρ1 x ρ2 js ∧ AS c E tb ρ2 { A with nx := fun ρ3 => ∃ ρ4, Wk ρ3 ρ4 ∧ Iv (i + 1) ρ4 }) (hd : ∀ ρ1, Iv xs.length ρ1 → A.nx ρ1) : AS c E (tFor wi g tb) ρ A :=
  as_forK h.k fun ys e => by subst e; exact ⟨Iv, h0, hs, hd⟩
/-- while: Iv by a measure -/
theorem as_while {tt : TT} (Iv : Nat → Env → Prop) (m0 : Nat) (h0 : Iv m0 ρ)
    (hs : ∀ m ρ1, Iv m ρ1 → ∃ b, EvT c tt ρ1 b ∧ (b = true → AS c E tb ρ1 { A with nx := fun ρ3 => ∃ ρ4 m', Wk ρ3 ρ4 ∧ m' < m ∧ Iv m' ρ4 }) ∧ (b = false → A.nx ρ1)) : AS c E (tWhile tt tb) ρ A := fun G0 H0 σ G H r Dn q1 q2 q3 => by
  refine ⟨fun m σ2 H2 => ∃ ρ2 G2, Iv m ρ2 ∧ Ex G G2 ∧ Rel c G0 H0 ρ2 σ2 G2 H2, ⟨m0, ρ, G, h0, Ex.refl _, r⟩, ?_⟩
  rintro m σ2 H2 ⟨ρ2, G2, iv, e2, r2⟩
  obtain ⟨b, et, h1, h2⟩ := hs m ρ2 iv
  refine et _ _ _ _ _ r2 _ fun b' G3 H3 kb s3 => ?_
  subst kb
  cases hb : b' with
  | true =>
    refine iteT ⟨fun σ4 H4 => ∃ m', m' < m ∧ ∃ ρ4 G4, Iv m' ρ4 ∧ Ex G G4 ∧ Rel c G0 H0 ρ4 σ4 G4 H4, fun σ4 H4 ⟨m', lt, w⟩ => ⟨m', lt, w⟩, ?_⟩
    refine h1 hb _ _ _ _ _ (r2.stp s3) _ (fun ρ4 σ4 G4 H4 n e4 r4 => ?_) (fun d v G4 H4 n st e4 rp => q2 d v G4 H4 n st ((e2.trans s3.gg).trans e4) rp) q3
    obtain ⟨ρ5, m', w, lt, iv5⟩ := n
    exact ⟨m', lt, ρ5, G4, iv5, (e2.trans s3.gg).trans e4, r4.wk w⟩
  | false => exact iteF (q1 _ _ G3 H3 (h2 hb) (e2.trans s3.gg) (r2.stp s3))
end

/-! ### a def's body -/
section
variable {c : Ct} {K : PySem.W.Frag}
theorem Rel.init {G H : Hp} (ok : Ok c G H) {ds : List D} {vs : List V} (h : RpL c.K G ds vs) (N : List Str) : Rel c G H (ds.map (fun d => some (Cell.dat d)) ++ List.replicate (N.length - ds.length) none) (L2.start N vs) G H := by
  have hl := h.len
  refine ⟨.refl ok, ?_, fun i cl e => ?_, fun i j ci cj n e1 e2 m1 m2 => ?_⟩
  · unfold L2.start
    rw [List.length_append, List.length_append, List.length_map, List.length_map, List.length_replicate, List.length_replicate, hl]
  · by_cases hi : i < ds.length
    · rw [List.getElem?_append_left (by rw [List.length_map]; exact hi), List.getElem?_map, List.getElem?_eq_getElem hi] at e
      cases e
      obtain ⟨v, h1, h2⟩ := h.get (List.getElem?_eq_getElem hi)
      refine ⟨v, ?_, h2⟩
      unfold L2.start
      rw [List.getElem?_append_left (by rw [List.length_map, ← hl]; exact hi), List.getElem?_map, h1]
      rfl
    · rw [List.getElem?_append_right (by rw [List.length_map]; omega), List.getElem?_replicate] at e
      split at e <;> cases e
  · have nd : ∀ {m : Nat} {cm : Cell}, (ds.map (fun d => some (Cell.dat d)) ++ List.replicate (N.length - ds.length) none)[m]? = some (some cm) → cm.mu = false := fun {m cm} e => by
      by_cases hi : m < ds.length
      · rw [List.getElem?_append_left (by rw [List.length_map]; exact hi), List.getElem?_map, List.getElem?_eq_getElem hi] at e
        cases e
        rfl
      · rw [List.getElem?_append_right (by rw [List.length_map]; omega), List.getElem?_replicate] at e
        split at e <;> cases e
    rw [nd e1] at m1
    cases m1
/-- the frame at a def's entry -/
def entry (N : List Str) (ds : List D) : Env := ds.map (fun d => some (Cell.dat d)) ++ List.replicate (N.length - ds.length) none
/-- a promise over data, kept by the body -/
theorem body_ok {ι : Type} {args : ι → List D} {pre : ι → Prop} {post : ι → D → Prop} {t : TS} {N : List Str} {vs : List V} {H : Hp} {Q : VK} {E E' : XK} (h : SpF c args pre post vs H Q E)
    (as : ∀ i, pre i → AS { c with B := none } E' t (entry N (args i)) { nx := fun _ => post i .non, rt := post i }) : t { nx := fun _ H' => Q .non H', rt := Q } (L2.start N vs) H := by
  obtain ⟨i, G, ok, r, p, q⟩ := h
  refine as i p _ _ _ _ _ (Rel.init ok r N) _ (fun ρ' σ' G' H' n _ r' => q .non .non G' H' n r'.st .non) (fun d v G' H' n st _ rp => q d v G' H' n st rp) fun _ _ _ _ _ z => z.elim
theorem SpF.len {ι : Type} {args : ι → List D} {pre : ι → Prop} {post : ι → D → Prop} {n : Nat} (h : ∀ i, (args i).length = n) : ∀ vs H Q E, SpF c args pre post vs H Q E → vs.length = n := fun vs H Q E h' => by
  obtain ⟨i, G, ok, r, _⟩ := h'
  rw [← r.len, h i]
end
end Fx
/-! text FxMore -/
namespace Fx
open PySem L2 Evl PyProof.Rows

/-! ### plain data: ints, texts, lists and tuples of these, to a depth -/
def Pl : Nat → D → Prop
  | _, .int _ => True
  | _, .str x => PyData.strOk x = true
  | n + 1, .lst ds => ∀ d ∈ ds, Pl n d
  | n + 1, .tup ds => ∀ d ∈ ds, Pl n d
  | _, _ => False
mutual
def D.py : D → PyData
  | .non => .none
  | .bl b => .bool b
  | .int i => .int i
  | .str x => .str x
  | .lst ds => .list (D.pys ds)
  | .tup ds => .tuple (D.pys ds)
  | _ => .none
def D.pys : List D → List PyData
  | [] => []
  | d :: ds => D.py d :: D.pys ds
end
theorem pys_map : ∀ ds : List D, D.pys ds = ds.map D.py
  | [] => rfl
  | d :: ds => by rw [D.pys, pys_map ds]; rfl
theorem Pl.all {n : Nat} : ∀ {ds : List D}, (∀ d ∈ ds, Pl n d) → (∀ d, Pl n d → d.py.canLay0 = true ∧ d.py.depth ≤ n) → PyData.canLayAll0 (D.pys ds) = true ∧ PyData.depthAll (D.pys ds) ≤ n
  | [], _, _ => ⟨by rw [D.pys, PyData.canLayAll0], by rw [D.pys, PyData.depthAll]; exact Nat.zero_le _⟩
  | d :: ds, h, f => by
    obtain ⟨h1, h2⟩ := Pl.all (fun x hx => h x (List.mem_cons_of_mem _ hx)) f
    obtain ⟨h3, h4⟩ := f d (h d List.mem_cons_self)
    rw [D.pys, PyData.canLayAll0, PyData.depthAll, h1, h3]
    exact ⟨rfl, Nat.max_le.mpr ⟨h4, h2⟩⟩
theorem Pl.lay : ∀ {n : Nat} (d : D), Pl n d → d.py.canLay0 = true ∧ d.py.depth ≤ n
  | n, .int i, _ => ⟨by rw [D.py, PyData.canLay0], by rw [D.py, PyData.depth]; exact Nat.zero_le _⟩
  | n, .str x, h => ⟨by rw [D.py, PyData.canLay0]; cases n <;> exact h, by rw [D.py, PyData.depth]; exact Nat.zero_le _⟩
  | 0, .lst _, h => h.elim
  | 0, .tup _, h => h.elim
  | n + 1, .lst ds, h => by
    obtain ⟨h1, h2⟩ := Pl.all (n := n) h fun d hd => Pl.lay d hd
    rw [D.py, PyData.canLay0, PyData.depth]
    exact ⟨h1, Nat.succ_le_succ h2⟩
  | n + 1, .tup ds, h => by
    obtain ⟨h1, h2⟩ := Pl.all (n := n) h fun d hd => Pl.lay d hd
    rw [D.py, PyData.canLay0, PyData.depth]
    exact ⟨h1, Nat.succ_le_succ h2⟩
  | n, .non, h => by cases n <;> exact h.elim
  | n, .bl _, h => by cases n <;> exact h.elim
  | n, .obj _ _ _, h => by cases n <;> exact h.elim
  | n, .raw _, h => by cases n <;> exact h.elim
  | n, .scr _, h => by cases n <;> exact h.elim
theorem Pl.shaped {n : Nat} {d : D} (h : Pl n d) (hn : n ≤ 64) : SeqAt.shaped d.py = true := by
  obtain ⟨h1, h2⟩ := Pl.lay d h
  unfold SeqAt.shaped
  rw [h1, decide_eq_true (Nat.le_trans h2 hn)]
  rfl
theorem Pl.dpAll {K : PySem.W.Frag} {G H : Hp} {n : Nat} (e : Ex G H) (f : ∀ (d : D) (v : V), Pl n d → Rp K G d v → Dp K H v d.py) : ∀ {ds : List D} {vs : List V}, (∀ d ∈ ds, Pl n d) → RpL K G ds vs → DpAll K H vs (D.pys ds)
  | [], _, _, h => by cases h; exact .nil
  | d :: ds, _, p, h => by
    cases h with
    | cons a b => exact .cons (f d _ (p d List.mem_cons_self) a) (Pl.dpAll e f (fun x hx => p x (List.mem_cons_of_mem _ hx)) b)
theorem Pl.dp {K : PySem.W.Frag} {G H : Hp} (e : Ex G H) : ∀ {n : Nat} (d : D) (v : V), Pl n d → Rp K G d v → Dp K H v d.py
  | n, .int i, _, _, h => by cases h; exact .int i
  | n, .str x, _, _, h => by cases h; exact .str x
  | 0, .lst _, _, h, _ => h.elim
  | 0, .tup _, _, h, _ => h.elim
  | n + 1, .lst ds, _, p, h => by
    cases h with
    | lst a b => exact .lst (SqL.of (e _ _ a)) (Pl.dpAll e (fun d v p h => Pl.dp e d v p h) p b)
  | n + 1, .tup ds, _, p, h => by
    cases h with
    | tup a b => exact .tup (SqT.of (e _ _ a)) (Pl.dpAll e (fun d v p h => Pl.dp e d v p h) p b)
  | n, .non, _, h, _ => by cases n <;> exact h.elim
  | n, .bl _, _, h, _ => by cases n <;> exact h.elim
  | n, .obj _ _ _, _, h, _ => by cases n <;> exact h.elim
  | n, .raw _, _, h, _ => by cases n <;> exact h.elim
  | n, .scr _, _, h, _ => by cases n <;> exact h.elim
theorem Pl.eqvAll {n m : Nat} (f : ∀ d e, Pl n d → Pl m e → (PyData.eqv d.py e.py = true ↔ d = e)) : ∀ {ds es : List D}, (∀ d ∈ ds, Pl n d) → (∀ d ∈ es, Pl m d) → (PyData.eqvAll (D.pys ds) (D.pys es) = true ↔ ds = es)
  | [], [], _, _ => by rw [D.pys, PyData.eqvAll]; simp
  | [], _ :: _, _, _ => by rw [D.pys, D.pys, PyData.eqvAll]; simp
  | _ :: _, [], _, _ => by rw [D.pys, D.pys, PyData.eqvAll]; simp
  | d :: ds, e :: es, h1, h2 => by
    have r := Pl.eqvAll f (fun x hx => h1 x (List.mem_cons_of_mem _ hx)) (fun x hx => h2 x (List.mem_cons_of_mem _ hx)) (ds := ds) (es := es)
    have q := f d e (h1 d List.mem_cons_self) (h2 e List.mem_cons_self)
    rw [D.pys, D.pys, PyData.eqvAll, Bool.and_eq_true, q, r, List.cons.injEq]
theorem Pl.eqv : ∀ {n m : Nat} (d e : D), Pl n d → Pl m e → (PyData.eqv d.py e.py = true ↔ d = e)
  | n, m, .int i, .int j, _, _ => by rw [D.py, D.py, PyData.eqv]; simp
  | n, m, .int i, .str j, _, _ => by rw [D.py, D.py, PyData.eqv]; simp
  | n, m, .int i, .lst j, _, _ => by rw [D.py, D.py, PyData.eqv]; simp
  | n, m, .int i, .tup j, _, _ => by rw [D.py, D.py, PyData.eqv]; simp
  | n, m, .str i, .int j, _, _ => by rw [D.py, D.py, PyData.eqv]; simp
  | n, m, .str i, .str j, _, _ => by rw [D.py, D.py, PyData.eqv]; simp
  | n, m, .str i, .lst j, _, _ => by rw [D.py, D.py, PyData.eqv]; simp
  | n, m, .str i, .tup j, _, _ => by rw [D.py, D.py, PyData.eqv]; simp
  | n, m, .lst i, .int j, _, _ => by rw [D.py, D.py, PyData.eqv]; simp
  | n, m, .lst i, .str j, _, _ => by rw [D.py, D.py, PyData.eqv]; simp
  | n, m, .lst i, .tup j, _, _ => by rw [D.py, D.py, PyData.eqv]; simp
  | n, m, .tup i, .int j, _, _ => by rw [D.py, D.py, PyData.eqv]; simp
  | n, m, .tup i, .str j, _, _ => by rw [D.py, D.py, PyData.eqv]; simp
  | n, m, .tup i, .lst j, _, _ => by rw [D.py, D.py, PyData.eqv]; simp
  | n + 1, m + 1, .lst i, .lst j, h1, h2 => by rw [D.py, D.py, PyData.eqv, Pl.eqvAll (fun d e a b => Pl.eqv d e a b) h1 h2]; simp
  | n + 1, m + 1, .tup i, .tup j, h1, h2 => by rw [D.py, D.py, PyData.eqv, Pl.eqvAll (fun d e a b => Pl.eqv d e a b) h1 h2]; simp
  | 0, _, .lst i, .lst j, h1, h2 => h1.elim
  | 0, _, .tup i, .tup j, h1, h2 => h1.elim
  | _ + 1, 0, .lst i, .lst j, h1, h2 => h2.elim
  | _ + 1, 0, .tup i, .tup j, h1, h2 => h2.elim
  | n, _, .non, _, h, _ => by cases n <;> exact h.elim
  | n, _, .bl _, _, h, _ => by cases n <;> exact h.elim
  | n, _, .obj _ _ _, _, h, _ => by cases n <;> exact h.elim
  | n, _, .raw _, _, h, _ => by cases n <;> exact h.elim
  | n, _, .scr _, _, h, _ => by cases n <;> exact h.elim
  | _, n, _, .non, _, h => by cases n <;> exact h.elim
  | _, n, _, .bl _, _, h => by cases n <;> exact h.elim
  | _, n, _, .obj _ _ _, _, h => by cases n <;> exact h.elim
  | _, n, _, .raw _, _, h => by cases n <;> exact h.elim
  | _, n, _, .scr _, _, h => by cases n <;> exact h.elim

section
variable {c : Ct} {ρ : Env} {te ta tb tl th : TE} {x y z d : D} {k : D → Prop} {i : Nat} {E : XK} {A : AEnds}
/-! ### deep ==, in, index -/
theorem rop_eqD {n m : Nat} {b : Bool} (hx : Pl n x) (hy : Pl m y) (hb : b = true ↔ x = y) (hn : n ≤ 64 := by decide) (hm : m ≤ 64 := by decide) : ROpE c (rEqD c.K) x y (.bl b) := fun G H ok v u rx ry Q q => by
  refine ⟨_, _, Pl.dp ok.gh x v hx rx, Pl.dp ok.gh y u hy ry, hx.shaped hn, hy.shaped hm, ?_⟩
  have e : PyData.eqv x.py y.py = b := by
    rw [Bool.eq_iff_iff, Pl.eqv x y hx hy, hb]
  rw [e]
  exact q _ _ G H rfl (.refl ok) (.bl b)
theorem rop_neD {n m : Nat} {b : Bool} (hx : Pl n x) (hy : Pl m y) (hb : b = true ↔ x = y) (hn : n ≤ 64 := by decide) (hm : m ≤ 64 := by decide) : ROpE c (rNeD c.K) x y (.bl (!b)) := fun G H ok v u rx ry Q q => by
  refine ⟨_, _, Pl.dp ok.gh x v hx rx, Pl.dp ok.gh y u hy ry, hx.shaped hn, hy.shaped hm, ?_⟩
  have e : PyData.eqv x.py y.py = b := by
    rw [Bool.eq_iff_iff, Pl.eqv x y hx hy, hb]
  rw [e]
  exact q _ _ G H rfl (.refl ok) (.bl _)
theorem any_eqv {n m : Nat} {ds : List D} (hx : Pl n x) (hs : ∀ d ∈ ds, Pl m d) {b : Bool} (hb : b = true ↔ x ∈ ds) : ((D.pys ds).any fun z => PyData.eqv z x.py) = b := by
  rw [Bool.eq_iff_iff, hb, List.any_eq_true, pys_map]
  constructor
  · rintro ⟨z, hz, e⟩
    obtain ⟨d, hd, rfl⟩ := List.mem_map.mp hz
    rw [← (Pl.eqv d x (hs d hd) hx).mp e]
    exact hd
  · intro h
    exact ⟨_, List.mem_map.mpr ⟨x, h, rfl⟩, (Pl.eqv x x hx hx).mpr rfl⟩
/-- x not in a list of one's own -/
theorem ev_notInM {n m : Nat} {ds : List D} {b : Bool} (ha : EvE c ta ρ x) (hi : ρ[i]? = some (some (.ml ds))) (hx : Pl n x) (hs : ∀ d ∈ ds, Pl m d) (hb : b = true ↔ x ∈ ds) (hn : n ≤ 64 := by decide) (hm : m + 1 ≤ 64 := by decide) :
    EvE c (tOp (rNotInD c.K) ta (tVar i)) ρ (.bl (!b)) := fun G0 H0 σ G H r Q q => by
  refine ha _ _ _ _ _ r _ fun x' v G1 H1 kx s1 rx => ?_
  subst kx
  obtain ⟨v', h1, p, vs, rfl, ow, hp, hl⟩ := (r.stp s1).slot i _ hi
  refine ⟨_, h1, ?_⟩
  refine ⟨_, _, Pl.dp s1.ok.gh _ v hx rx, .lst (SqL.of hp) (Pl.dpAll s1.ok.gh (fun d v p h => Pl.dp s1.ok.gh d v p h) hs hl), hx.shaped hn, Pl.shaped (n := m + 1) (d := .lst ds) hs hm, ?_⟩
  rw [any_eqv hx hs hb]
  exact q _ _ G1 H1 rfl s1 (.bl _)
def rMeth (K : PySem.W.Frag) (T : String) (r : V → List V → Hp → VK → Prop) (to te : TE) : TE := tBM K T r to (tCons te tNil)
theorem idx_eqv {n m : Nat} {ds : List D} {j : Nat} (hx : Pl n x) (hs : ∀ d ∈ ds, Pl m d) (hj : ds[j]? = some x) (hf : ∀ (l : Nat) y, l < j → ds[l]? = some y → y ≠ x) :
    (D.pys ds)[j]? = some x.py ∧ PyData.eqv x.py x.py = true ∧ ∀ (l : Nat) (z' : PyData), l < j → (D.pys ds)[l]? = some z' → PyData.eqv z' x.py = false := by
  refine ⟨by rw [pys_map, List.getElem?_map, hj]; rfl, (Pl.eqv x x hx hx).mpr rfl, fun l z' hl hz => ?_⟩
  rw [pys_map, List.getElem?_map] at hz
  cases e : ds[l]? with
  | none => rw [e] at hz; cases hz
  | some y =>
    rw [e] at hz
    cases hz
    cases q : PyData.eqv y.py x.py with
    | false => rfl
    | true => exact absurd ((Pl.eqv y x (hs y (List.mem_of_getElem? e)) hx).mp q) (hf l y hl e)
/-- xs.index(x), data -/
theorem ev_index {n m : Nat} {ds : List D} {j : Nat} (ho : EvE c ta ρ (.lst ds)) (he : EvE c te ρ x) (hx : Pl n x) (hs : ∀ d ∈ ds, Pl m d) (hj : ds[j]? = some x) (hf : ∀ (l : Nat) y, l < j → ds[l]? = some y → y ≠ x) (hn : n ≤ 64 := by decide) (hm : m + 1 ≤ 64 := by decide) :
    EvE c (tBM c.K "list" (rIndexD c.K) ta (tCons te tNil)) ρ (.int (j : Nat)) := fun G0 H0 σ G H r Q q => by
  refine ho _ _ _ _ _ r _ fun x' v G1 H1 kx s1 rx => ?_
  subst kx
  obtain ⟨a, vs, rfl, ha, hl⟩ := rx.list
  refine ⟨.inl ⟨rfl, _, SqL.of (s1.ok.gh _ _ ha)⟩, ?_⟩
  refine he _ _ _ _ _ (r.stp s1) _ fun y u G2 H2 ky s2 ry => ?_
  subst ky
  obtain ⟨q1, q2, q3⟩ := idx_eqv hx hs hj hf
  exact ⟨a, u, _, _, j, _, rfl, rfl, .lst (SqL.of (s2.ok.gh _ _ (s2.gg _ _ ha))) (Pl.dpAll s2.ok.gh (fun d v p h => Pl.dp s2.ok.gh d v p h) hs (hl.up s2.gg)), Pl.dp s2.ok.gh _ u hx ry, Pl.shaped (n := m + 1) (d := .lst ds) hs hm, hx.shaped hn, q1, q2, q3, q _ _ G2 H2 rfl (s1.trans s2) (.int _)⟩
/-- .. of a list of one's own -/
theorem ev_indexM {n m : Nat} {ds : List D} {j : Nat} (hi : ρ[i]? = some (some (.ml ds))) (he : EvE c te ρ x) (hx : Pl n x) (hs : ∀ d ∈ ds, Pl m d) (hj : ds[j]? = some x) (hf : ∀ (l : Nat) y, l < j → ds[l]? = some y → y ≠ x) (hn : n ≤ 64 := by decide) (hm : m + 1 ≤ 64 := by decide) :
    EvE c (tBM c.K "list" (rIndexD c.K) (tVar i) (tCons te tNil)) ρ (.int (j : Nat)) := fun G0 H0 σ G H r Q q => by
  obtain ⟨v', h1, p, vs, rfl, ow, hp, hl⟩ := r.slot i _ hi
  refine ⟨_, h1, .inl ⟨rfl, _, SqL.of hp⟩, ?_⟩
  refine he _ _ _ _ _ r _ fun y u G2 H2 ky s2 ry => ?_
  subst ky
  obtain ⟨q1, q2, q3⟩ := idx_eqv hx hs hj hf
  have hp2 := s2.hh p _ ow.2.2 (fun _ z => by cases z) hp
  exact ⟨p, u, _, _, j, _, rfl, rfl, .lst (SqL.of hp2) (Pl.dpAll s2.ok.gh (fun d v p h => Pl.dp s2.ok.gh d v p h) hs (hl.up s2.gg)), Pl.dp s2.ok.gh _ u hx ry, Pl.shaped (n := m + 1) (d := .lst ds) hs hm, hx.shaped hn, q1, q2, q3, q _ _ G2 H2 rfl s2 (.int _)⟩

/-! ### tuples and lists joined, cut -/
theorem rop_catT {ds es : List D} (hz : ds.length + es.length ≤ 100000) : ROpE c (rCatA c.K) (.tup ds) (.tup es) (.tup (ds ++ es)) := fun G H ok v u rx ry Q q => by
  obtain ⟨a, vs, rfl, ha, hl⟩ := rx.tuple
  obtain ⟨b, ws, rfl, hb, hm⟩ := ry.tuple
  refine ⟨a, b, vs, ws, rfl, rfl, SqT.of (ok.gh _ _ ha), SqT.of (ok.gh _ _ hb), by rw [← hl.len, ← hm.len]; exact sz_ok hz, fun e => ?_, fun e1 e2 => ?_, fun e1 e2 p hp => ?_⟩
  · subst e
    have : ds = [] := List.eq_nil_of_length_eq_zero hl.len
    subst this
    exact q _ _ G H rfl (.refl ok) (.tup hb hm)
  · subst e2
    have : es = [] := List.eq_nil_of_length_eq_zero hm.len
    subst this
    exact q _ _ G H rfl (.refl ok) (by rw [List.append_nil]; exact .tup ha hl)
  · have s := Stp.lay (o := .tup (vs ++ ws)) ok hp
    exact q _ _ _ _ rfl s (.tup upd_same ((hl.append hm).up s.gg))
theorem rop_catL {ds es : List D} (hz : ds.length + es.length ≤ 100000) : ROpE c rCat (.lst ds) (.lst es) (.lst (ds ++ es)) := fun G H ok v u rx ry Q q => by
  obtain ⟨a, vs, rfl, ha, hl⟩ := rx.list
  obtain ⟨b, ws, rfl, hb, hm⟩ := ry.list
  refine ⟨a, b, vs, ws, rfl, rfl, ok.gh _ _ ha, ok.gh _ _ hb, by rw [← hl.len, ← hm.len]; exact sz_ok hz, fun p hp => ?_⟩
  have s := Stp.lay (o := .lst (vs ++ ws)) ok hp
  exact q _ _ _ _ rfl s (.lst upd_same ((hl.append hm).up s.gg))
theorem eo_none : EvO c tNoPart ρ none := fun G0 H0 σ G H r Q q => q G H (.refl r.ok)
theorem eo_some {n : Int} (h : EvE c te ρ (.int n)) : EvO c (tPart te) ρ (some n) := fun G0 H0 σ G H r Q q => by
  refine h _ _ _ _ _ r _ fun x v G1 H1 kx s1 rx => ?_
  subst kx
  cases rx
  exact ⟨n, rfl, q G1 H1 s1⟩
def cutD (xs : List D) (lo hi : Option Int) : List D := (xs.drop (HT.sIx xs.length 0 lo)).take (HT.sIx xs.length xs.length hi - HT.sIx xs.length 0 lo)
theorem ev_slL {to1 to2 : TO} {lo hi : Option Int} {ds : List D} (h : EvE c te ρ (.lst ds)) (h1 : EvO c to1 ρ lo) (h2 : EvO c to2 ρ hi) : EvE c (tSl (rSlL c.K) te to1 to2) ρ (.lst (cutD ds lo hi)) := fun G0 H0 σ G H r Q q => by
  refine h _ _ _ _ _ r _ fun x v G1 H1 kx s1 rx => ?_
  subst kx
  refine h1 _ _ _ _ _ (r.stp s1) _ fun G2 H2 s2 => ?_
  refine h2 _ _ _ _ _ ((r.stp s1).stp s2) _ fun G3 H3 s3 => ?_
  obtain ⟨a, vs, rfl, ha, hl⟩ := rx.list
  have s123 := (s1.trans s2).trans s3
  have ha3 := s3.gg _ _ (s2.gg _ _ ha)
  refine ⟨a, vs, rfl, SqL.of (s3.ok.gh _ _ ha3), fun p hp => ?_⟩
  have s := Stp.lay (o := .lst (cutV vs lo hi)) s3.ok hp
  refine q _ _ _ _ rfl (s123.trans s) (.lst upd_same ?_)
  unfold cutD cutV
  rw [hl.len]
  exact ((((hl.up s2.gg).up s3.gg).drop _).take _).up s.gg
theorem ev_slS {to1 to2 : TO} {lo hi : Option Int} {z : Str} (h : EvE c te ρ (.str z)) (h1 : EvO c to1 ρ lo) (h2 : EvO c to2 ρ hi) (hz : z.length ≤ sizeLine) : EvE c (tSl rSlS te to1 to2) ρ (.str (cutS z lo hi)) := fun G0 H0 σ G H r Q q => by
  refine h _ _ _ _ _ r _ fun x v G1 H1 kx s1 rx => ?_
  subst kx
  cases rx
  refine h1 _ _ _ _ _ (r.stp s1) _ fun G2 H2 s2 => ?_
  refine h2 _ _ _ _ _ ((r.stp s1).stp s2) _ fun G3 H3 s3 => ?_
  exact ⟨z, rfl, hz, q _ _ G3 H3 rfl ((s1.trans s2).trans s3) (.str _)⟩

/-! ### methods of texts -/
theorem ev_m1 {r : V → List V → Hp → VK → Prop} {ka : D} (ho : EvE c ta ρ ka) (hs : ∃ z, ka = .str z) (he : EvE c te ρ x) (hr : ∀ G H, Ok c G H → ∀ v u, Rp c.K G ka v → Rp c.K G x u → ∀ Q : VK, (∀ d w G' H', k d → Stp c G H G' H' → Rp c.K G' d w → Q w H') → r v [u] H Q) : Ev c (tM1 r ta te) ρ k := fun G0 H0 σ G H rel Q q => by
  refine ho _ _ _ _ _ rel _ fun x' v G1 H1 kx s1 rx => ?_
  subst kx
  obtain ⟨z, rfl⟩ := hs
  have rx' := rx
  cases rx
  refine ⟨⟨z, rfl⟩, ?_⟩
  refine he _ _ _ _ _ (rel.stp s1) _ fun y u G2 H2 ky s2 ry => ?_
  subst ky
  exact hr G2 H2 s2.ok _ u (rx'.up s2.gg) ry Q fun d w G' H' kd s3 rd => q d w G' H' kd ((s1.trans s2).trans s3) rd
def rJoinF (K : PySem.W.Frag) : V → List V → Hp → VK → Prop := fun x xs H Q => ∃ a p, ∃ ys : List Str, x = .str a ∧ xs = [.ref p] ∧ (SqL K H p (ys.map V.str) ∨ SqT K H p (ys.map V.str)) ∧
  (ys.map (·.length)).sum + ys.length * a.length ≤ 16777216 ∧ Q (.str (Txt.join a ys)) H
theorem ev_join {a : Str} {ys : List Str} (ho : EvE c ta ρ (.str a)) (he : EvE c te ρ (.lst (ys.map D.str))) (hz : (ys.map (·.length)).sum + ys.length * a.length ≤ 16777216) : EvE c (tM1 (rJoinF c.K) ta te) ρ (.str (Txt.join a ys)) :=
  ev_m1 ho ⟨_, rfl⟩ he fun G H ok v u rx ry Q q => by
    cases rx
    obtain ⟨p, vs, rfl, hp, hl⟩ := ry.list
    have e := hl.strs ys
    subst e
    exact ⟨a, p, ys, rfl, rfl, .inl (SqL.of (ok.gh _ _ hp)), hz, q _ _ G H rfl (.refl ok) (.str _)⟩
def rIdxS : V → List V → Hp → VK → Prop := fun x xs H Q => ∃ (a b : Str) (k : Nat), x = .str a ∧ xs = [.str b] ∧ Txt.index0 a b = some k ∧ Q (.int (k : Nat)) H
theorem mt_idxS {X : Cx} : MtR X "str.index" rIdxS := by
  intro pins s σ H x xs v us Q I rx rs h
  obtain ⟨a, b, k, rfl, rfl, hk, w⟩ := h
  obtain ⟨t, rfl⟩ := rx
  cases rs with
  | cons r1 rs =>
    cases rs
    obtain ⟨u, rfl⟩ := r1
    cases q : Builtin.Str.occurrences a b 0 a.length 1 with
    | nil =>
      unfold Txt.index0 at hk
      rw [q] at hk
      cases hk
    | cons k' rest =>
      have e : k' = k := by
        unfold Txt.index0 at hk
        rw [q] at hk
        exact Option.some.inj hk
      subst e
      exact PySem.SC.index q ⟨.int (k' : Nat), H, I.tok _, ⟨_, rfl⟩, w⟩
theorem ev_sidx {a b : Str} {k : Nat} (ho : EvE c ta ρ (.str a)) (he : EvE c te ρ (.str b)) (hk : Txt.index0 a b = some k) : EvE c (tM1 rIdxS ta te) ρ (.int (k : Nat)) :=
  ev_m1 ho ⟨_, rfl⟩ he fun G H ok v u rx ry Q q => by
    cases rx
    cases ry
    exact ⟨a, b, k, rfl, rfl, hk, q _ _ G H rfl (.refl ok) (.int _)⟩
def rCountS : V → List V → Hp → VK → Prop := fun x xs H Q => ∃ a b, x = .str a ∧ xs = [.str b] ∧ Q (.int (Txt.count a b)) H
theorem mt_countS {X : Cx} : MtR X "str.count" rCountS := mt_count
theorem ev_scount {a b : Str} (ho : EvE c ta ρ (.str a)) (he : EvE c te ρ (.str b)) : EvE c (tM1 rCountS ta te) ρ (.int (Txt.count a b)) :=
  ev_m1 ho ⟨_, rfl⟩ he fun G H ok v u rx ry Q q => by
    cases rx
    cases ry
    exact ⟨a, b, rfl, rfl, q _ _ G H rfl (.refl ok) (.int _)⟩
theorem mt_joinF {X : Cx} : MtR X "str.join" (rJoinF X.K) := mt_join
end
end Fx
/-! text FxDict -/
namespace Fx
open PySem L2 Evl PyProof.Rows

/-! ### dicts of one's own, their keys ints or texts -/
def valD {κ : Type} [DecidableEq κ] (kds : List (κ × D)) (k : κ) : Option D := (kds.find? fun kv => decide (kv.1 = k)).map (·.2)
def putD {κ : Type} [DecidableEq κ] (kds : List (κ × D)) (k : κ) (d : D) : List (κ × D) := if (valD kds k).isSome then kds.map (fun kv => if kv.1 = k then (kv.1, d) else kv) else kds ++ [(k, d)]
theorem valD_nil {κ : Type} [DecidableEq κ] {k : κ} : valD ([] : List (κ × D)) k = none := rfl
theorem KR.val {K : PySem.W.Frag} {G : Hp} {k : Key} : ∀ {a : List (Key × D)} {b : List (Key × V)}, KR K G a b → (valD a k = none ∧ valV b k = none) ∨ ∃ d v, valD a k = some d ∧ valV b k = some v ∧ Rp K G d v
  | _, _, .nil => .inl ⟨rfl, rfl⟩
  | _, _, .cons (a := p) (b := q) x y => by
    by_cases e : p.1 = k
    · have e' : q.1 = k := x.1.symm.trans e
      exact .inr ⟨p.2, q.2, by simp [valD, List.find?_cons, e], by simp [valV, List.find?_cons, e'], x.2⟩
    · have e' : ¬ q.1 = k := fun z => e (x.1.trans z)
      rcases KR.val (k := k) y with ⟨h1, h2⟩ | ⟨d, v, h1, h2, h3⟩
      · exact .inl ⟨by simpa [valD, List.find?_cons, e] using h1, by simpa [valV, List.find?_cons, e'] using h2⟩
      · exact .inr ⟨d, v, by simpa [valD, List.find?_cons, e] using h1, by simpa [valV, List.find?_cons, e'] using h2, h3⟩
theorem KR.isS {K : PySem.W.Frag} {G : Hp} {k : Key} {a : List (Key × D)} {b : List (Key × V)} (h : KR K G a b) : (valV b k).isSome = (valD a k).isSome := by
  rcases KR.val h (k := k) with ⟨h1, h2⟩ | ⟨d, v, h1, h2, h3⟩ <;> rw [h1, h2] <;> rfl
theorem KR.get {K : PySem.W.Frag} {G : Hp} {k : Key} {a : List (Key × D)} {b : List (Key × V)} {d : D} (h : KR K G a b) (e : valD a k = some d) : ∃ v, valV b k = some v ∧ Rp K G d v := by
  rcases KR.val h (k := k) with ⟨h1, h2⟩ | ⟨d', v, h1, h2, h3⟩
  · rw [h1] at e; cases e
  · rw [h1] at e; cases e; exact ⟨v, h2, h3⟩
theorem KR.put {K : PySem.W.Frag} {G : Hp} {k : Key} {d : D} {v : V} {a : List (Key × D)} {b : List (Key × V)} (h : KR K G a b) (r : Rp K G d v) : KR K G (putD a k d) (putK b k v) := by
  unfold putD putK
  rw [valV_any, KR.isS h]
  split
  · rename_i hb0
    clear hb0
    induction h with
    | nil => exact .nil
    | @cons p q ps qs x y ih =>
      rw [List.map_cons, List.map_cons]
      refine .cons ?_ ih
      by_cases e : p.1 = k
      · rw [if_pos e, if_pos (x.1.symm.trans e)]
        exact ⟨x.1, r⟩
      · rw [if_neg e, if_neg (fun z => e (x.1.trans z))]
        exact x
  · exact Paired.snoc h ⟨rfl, r⟩
theorem KR.len {K : PySem.W.Frag} {G : Hp} {a : List (Key × D)} {b : List (Key × V)} (h : KR K G a b) : a.length = b.length := Paired.length h
def keyD : Key → D
  | .inl n => .int n
  | .inr x => .str x
theorem keyD_v {K : PySem.W.Frag} {G : Hp} {k : Key} {v : V} (h : Rp K G (keyD k) v) : v = kV k := by
  cases k with
  | inl n => cases h; rfl
  | inr x => cases h; rfl
section
variable {c : Ct} {ρ : Env} {te ta tb tk tv : TE} {x y z d : D} {k : D → Prop} {i : Nat} {E : XK} {A : AEnds} {t : TS}
theorem ev_inK {kds : List (Key × D)} {key : Key} (ha : EvE c ta ρ (keyD key)) (hi : ρ[i]? = some (some (.mk kds))) : EvE c (tDIn ta (tVar i)) ρ (.bl (valD kds key).isSome) := fun G0 H0 σ G H r Q q => by
  refine ha _ _ _ _ _ r _ fun x' v G1 H1 kx s1 rx => ?_
  subst kx
  obtain ⟨v', h1, p, kvs, rfl, ow, hp, hl⟩ := (r.stp s1).slot i _ hi
  have e := keyD_v rx
  subst e
  exact ⟨_, h1, p, valV kvs key, rfl, DGet.k hp, by rw [KR.isS hl]; exact q _ _ G1 H1 rfl s1 (.bl _)⟩
theorem ev_notInK {kds : List (Key × D)} {key : Key} (ha : EvE c ta ρ (keyD key)) (hi : ρ[i]? = some (some (.mk kds))) : EvE c (tDNotIn ta (tVar i)) ρ (.bl (!(valD kds key).isSome)) := fun G0 H0 σ G H r Q q => by
  refine ha _ _ _ _ _ r _ fun x' v G1 H1 kx s1 rx => ?_
  subst kx
  obtain ⟨v', h1, p, kvs, rfl, ow, hp, hl⟩ := (r.stp s1).slot i _ hi
  have e := keyD_v rx
  subst e
  exact ⟨_, h1, p, valV kvs key, rfl, DGet.k hp, by rw [KR.isS hl]; exact q _ _ G1 H1 rfl s1 (.bl _)⟩
theorem ev_getK {kds : List (Key × D)} {key : Key} (hi : ρ[i]? = some (some (.mk kds))) (ha : EvE c ta ρ (keyD key)) (hv : valD kds key = some d) : EvE c (tDGet (tVar i) ta) ρ d := fun G0 H0 σ G H r Q q => by
  obtain ⟨v', h1, p, kvs, rfl, ow, hp, hl⟩ := r.slot i _ hi
  refine ⟨_, h1, ?_⟩
  refine ha _ _ _ _ _ r _ fun x' v G1 H1 kx s1 rx => ?_
  subst kx
  have e := keyD_v rx
  subst e
  obtain ⟨w, h2, h3⟩ := KR.get hl hv
  have hp1 := s1.hh p _ ow.2.2 (fun _ z => by cases z) hp
  refine ⟨p, w, rfl, ?_, q d w G1 H1 rfl s1 (h3.up s1.gg)⟩
  rw [← h2]
  exact DGet.k hp1
theorem as_putK {kds : List (Key × D)} {key : Key} (hi : ρ[i]? = some (some (.mk kds))) (hv : EvE c tv ρ d) (hk : EvE c tk ρ (keyD key)) (hz : kds.length < 100000) (hn : A.nx (ρ.set i (some (.mk (putD kds key d))))) : AS c E (sDPut (tVar i) tk tv) ρ A := fun G0 H0 σ G H r Dn q1 q2 q3 => by
  refine hv _ _ _ _ _ r _ fun d' w G1 H1 kd s1 rd => ?_
  subst kd
  obtain ⟨v', h1, p, kvs, rfl, ow, hp, hl⟩ := (r.stp s1).slot i _ hi
  refine ⟨_, h1, ?_⟩
  refine hk _ _ _ _ _ (r.stp s1) _ fun x' v G2 H2 kx s2 rx => ?_
  subst kx
  have e := keyD_v rx
  subst e
  have hp2 := s2.hh p _ ow.2.2 (fun _ z => by cases z) hp
  have r2 := (r.stp s1).stp s2
  refine ⟨p, _, rfl, DPut.k hp2 (by rw [← KR.len hl]; exact sz_lt hz), ?_⟩
  exact q1 _ _ G2 _ hn (s1.gg.trans s2.gg) (r2.mutA hi rfl h1 (ow.stp hp s2) hp2 plain_dK rfl ⟨p, _, rfl, ow.stp hp s2, upd_same, KR.put (KR.up s2.gg hl) (rd.up s2.gg)⟩)
theorem as_newK (hn : A.nx (ρ.set i (some (.mk [])))) : AS c E (tAsg tDNewK (gName i)) ρ A := fun G0 H0 σ G H r Dn q1 q2 q3 => fun p hp =>
  q1 _ _ G _ hn (Ex.refl G) (r.newA (o' := .dK []) hp ⟨p, [], rfl, ⟨r.st.hn p hp, fresh_back r.ok.gh hp, r.ok.nb hp⟩, upd_same, .nil⟩)
/-- {k: e}, one pair -/
theorem as_disp1 {key : Key} (hk : EvE c tk ρ (keyD key)) (hv : EvE c tv ρ d) (hn : A.nx (ρ.set i (some (.mk [(key, d)])))) : AS c E (tAsg (tDisp [(tk, tv)]) (gName i)) ρ A := fun G0 H0 σ G H r Dn q1 q2 q3 => fun p hp => by
  have s0 := Stp.layM (o := .dK []) r.ok hp
  have r0 := r.stp s0
  show tk σ (upd H p (.dK [])) _
  refine hk _ _ _ _ _ r0 _ fun x' v G1 H1 kx s1 rx => ?_
  refine hv _ _ _ _ _ (r0.stp s1) _ fun y' u G2 H2 ky s2 ry => ?_
  subst kx ky
  have e := keyD_v rx
  subst e
  have nb := r.ok.nb hp
  have gp : G p = none := fresh_back r.ok.gh hp
  have h1 : H1 p = some (.dK []) := s1.hh p _ nb (fun _ z => by cases z) upd_same
  have h2 : H2 p = some (.dK []) := s2.hh p _ nb (fun _ z => by cases z) h1
  have g1 : G1 p = none := by
    cases q : G1 p with
    | none => rfl
    | some w =>
      rcases s1.nw p w q with z | z
      · rw [gp] at z; cases z
      · rw [upd_same] at z; cases z
  have g2 : G2 p = none := by
    cases q : G2 p with
    | none => rfl
    | some w =>
      rcases s2.nw p w q with z | z
      · rw [g1] at z; cases z
      · rw [h1] at z; cases z
  refine ⟨h2, [(key, u)], rfl, by simp, ?_⟩
  have e2 : mergeK [] [(key, u)] = [(key, u)] := rfl
  rw [e2]
  have r2 : Rel c G0 H0 (ρ.set i (some (.mk []))) (σ.set i (some (.ref p))) G2 H2 := (Rel.newA (cl' := .mk []) (i := i) r (o' := .dK []) hp ⟨p, [], rfl, ⟨r.st.hn p hp, gp, nb⟩, upd_same, .nil⟩).stp (s1.trans s2)
  by_cases hil : i < ρ.length
  · have r3 := r2.mutA (i := i) (cl := .mk []) (cl' := .mk [(key, y')]) (p := p) (o := .dK []) (o' := .dK [(key, u)]) (List.getElem?_set_self hil) rfl (List.getElem?_set_self (by rw [r.len]; exact hil)) ⟨r.st.hn p hp, g2, nb⟩ h2 plain_dK rfl
      ⟨p, [(key, u)], rfl, ⟨r.st.hn p hp, g2, nb⟩, upd_same, .cons ⟨rfl, ry⟩ .nil⟩
    rw [List.set_set] at r3
    exact q1 _ _ G2 _ hn (s1.gg.trans s2.gg) r3
  · have e1 : ρ.set i (some (.mk [(key, y')])) = ρ := List.set_eq_of_length_le (by omega)
    have e3 : σ.set i (some (V.ref p)) = σ := List.set_eq_of_length_le (by rw [r.len]; omega)
    rw [e1] at hn
    have e4 : ρ.set i (some (.mk [])) = ρ := List.set_eq_of_length_le (by omega)
    rw [e4, e3] at r2
    show Dn.nx (σ.set i (some (V.ref p))) _
    rw [e3]
    refine q1 _ _ G2 _ hn (s1.gg.trans s2.gg) ⟨r2.st.mut (r.st.hn p hp) g2 nb h2 plain_dK, r2.len, fun j cl ej => ?_, r2.sep⟩
    obtain ⟨v, h5, h6⟩ := r.slot j cl ej
    refine ⟨v, h5, (h6.stp r.st.ok ((s0.trans s1).trans s2)).upd (fun mu z => ?_) (fun o2 e2 => by rw [h2] at e2; cases e2; exact plain_dK) (r.st.hn p hp)⟩
    obtain ⟨q, o, e5, _, h7, _⟩ := h6.own mu
    rw [z] at e5
    cases e5
    rw [hp] at h7
    cases h7
/-- {k: e for ..}: a new dict at a name -/
theorem as_dc {wi : TI} {g : TG} {vs : List Nat} {xs : List D} (h : EvI c wi ρ xs) (hz : xs.length ≤ 100000) (fk : D → Key) (fd : D → D)
    (ht : ∀ (i : Nat) x, xs[i]? = some x → ∃ ρ' js, EvG c g (wipeE ρ vs) x ρ' js ∧ (∀ j, j ∈ js → j ∈ vs) ∧ EvE c tk ρ' (keyD (fk x)) ∧ EvE c tv ρ' (fd x))
    (hn : A.nx (ρ.set i (some (.mk (xs.foldl (fun kds x => putD kds (fk x) (fd x)) []))))) : AS c E (tAsg (tDc wi g tYes tk tv vs) (gName i)) ρ A := fun G0 H0 σ G H r Dn q1 q2 q3 => by
  refine h _ _ _ _ _ r _ fun J G1 H1 s1 itd => ?_
  intro Dl hD
  have r1 := r.stp s1
  have nb := s1.ok.nb hD
  refine ⟨fun i m H' => m = xs.length - i ∧ i ≤ xs.length ∧ ∃ G' us, Stp c G1 H1 G' H' ∧ G' Dl = none ∧ H' Dl = some (.dK us) ∧ KR c.K G' ((xs.take i).foldl (fun kds x => putD kds (fk x) (fd x)) []) us ∧ us.length ≤ i, ⟨xs.length, by omega, Nat.zero_le _, G1, [], .layM s1.ok hD, fresh_back s1.ok.gh hD, upd_same, .nil, Nat.le_refl _⟩, ?_⟩
  rintro j m H2 ⟨rfl, hi, G2, us, s2, gD, hH, hl, hlen⟩
  obtain ⟨stop, go⟩ := itd G2 H2 s2.ok s2.gg
  by_cases hlt : j < xs.length
  · refine .inr ?_
    have hx : xs[j]? = some xs[j] := List.getElem?_eq_getElem hlt
    obtain ⟨g1, g2⟩ := go j _ hx
    refine ⟨g1, fun H' => j + 1 ≤ xs.length ∧ ∃ G' us, Stp c G1 H1 G' H' ∧ G' Dl = none ∧ H' Dl = some (.dK us) ∧ KR c.K G' ((xs.take (j + 1)).foldl (fun kds x => putD kds (fk x) (fd x)) []) us ∧ us.length ≤ j + 1, fun H' p => ⟨xs.length - (j + 1), by omega, rfl, p⟩, fun v H3 hy => ?_⟩
    obtain ⟨G3, s3, rx⟩ := g2 v H3 hy
    obtain ⟨ρ', js, eg, hjs, ek, ev⟩ := ht j _ hx
    have r3 : Rel c G0 H0 (wipeE ρ vs) (L2.wipe σ vs) G3 H3 := ((r1.stp s2).stp s3).wipe vs
    refine eg _ _ _ _ _ r3 v rx _ fun σ' r4 hl4 h4 => ⟨?_, ?_⟩
    · rw [← wipe_wipe σ vs]
      exact wipe_eq hl4 fun k hk => h4 k fun z => hk (hjs k z)
    unfold tYes
    simp only [if_true]
    have gone : ∀ {Ga Ha Gb Hb : Hp}, Stp c Ga Ha Gb Hb → Ga Dl = none → Ha Dl = some (.dK us) → Gb Dl = none := fun {Ga Ha Gb Hb} s a b => by
      cases z : Gb Dl with
      | none => rfl
      | some u =>
        rcases s.nw Dl u z with y | y
        · rw [a] at y; cases y
        · rw [b] at y; cases y
    have gD3 := gone s3 gD hH
    have hD3 : H3 Dl = some (.dK us) := s3.hh Dl _ nb (fun _ z => by cases z) hH
    refine ek _ _ _ _ _ r4 _ fun y u G4 H4 ky s4 ry => ?_
    have gD4 := gone s4 gD3 hD3
    have hD4 : H4 Dl = some (.dK us) := s4.hh Dl _ nb (fun _ z => by cases z) hD3
    refine ev _ _ _ _ _ (r4.stp s4) _ fun z w G5 H5 kz s5 rz => ?_
    have hD5 : H5 Dl = some (.dK us) := s5.hh Dl _ nb (fun _ z => by cases z) hD4
    have gD5 := gone s5 gD4 hD4
    subst ky kz
    have e := keyD_v ry
    subst e
    have s6 : Stp c G1 H1 G5 H5 := ((s2.trans s3).trans s4).trans s5
    refine ⟨us, fk xs[j], rfl, hD5, ?_, hlt, G5, putK us (fk xs[j]) w, s6.mut hD gD5 nb hD5 plain_dK, gD5, upd_same, ?_, ?_⟩
    · have := sz_ok (show us.length + 1 ≤ 100000 by omega)
      omega
    · rw [List.take_add_one, hx]
      rw [Option.toList_some, List.foldl_append]
      exact KR.put (KR.up s5.gg (KR.up s4.gg (KR.up s3.gg hl))) rz
    · have := length_putK us (fk xs[j]) w
      omega
  · have e : j = xs.length := by omega
    subst e
    refine .inl ⟨stop _ (Nat.le_refl _), ?_⟩
    rw [List.take_length] at hl
    have sl : Stp c G H G2 H2 := s1.trans s2
    refine q1 _ _ G2 _ hn sl.gg ?_
    have r2 : Rel c G0 H0 ρ σ G2 H2 := r.stp sl
    -- the new dict at its name
    have fr : ∀ {j : Nat} {cj : Cell} {v : V}, ρ[j]? = some (some cj) → σ[j]? = some (some v) → cj.mu = true → v ≠ .ref Dl := fun {j cj v} e1 e2 m z => by
      obtain ⟨v', h1, h2⟩ := r1.slot j cj e1
      obtain ⟨q, o, e3, _, h3, _⟩ := h2.own m
      rw [e2] at h1
      cases h1
      rw [z] at e3
      cases e3
      rw [hD] at h3
      cases h3
    have h0 : H0 Dl = none := r1.st.hn Dl hD
    refine ⟨r2.st, by rw [List.length_set, List.length_set]; exact r.len, fun j cj e => ?_, fun j k cj ck n e1 e2 m1 m2 => ?_⟩
    · by_cases hj : i = j
      · subst hj
        have hil : i < ρ.length := by
          have := (List.getElem?_eq_some_iff.mp e).1
          rwa [List.length_set] at this
        rw [List.getElem?_set_self hil] at e
        cases e
        exact ⟨_, List.getElem?_set_self (by rw [r.len]; exact hil), Dl, us, rfl, ⟨h0, gD, nb⟩, hH, hl⟩
      · rw [List.getElem?_set_ne hj] at e ⊢
        exact r2.slot j cj e
    · have look : ∀ {j : Nat} {cj : Cell}, (ρ.set i (some (.mk (xs.foldl (fun kds x => putD kds (fk x) (fd x)) []))))[j]? = some (some cj) → cj.mu = true → (i = j ∧ (σ.set i (some (V.ref Dl)))[j]? = some (some (.ref Dl))) ∨ (i ≠ j ∧ ρ[j]? = some (some cj) ∧ (σ.set i (some (V.ref Dl)))[j]? = σ[j]?) := fun {j cj} e m => by
        by_cases hj : i = j
        · subst hj
          have hil : i < ρ.length := by
            have := (List.getElem?_eq_some_iff.mp e).1
            rwa [List.length_set] at this
          exact .inl ⟨rfl, List.getElem?_set_self (by rw [r.len]; exact hil)⟩
        · rw [List.getElem?_set_ne hj] at e
          exact .inr ⟨hj, e, List.getElem?_set_ne hj⟩
      rcases look e1 m1 with ⟨a1, a2⟩ | ⟨a1, a2, a3⟩
      · rcases look e2 m2 with ⟨b1, b2⟩ | ⟨b1, b2, b3⟩
        · exact absurd (a1.symm.trans b1) n
        · rw [a2, b3]
          obtain ⟨v, h1, h2⟩ := r.slot k ck b2
          rw [h1]
          exact fun z => fr b2 h1 m2 (Option.some.inj (Option.some.inj z)).symm
      · rcases look e2 m2 with ⟨b1, b2⟩ | ⟨b1, b2, b3⟩
        · rw [a3, b2]
          obtain ⟨v, h1, h2⟩ := r.slot j cj a2
          rw [h1]
          exact fun z => fr a2 h1 m1 (Option.some.inj (Option.some.inj z))
        · rw [a3, b3]
          exact r.sep j k cj ck n a2 b2 m1 m2
end
end Fx
/-! text FxNest -/
namespace Fx
open PySem L2 Evl PyProof.Rows

/-! ### dicts whose keys are nested tuples -/
mutual
inductive NIs (H : Hp) : V → NestedKey → Prop
  | num (i : Int) : NIs H (.int i) (.num i)
  | text (x : Str) : NIs H (.str x) (.text x)
  | tup {b : Addr} {vs : List V} {ks : List NestedKey} : H b = some (.tup vs) → NIsL H vs ks → NIs H (.ref b) (.tup ks)
inductive NIsL (H : Hp) : List V → List NestedKey → Prop
  | nil : NIsL H [] []
  | cons {v : V} {k : NestedKey} {vs : List V} {ks : List NestedKey} : NIs H v k → NIsL H vs ks → NIsL H (v :: vs) (k :: ks)
end
section
variable {P : Program} {w : World} {H H' : Hp} {h : Heap}
mutual
theorem NIs.is (ok : HOk P w H h) : ∀ (k : NestedKey) {v : V} {u : Value}, NIs H v k → RelV v u → NestedIs h k u
  | .none, _, _, x, _ => by cases x
  | .num i, _, _, x, r => by
    cases x
    obtain ⟨t, rfl⟩ := r
    exact .int i t
  | .text i, _, _, x, r => by
    cases x
    obtain ⟨t, rfl⟩ := r
    exact .text i t
  | .tup ks, _, _, x, r => by
    cases x with
    | tup h1 h2 =>
      obtain ⟨_, its, rv, o, h3, h4, n, h5⟩ := ok _ _ h1
      obtain rfl := r
      refine .tup h3 h4 h5 ?_
      exact NIsL.is ok ks h2 rv
theorem NIsL.is (ok : HOk P w H h) : ∀ (ks : List NestedKey) {vs : List V} {us : List Value}, NIsL H vs ks → Vals vs us → NestedAll h ks us
  | [], _, _, x, r => by cases x; cases r; exact .nil
  | k :: ks, _, _, x, r => by
    cases x with
    | cons a b =>
      cases r with
      | cons r1 r2 => exact .cons (NIs.is ok k a r1) (NIsL.is ok ks b r2)
end
mutual
theorem NIs.keep (e : ∀ a vs, H a = some (.tup vs) → H' a = some (.tup vs)) : ∀ (k : NestedKey) {v : V}, NIs H v k → NIs H' v k
  | .none, _, x => by cases x
  | .num i, _, x => by cases x; exact .num i
  | .text i, _, x => by cases x; exact .text i
  | .tup ks, _, x => by
    cases x with
    | tup h1 h2 => exact .tup (e _ _ h1) (NIsL.keep e ks h2)
theorem NIsL.keep (e : ∀ a vs, H a = some (.tup vs) → H' a = some (.tup vs)) : ∀ (ks : List NestedKey) {vs : List V}, NIsL H vs ks → NIsL H' vs ks
  | [], _, x => by cases x; exact .nil
  | k :: ks, _, x => by
    cases x with
    | cons a b => exact .cons (NIs.keep e k a) (NIsL.keep e ks b)
end
/-- data that may be a key -/
theorem hs_no {d : D} (h : d.hashy = true) (n : d.hashy = false) {Q : Prop} : Q := by rw [n] at h; cases h
mutual
theorem hashy_nis {K : PySem.W.Frag} {G : Hp} (e : Ex G H) : ∀ (d : D) {v : V}, d.hashy = true → Rp K G d v → NIs H v d.key
  | .int i, _, _, r => by cases r; rw [D.key]; exact .num i
  | .str x, _, _, r => by cases r; rw [D.key]; exact .text x
  | .tup ds, _, hh, r => by
    rw [D.hashy] at hh
    cases r with
    | tup h1 h2 =>
      rw [D.key]
      exact .tup (e _ _ h1) (hashys_nis e ds hh h2)
  | .non, _, hh, _ => hs_no hh (by simp [D.hashy])
  | .bl _, _, hh, _ => hs_no hh (by simp [D.hashy])
  | .lst _, _, hh, _ => hs_no hh (by simp [D.hashy])
  | .obj _ _ _, _, hh, _ => hs_no hh (by simp [D.hashy])
  | .raw _, _, hh, _ => hs_no hh (by simp [D.hashy])
  | .scr _, _, hh, _ => hs_no hh (by simp [D.hashy])
theorem hashys_nis {K : PySem.W.Frag} {G : Hp} (e : Ex G H) : ∀ (ds : List D) {vs : List V}, D.hashys ds = true → RpL K G ds vs → NIsL H vs (D.keys ds)
  | [], _, _, r => by cases r; rw [D.keys]; exact .nil
  | d :: ds, _, hh, r => by
    rw [D.hashys, Bool.and_eq_true] at hh
    cases r with
    | cons a b =>
      rw [D.keys]
      exact .cons (hashy_nis e d hh.1 a) (hashys_nis e ds hh.2 b)
end
end
/-- the dict at a, its keys here -/
structure DOk (P : Program) (w : World) (H : Hp) (a : Addr) (xs : List (NestedKey × Addr × V)) : Prop where
  at_ : H a = some (DN P w a xs)
  ks : ∀ x ∈ xs, NIs H (.ref x.2.1) x.1 ∧ x.1.depth ≤ 8
def nval (xs : List (NestedKey × Addr × V)) (k : NestedKey) : Option V := (xs.find? fun x => decide (x.1 = k)).map (·.2.2)
abbrev RN : List (NestedKey × Addr × V) → List (NestedKey × Addr × Value) → Prop := Paired fun x y => x.1 = y.1 ∧ x.2.1 = y.2.1 ∧ RelV x.2.2 y.2.2
theorem RN.at {k : NestedKey} : ∀ {xs : List (NestedKey × Addr × V)} {ys : List (NestedKey × Addr × Value)}, RN xs ys → (nval xs k = none ∧ atKey ys k = none) ∨ ∃ v p, nval xs k = some v ∧ atKey ys k = some p ∧ RelV v p.2
  | _, _, .nil => .inl ⟨rfl, rfl⟩
  | _, _, .cons (a := x) (b := y) h t => by
    by_cases e : x.1 = k
    · have e' : y.1 = k := h.1.symm.trans e
      exact .inr ⟨x.2.2, y.2, by simp [nval, List.find?_cons, e], by simp [atKey, List.find?_cons, e'], h.2.2⟩
    · have e' : ¬ y.1 = k := fun z => e (h.1.trans z)
      rcases RN.at (k := k) t with ⟨h1, h2⟩ | ⟨v, p, h1, h2, h3⟩
      · exact .inl ⟨by simpa [nval, List.find?_cons, e] using h1, by simpa [atKey, List.find?_cons, e'] using h2⟩
      · exact .inr ⟨v, p, by simpa [nval, List.find?_cons, e] using h1, by simpa [atKey, List.find?_cons, e'] using h2, h3⟩
theorem RN.isS {k : NestedKey} {xs : List (NestedKey × Addr × V)} {ys : List (NestedKey × Addr × Value)} (h : RN xs ys) : (nval xs k).isSome = (atKey ys k).isSome := by
  rcases RN.at h (k := k) with ⟨h1, h2⟩ | ⟨v, p, h1, h2, _⟩ <;> rw [h1, h2] <;> rfl
theorem RN.mem {xs : List (NestedKey × Addr × V)} {ys : List (NestedKey × Addr × Value)} (h : RN xs ys) : ∀ y ∈ ys, ∃ x ∈ xs, x.1 = y.1 ∧ x.2.1 = y.2.1 := by
  induction h with
  | nil => intro y hy; cases hy
  | @cons a b as bs h1 t ih =>
    intro y hy
    rcases List.mem_cons.mp hy with e | hy
    · subst e
      exact ⟨a, List.mem_cons_self, h1.1, h1.2.1⟩
    · obtain ⟨x, hx, e⟩ := ih y hy
      exact ⟨x, List.mem_cons_of_mem _ hx, e⟩
section
variable {X : Cx} {pins : List (Addr × Obj)} {σ : L2.St} {H : Hp} {s : Shared} {a b : Addr} {xs : List (NestedKey × Addr × V)} {k : NestedKey}
theorem dn_of {P : Program} {w : World} {h : Heap} (ok : HOk P w H h) (d : DOk P w H a xs) : ∃ ys, RN xs ys ∧ h.DictOfH (nestedKind P w) a ys ∧ (a == sysModules) = false ∧ xs.length ≤ sizeLine := by
  obtain ⟨⟨o, es, ep, ys, h1, h2, h3, rel, h4, h5, h6, h7⟩, _⟩ := ok _ _ d.at_
  refine ⟨ys, rel, ⟨o, es, ep, h1, h2, h3, h4, fun y hy => ?_, h5⟩, h6, h7⟩
  obtain ⟨x, hx, e1, e2⟩ := RN.mem rel y hy
  obtain ⟨n, dp⟩ := d.ks x hx
  rw [← e1, ← e2]
  exact ⟨NIs.is ok _ n rfl, dp⟩
theorem dn_ok {P : Program} {w : World} {h : Heap} {ys : List (NestedKey × Addr × Value)} {H' : Hp} (rel : RN xs ys) (d : h.DictOfH (nestedKind P w) a ys) (hd : (a == sysModules) = false) (hz : xs.length ≤ sizeLine) : ObjOk P w H' h a (DN P w a xs) := by
  obtain ⟨o, es, ep, h1, h2, h3, h4, _, h5⟩ := d
  refine ⟨⟨o, es, ep, ys, h1, h2, h3, rel, h4, h5, hd, hz⟩, ⟨o, h1⟩, fun g1 g2 x e => ?_⟩
  obtain ⟨o, es, ep, ys, h1, r⟩ := x
  exact ⟨o, es, ep, ys, e o h1, r⟩
/-- the empty one -/
theorem dn_new {P : Program} {w : World} {H' : Hp} (h : Heap) (hb : sysModules < h.objs.size) : ObjOk P w H' (h.push { cls := .type "dict", data := .dict #[] }) h.objs.size (DN P w h.objs.size []) :=
  dn_ok .nil (Heap.DictOfH.new h) (beq_eq_false_iff_ne.mpr (Ne.symm (Nat.ne_of_lt hb))) (Nat.zero_le _)
def tDNewN (P : Program) (w : World) : TE := fun _ H Q => ∀ p, H p = none → Q (.ref p) (upd H p (DN P w p []))
theorem pe_dnewN {pos : Pos} : PE X (.Dict [] [] pos) (tDNewN X.prog X.w) := ⟨fun pins s σ H Q I h =>
  wpAny_Dict_empty ⟨.ref s.heap.objs.size, _, I.laid (a := s.heap.objs.size) (o := DN X.prog X.w s.heap.objs.size []) (t' := s.toks) (fun _ _ q => Heap.get?_push_of_some _ q) (Nat.le_refl _) (dn_new s.heap I.big), rfl, h _ (I.hok.fresh (Nat.le_refl _))⟩⟩
/-- d[y] -/
def tNGet (P : Program) (w : World) (td ty : TE) : TE := fun σ H Q => td σ H fun x H1 => ty σ H1 fun y H2 => ∃ a b xs k v, x = .ref a ∧ DOk P w H2 a xs ∧ y = .ref b ∧ NIs H2 (.ref b) k ∧ k.depth ≤ 8 ∧ nval xs k = some v ∧ Q v H2
theorem pe_nget {o i : Expr} {pos : Pos} {td ty : TE} (hu : X.A.units + 1 + 8 < cLine) (ho : PE X o td) (hi : PE X i ty) (hs : NoSl i) : PE X (.Subscript o i pos) (tNGet X.prog X.w td ty) := by
  refine ⟨fun pins s σ H Q I h => ?_⟩
  refine subD_of PySem.F.slot_dict_getitem.lookup hs (thn (ho.run pins s σ H _ I h) fun u s1 ⟨x, H1, I1, rx, q1⟩ => thn (hi.run pins s1 σ H1 _ I1 q1) fun iv s2 ⟨y, H2, I2, ry, a, b, xs, k, v, ex, d, ey, n, dp, hv, q2⟩ => ?_)
  subst ex ey
  obtain rfl : u = Value.ref a := rx
  obtain rfl : iv = Value.ref b := ry
  obtain ⟨ys, rel, dd, hd, hz⟩ := dn_of I2.hok d
  refine ⟨dd.typeIs, ?_⟩
  rcases RN.at rel (k := k) with ⟨h1, h2⟩ | ⟨v', p, h1, h2, h3⟩
  · rw [h1] at hv; cases hv
  · rw [h1] at hv
    cases hv
    exact wpAny_getItem_heap (knd := nestedKind X.prog X.w) (show X.A.units + 1 + 8 < cLine from hu) ⟨NIs.is I2.hok k n rfl, dp⟩ dd h2 ⟨v, H2, I2.tok _, h3, q2⟩
/-- y not in d -/
def rNNotIn (P : Program) (w : World) : R2 := fun y x H Q => ∃ a b xs k, x = .ref a ∧ DOk P w H a xs ∧ y = .ref b ∧ NIs H (.ref b) k ∧ k.depth ≤ 8 ∧ Q (.bl (!(nval xs k).isSome)) H
theorem op_nnotin (hu : X.A.units + 1 + 8 < cLine) : OpR X (compareOp .NotIn) (rNNotIn X.prog X.w) := by
  intro pins s σ H y x v u Q I ry rx h
  obtain ⟨a, b, xs, k, ex, d, ey, n, dp, q⟩ := h
  subst ex ey
  obtain rfl : u = Value.ref a := rx
  obtain rfl : v = Value.ref b := ry
  obtain ⟨ys, rel, dd, hd, hz⟩ := dn_of I.hok d
  refine notIn_keyed (knd := nestedKind X.prog X.w) (kvs := pairsH ys) (show X.A.units + 1 + 8 < cLine from hu) ⟨NIs.is I.hok k n rfl, dp⟩ hd ⟨ys, dd, rfl⟩ ?_
  refine ⟨.bl (!(nval xs k).isSome), H, I.tok _, ?_, q⟩
  rw [valueAt_pairsH, Option.isSome_map, ← RN.isS rel]
  rfl
/-- d[y] = v, a new key -/
def sNPut (P : Program) (w : World) (td ty tv : TE) : TS := fun Dn σ H => tv σ H fun v H1 => td σ H1 fun x H2 => ty σ H2 fun y H3 => ∃ a b xs k, x = .ref a ∧ DOk P w H3 a xs ∧ y = .ref b ∧ NIs H3 (.ref b) k ∧ k.depth ≤ 8 ∧ nval xs k = none ∧ xs.length < sizeLine ∧
  Dn.nx σ (upd H3 a (DN P w a (xs ++ [(k, b, v)])))
theorem ps_nput {o i value : Expr} {pos pos' : Pos} {td ty tv : TE} (hu : X.A.units + 1 + 8 < cLine) (ho : PE X o td) (hi : PE X i ty) (hv : PE X value tv) (hs : swapsWith value (some (.Subscript o i pos')) pos.line X.env = pure false) :
    PS X (.Assign [.Subscript o i pos'] value pos) (sNPut X.prog X.w td ty tv) := by
  refine ⟨fun pins s σ H D I h => ?_⟩
  refine wpAny_Assign_Subscript (thn (hv.run pins s σ H _ I h) fun r s1 ⟨v, H1, I1, rv, q1⟩ => thn (ho.run pins s1 σ H1 _ I1 q1) fun u s2 ⟨x, H2, I2, rx, q2⟩ => thn (hi.run pins s2 σ H2 _ I2 q2) fun iv s3 ⟨y, H3, I3, ry, a, b, xs, k, ex, d, ey, n, dp, hn, hl, q3⟩ => ?_) hs
  subst ex ey
  obtain rfl : u = Value.ref a := rx
  obtain rfl : iv = Value.ref b := ry
  obtain ⟨ys, rel, dd, hd, hz⟩ := dn_of I3.hok d
  have hat : atKey ys k = none := by
    rcases RN.at rel (k := k) with ⟨h1, h2⟩ | ⟨v', p, h1, h2, h3⟩
    · exact h2
    · rw [h1] at hn; cases hn
  refine wpAny_setItem_heap (knd := nestedKind X.prog X.w) (hsz := by rw [← Paired.length rel]; exact hz) (show X.A.units + 1 + 8 < cLine from hu) ⟨NIs.is I3.hok k n rfl, dp⟩ dd fun h' dd' hs' => ⟨σ, _, ?_, q3⟩
  rw [storedH_new hat] at dd'
  have he : ∃ q, h'.get? a = some q := let ⟨q, _, _, hq, _⟩ := dd'; ⟨q, hq⟩
  exact d_write I3 (by rw [d.at_]; exact True.intro) hs' he (dn_ok (Paired.snoc rel ⟨rfl, rfl, rv⟩) dd' hd (by rw [List.length_append]; exact hl))
/-- len(d) -/
def rLenN (P : Program) (w : World) : List V → Hp → VK → Prop := fun vs H Q => ∃ a xs, vs = [.ref a] ∧ DOk P w H a xs ∧ Q (.int (xs.length : Nat)) H
theorem call_lenN : CallR X (.builtin "len") (rLenN X.prog X.w) := by
  intro pins s σ H xs us Q I r h
  obtain ⟨a, xs, rfl, d, q⟩ := h
  obtain rfl := Vals.ref1 r
  obtain ⟨ys, rel, dd, hd, hz⟩ := dn_of I.hok d
  have hl := Paired.length rel
  refine call_len_dictH hd dd (by rw [← hl]; rw [sizeLine_eq] at hz; omega) ?_
  rw [← hl]
  exact ⟨.int ((xs.length : Nat) : Int), H, I.tok _, ⟨_, rfl⟩, q⟩
/-- {k: v} -/
def tNDisp1 (P : Program) (w : World) (tk tv : TE) : TE := fun σ H Q => ∀ p, H p = none → tk σ (upd H p (DN P w p [])) fun y H1 => tv σ H1 fun v H2 => H2 p = some (DN P w p []) ∧ ∃ b k, y = .ref b ∧ NIs H2 (.ref b) k ∧ k.depth ≤ 8 ∧ Q (.ref p) (upd H2 p (DN P w p [(k, b, v)]))
theorem pe_ndisp1 {pos : Pos} {ke ve : Expr} {tk tv : TE} (hu : X.A.units + 8 < cLine) (hk : PE X ke tk) (hv : PE X ve tv) : PE X (.Dict [some ke] [ve] pos) (tNDisp1 X.prog X.w tk tv) := by
  refine ⟨fun pins s σ H Q I q => ?_⟩
  have hn := I.hok.fresh (Nat.le_refl s.heap.objs.size)
  have I1 := I.laid (a := s.heap.objs.size) (o := DN X.prog X.w s.heap.objs.size []) (h' := s.heap.push { cls := .type "dict", data := .dict #[] }) (t' := s.toks) (fun _ _ q => Heap.get?_push_of_some _ q) (Nat.le_refl _) (dn_new s.heap I.big)
  rw [arm_eval_Dict, show (evalEachOpt [some ke] X.env).zip ((evalEach [ve] X.env).map fun v => do let x ← v; standAt pos; pure x) = (pairTrees [some ke] [ve] X.env pos).map fun p => (some p.1, p.2) from rfl, dictDisplay_pairs (pairTrees [some ke] [ve] X.env pos) (by simp [pairTrees]) (by simp [pairTrees])]
  refine wpAny_bind (wpAny_standAt (wpAny_bind (wpAny_subDictH (knd := nestedKind X.prog X.w) hu (by simp [pairTrees]) ?_)))
  refine pairTrees_cons_walk (thn (hk.run pins _ σ _ _ I1 (q _ hn)) fun u s1 ⟨y, H1, I1, rx, q1⟩ => thn (hv.run pins s1 σ H1 _ I1 q1) fun w2 s2 ⟨v, H2, I2, ry, e, b, k, ey, n, dp, q2⟩ => ?_)
  subst ey
  obtain rfl : u = Value.ref b := rx
  obtain ⟨ys, rel, dd, hd, hz⟩ := dn_of I2.hok (xs := []) ⟨e, (fun _ z => by cases z)⟩
  cases rel
  refine pairTrees_nil_walk ⟨[(k, b, w2)], ⟨rfl, rfl, ⟨NIs.is I2.hok k n rfl, dp⟩, True.intro⟩, dd, fun h' tk dd' hs => wpAny_pure ⟨.ref s.heap.objs.size, _, ?_, rfl, q2⟩⟩
  have he : ∃ q, h'.get? s.heap.objs.size = some q := let ⟨q, _, _, hq, _⟩ := dd'; ⟨q, hq⟩
  exact d_write I2 (by rw [e]; exact True.intro) hs he (dn_ok (xs := [(k, b, v)]) (.cons ⟨rfl, rfl, ry⟩ .nil) dd' hd (by rw [sizeLine_eq]; show 1 ≤ 16777216; omega))
end

/-! ### own dicts with nested keys -/
def KeyOk (d : D) : Prop := (∃ ds, d = .tup ds) ∧ d.hashy = true ∧ d.key.depth ≤ 8
def keyV (kds : List (D × D)) (k : NestedKey) : Option D := (kds.find? fun p => decide (p.1.key = k)).map (·.2)
section
variable {c : Ct} {ρ : Env} {te ta tb tk tv : TE} {x y z d : D} {i : Nat} {E : XK} {A : AEnds}
theorem NR.at {K : PySem.W.Frag} {G : Hp} {k : NestedKey} : ∀ {a : List (D × D)} {b : List (NestedKey × Addr × V)}, NR K G a b → (keyV a k = none ∧ nval b k = none) ∨ ∃ d v, keyV a k = some d ∧ nval b k = some v ∧ Rp K G d v
  | _, _, .nil => .inl ⟨rfl, rfl⟩
  | _, _, .cons (a := p) (b := q) x y => by
    by_cases e : p.1.key = k
    · have e' : q.1 = k := x.1.symm.trans e
      exact .inr ⟨p.2, q.2.2, by simp [keyV, List.find?_cons, e], by simp [nval, List.find?_cons, e'], x.2.2.2⟩
    · have e' : ¬ q.1 = k := fun z => e (x.1.trans z)
      rcases NR.at (k := k) y with ⟨h1, h2⟩ | ⟨d, v, h1, h2, h3⟩
      · exact .inl ⟨by simpa [keyV, List.find?_cons, e] using h1, by simpa [nval, List.find?_cons, e'] using h2⟩
      · exact .inr ⟨d, v, by simpa [keyV, List.find?_cons, e] using h1, by simpa [nval, List.find?_cons, e'] using h2, h3⟩
theorem NR.isS {K : PySem.W.Frag} {G : Hp} {k : NestedKey} {a : List (D × D)} {b : List (NestedKey × Addr × V)} (h : NR K G a b) : (nval b k).isSome = (keyV a k).isSome := by
  rcases NR.at h (k := k) with ⟨h1, h2⟩ | ⟨d, v, h1, h2, _⟩ <;> rw [h1, h2] <;> rfl
theorem NR.ks {K : PySem.W.Frag} {G H : Hp} (e : Ex G H) {a : List (D × D)} {b : List (NestedKey × Addr × V)} (h : NR K G a b) : ∀ x ∈ b, NIs H (.ref x.2.1) x.1 ∧ x.1.depth ≤ 8 := by
  induction h with
  | nil => intro x hx; cases hx
  | @cons p q ps qs h1 t ih =>
    intro x hx
    rcases List.mem_cons.mp hx with z | hx
    · subst z
      rw [← h1.1]
      exact ⟨hashy_nis e _ h1.2.1.1 h1.2.2.1, h1.2.1.2⟩
    · exact ih x hx
theorem NR.dok {H : Hp} {G : Hp} {p : Addr} {kds : List (D × D)} {xs : List (NestedKey × Addr × V)} (hp : H p = some (DN c.P c.w p xs)) (e : Ex G H) (h : NR c.K G kds xs) : DOk c.P c.w H p xs := ⟨hp, NR.ks e h⟩
theorem DN.notbl {P : Program} {w : World} {p : Addr} {xs : List (NestedKey × Addr × V)} : ∀ ps, DN P w p xs ≠ .tbl ps := fun _ z => by unfold DN at z; cases z
theorem KeyOk.nis {G H : Hp} {v : V} (e : Ex G H) (hx : KeyOk x) (r : Rp c.K G x v) : ∃ b, v = .ref b ∧ NIs H (.ref b) x.key ∧ x.key.depth ≤ 8 := by
  obtain ⟨⟨ds, rfl⟩, h1, h2⟩ := hx
  obtain ⟨b, vs, rfl, hb, hl⟩ := r.tuple
  exact ⟨b, rfl, hashy_nis e _ h1 r, h2⟩
theorem ev_nnotinN {kds : List (D × D)} (ha : EvE c ta ρ x) (hi : ρ[i]? = some (some (.mn kds))) (hx : KeyOk x) : EvE c (tOp (rNNotIn c.P c.w) ta (tVar i)) ρ (.bl (!(keyV kds x.key).isSome)) := fun G0 H0 σ G H r Q q => by
  refine ha _ _ _ _ _ r _ fun x' v G1 H1 kx s1 rx => ?_
  subst kx
  obtain ⟨v', h1, p, xs, rfl, ow, hp, hl⟩ := (r.stp s1).slot i _ hi
  obtain ⟨b, rfl, n, dp⟩ := hx.nis s1.ok.gh rx
  exact ⟨_, h1, p, b, xs, _, rfl, NR.dok hp s1.ok.gh hl, rfl, n, dp, by rw [NR.isS hl]; exact q _ _ G1 H1 rfl s1 (.bl _)⟩
theorem ev_getN {kds : List (D × D)} (hi : ρ[i]? = some (some (.mn kds))) (ha : EvE c ta ρ x) (hx : KeyOk x) (hv : keyV kds x.key = some d) : EvE c (tNGet c.P c.w (tVar i) ta) ρ d := fun G0 H0 σ G H r Q q => by
  obtain ⟨v', h1, p, xs, rfl, ow, hp, hl⟩ := r.slot i _ hi
  refine ⟨_, h1, ?_⟩
  refine ha _ _ _ _ _ r _ fun x' v G1 H1 kx s1 rx => ?_
  subst kx
  obtain ⟨b, rfl, n, dp⟩ := hx.nis s1.ok.gh rx
  have hp1 := s1.hh p _ ow.2.2 DN.notbl hp
  have hl1 := NR.up s1.gg hl
  rcases NR.at (k := x'.key) hl1 with ⟨h2, h3⟩ | ⟨d', w, h2, h3, h4⟩
  · rw [h2] at hv; cases hv
  · rw [h2] at hv
    cases hv
    exact ⟨p, b, xs, _, w, rfl, NR.dok hp1 s1.ok.gh hl1, rfl, n, dp, h3, q _ w G1 H1 rfl s1 h4⟩
theorem ev_lenN {kds : List (D × D)} (hi : ρ[i]? = some (some (.mn kds))) : EvE c (tCB (rLenN c.P c.w) (tCons (tVar i) tNil)) ρ (.int (kds.length : Nat)) := fun G0 H0 σ G H r Q q => by
  obtain ⟨v', h1, p, xs, rfl, ow, hp, hl⟩ := r.slot i _ hi
  exact ⟨_, h1, p, xs, rfl, NR.dok hp r.ok.gh hl, by rw [← Paired.length hl]; exact q _ _ G H rfl (.refl r.ok) (.int _)⟩
theorem as_putN {kds : List (D × D)} (hi : ρ[i]? = some (some (.mn kds))) (hv : EvE c tv ρ d) (hk : EvE c tk ρ x) (hx : KeyOk x) (hnew : keyV kds x.key = none) (hz : kds.length < 100000) (hn : A.nx (ρ.set i (some (.mn (kds ++ [(x, d)]))))) : AS c E (sNPut c.P c.w (tVar i) tk tv) ρ A := fun G0 H0 σ G H r Dn q1 q2 q3 => by
  refine hv _ _ _ _ _ r _ fun d' w G1 H1 kd s1 rd => ?_
  subst kd
  obtain ⟨v', h1, p, xs, rfl, ow, hp, hl⟩ := (r.stp s1).slot i _ hi
  refine ⟨_, h1, ?_⟩
  refine hk _ _ _ _ _ (r.stp s1) _ fun x' v G2 H2 kx s2 rx => ?_
  subst kx
  obtain ⟨b, rfl, n, dp⟩ := hx.nis s2.ok.gh rx
  have hp2 := s2.hh p _ ow.2.2 DN.notbl hp
  have hl2 := NR.up s2.gg hl
  have hnone : nval xs x'.key = none := by
    rcases NR.at (k := x'.key) hl2 with ⟨h2, h3⟩ | ⟨d', w, h2, h3, h4⟩
    · exact h3
    · rw [h2] at hnew; cases hnew
  refine ⟨p, b, xs, _, rfl, NR.dok hp2 s2.ok.gh hl2, rfl, n, dp, hnone, by rw [← Paired.length hl]; exact sz_lt hz, ?_⟩
  exact q1 _ _ G2 _ hn (s1.gg.trans s2.gg) (((r.stp s1).stp s2).mutA hi rfl h1 (ow.stp hp s2) hp2 plain_DN rfl ⟨p, _, rfl, ow.stp hp s2, upd_same, Paired.snoc hl2 ⟨rfl, ⟨hx.2.1, hx.2.2⟩, rx, rd.up s2.gg⟩⟩)
theorem as_newN (hn : A.nx (ρ.set i (some (.mn [])))) : AS c E (tAsg (tDNewN c.P c.w) (gName i)) ρ A := fun G0 H0 σ G H r Dn q1 q2 q3 => fun p hp =>
  q1 _ _ G _ hn (Ex.refl G) (r.newA (o' := DN c.P c.w p []) hp ⟨p, [], rfl, ⟨r.st.hn p hp, fresh_back r.ok.gh hp, r.ok.nb hp⟩, upd_same, .nil⟩)
/-- {k: e}, one pair, both plain names or constants -/
theorem as_ndisp1 (hk : EvE c tk ρ x) (hv : EvE c tv ρ d) (hx : KeyOk x) (hn : A.nx (ρ.set i (some (.mn [(x, d)])))) (hil : i < ρ.length) : AS c E (tAsg (tNDisp1 c.P c.w tk tv) (gName i)) ρ A := fun G0 H0 σ G H r Dn q1 q2 q3 => fun p hp => by
  have s0 := Stp.layM (o := DN c.P c.w p []) r.ok hp
  have r0 := r.stp s0
  show tk σ (upd H p (DN c.P c.w p [])) _
  refine hk _ _ _ _ _ r0 _ fun x' v G1 H1 kx s1 rx => ?_
  refine hv _ _ _ _ _ (r0.stp s1) _ fun y' u G2 H2 ky s2 ry => ?_
  subst kx ky
  have nb := r.ok.nb hp
  have gp : G p = none := fresh_back r.ok.gh hp
  have h1 : H1 p = some (DN c.P c.w p []) := s1.hh p _ nb DN.notbl upd_same
  have h2 : H2 p = some (DN c.P c.w p []) := s2.hh p _ nb DN.notbl h1
  have g1 : G1 p = none := by
    cases q : G1 p with
    | none => rfl
    | some w =>
      rcases s1.nw p w q with z | z
      · rw [gp] at z; cases z
      · rw [upd_same] at z; cases z
  have g2 : G2 p = none := by
    cases q : G2 p with
    | none => rfl
    | some w =>
      rcases s2.nw p w q with z | z
      · rw [g1] at z; cases z
      · rw [h1] at z; cases z
  obtain ⟨b, rfl, n, dp⟩ := hx.nis s2.ok.gh (rx.up s2.gg)
  refine ⟨h2, b, _, rfl, n, dp, ?_⟩
  have r2 : Rel c G0 H0 (ρ.set i (some (.mn []))) (σ.set i (some (.ref p))) G2 H2 := (Rel.newA (cl' := .mn []) (i := i) r (o' := DN c.P c.w p []) hp ⟨p, [], rfl, ⟨r.st.hn p hp, gp, nb⟩, upd_same, .nil⟩).stp (s1.trans s2)
  have r3 := r2.mutA (i := i) (cl := .mn []) (cl' := .mn [(x', y')]) (p := p) (o := DN c.P c.w p []) (o' := DN c.P c.w p [(x'.key, b, u)]) (List.getElem?_set_self hil) rfl (List.getElem?_set_self (by rw [r.len]; exact hil)) ⟨r.st.hn p hp, g2, nb⟩ h2 plain_DN rfl
      ⟨p, [(x'.key, b, u)], rfl, ⟨r.st.hn p hp, g2, nb⟩, upd_same, .cons ⟨rfl, ⟨hx.2.1, hx.2.2⟩, rx.up s2.gg, ry⟩ .nil⟩
  rw [List.set_set] at r3
  exact q1 _ _ G2 _ hn (s1.gg.trans s2.gg) r3
end
/-! ### keys of data -/
mutual
theorem key_inj : ∀ (x y : D), x.hashy = true → y.hashy = true → x.key = y.key → x = y
  | .int i, .int j, _, _, e => by rw [D.key, D.key] at e; cases e; rfl
  | .str i, .str j, _, _, e => by rw [D.key, D.key] at e; cases e; rfl
  | .tup i, .tup j, h1, h2, e => by
    rw [D.hashy] at h1 h2
    rw [D.key, D.key] at e
    rw [keys_inj i j h1 h2 (NestedKey.tup.inj e)]
  | .int i, .str j, _, _, e => by rw [D.key, D.key] at e; cases e
  | .int i, .tup j, _, _, e => by rw [D.key, D.key] at e; cases e
  | .str i, .int j, _, _, e => by rw [D.key, D.key] at e; cases e
  | .str i, .tup j, _, _, e => by rw [D.key, D.key] at e; cases e
  | .tup i, .int j, _, _, e => by rw [D.key, D.key] at e; cases e
  | .tup i, .str j, _, _, e => by rw [D.key, D.key] at e; cases e
  | .non, _, h, _, _ => hs_no h (by simp [D.hashy])
  | .bl _, _, h, _, _ => hs_no h (by simp [D.hashy])
  | .lst _, _, h, _, _ => hs_no h (by simp [D.hashy])
  | .obj _ _ _, _, h, _, _ => hs_no h (by simp [D.hashy])
  | .raw _, _, h, _, _ => hs_no h (by simp [D.hashy])
  | .scr _, _, h, _, _ => hs_no h (by simp [D.hashy])
  | _, .non, _, h, _ => hs_no h (by simp [D.hashy])
  | _, .bl _, _, h, _ => hs_no h (by simp [D.hashy])
  | _, .lst _, _, h, _ => hs_no h (by simp [D.hashy])
  | _, .obj _ _ _, _, h, _ => hs_no h (by simp [D.hashy])
  | _, .raw _, _, h, _ => hs_no h (by simp [D.hashy])
  | _, .scr _, _, h, _ => hs_no h (by simp [D.hashy])
theorem keys_inj : ∀ (xs ys : List D), D.hashys xs = true → D.hashys ys = true → D.keys xs = D.keys ys → xs = ys
  | [], [], _, _, _ => rfl
  | [], y :: ys, _, _, e => by rw [D.keys, D.keys] at e; cases e
  | x :: xs, [], _, _, e => by rw [D.keys, D.keys] at e; cases e
  | x :: xs, y :: ys, h1, h2, e => by
    rw [D.hashys, Bool.and_eq_true] at h1 h2
    rw [D.keys, D.keys] at e
    injection e with e1 e2
    rw [key_inj x y h1.1 h2.1 e1, keys_inj xs ys h1.2 h2.2 e2]
end
end Fx
/-! text FxCls -/
namespace Fx
open PySem L2 Evl PyProof.Rows

/-! ### instances: made, written by their methods -/
/-- a step in which the instance at p may be written -/
structure StpP (p : Addr) (c : Ct) (G H G' H' : Hp) : Prop where
  ok : Ok c G' H'
  gg : Ex G G'
  hh : ∀ a o, a ≠ p → some a ≠ c.B → (∀ ps, o ≠ .tbl ps) → H a = some o → H' a = some o
  hn : ∀ a, H' a = none → H a = none
  nw : ∀ a o, G' a = some o → G a = some o ∨ H a = none
section
variable {c : Ct} {G H G' H' G2 H2 : Hp} {p : Addr} {C dx : Addr} {fs fs' : List (Str × V)} {ρ : Env} {σ : L2.St}
theorem Stp.toP (s : Stp c G H G' H') : StpP p c G H G' H' := ⟨s.ok, s.gg, fun a o _ => s.hh a o, s.hn, s.nw⟩
theorem StpP.trans (a : StpP p c G H G' H') (b : StpP p c G' H' G2 H2) : StpP p c G H G2 H2 :=
  ⟨b.ok, a.gg.trans b.gg, fun x o ne n t h => b.hh x o ne n t (a.hh x o ne n t h), fun x h => a.hn x (b.hn x h), fun x o h => by
    rcases b.nw x o h with q | q
    · exact a.nw x o q
    · exact .inr (a.hn x q)⟩
theorem StpP.refl (o : Ok c G H) : StpP p c G H G H := (Stp.refl o).toP
/-- it is written -/
theorem StpP.put (ok : Ok c G H) (gp : G p = none) (nb : some p ≠ c.B) (hp : H p = some (.ins C dx fs)) : StpP p c G H G (upd H p (.ins C dx fs')) := by
  refine ⟨⟨fun a u e => ?_, fun b hb => ?_, fun q hq => tabN_mut (ok.tb q hq) hp plain_ins, ok.nt⟩, Ex.refl _, fun a u ne n t e => ?_, fun a e => ?_, fun a u e => .inl e⟩
  · have ne : a ≠ p := fun z => by rw [z, gp] at e; cases e
    rw [upd_ne ne]
    exact ok.gh a u e
  · obtain ⟨h1, r, ns, k, h2, h3, h4⟩ := ok.bx b hb
    have ne : b ≠ p := fun z => nb (by rw [← z]; exact hb.symm)
    exact ⟨h1, r, ns, k, by rw [upd_ne ne]; exact h2, h3, h4⟩
  · rw [upd_ne ne]
    exact e
  · by_cases ha : a = p
    · subst ha; rw [upd_same] at e; cases e
    · rw [upd_ne ha] at e
      exact e
theorem StpP.gone (s : StpP p c G H G' H') (gp : G p = none) (hp : H p = some (.ins C dx fs)) : G' p = none := by
  cases q : G' p with
  | none => rfl
  | some u =>
    rcases s.nw p u q with z | z
    · rw [gp] at z; cases z
    · rw [hp] at z; cases z
/-- only data -/
def allDat : Env → Bool
  | [] => true
  | some (.dat _) :: r => allDat r
  | none :: r => allDat r
  | _ => false
theorem allDat_get : ∀ {ρ : Env} {i : Nat} {cl : Cell}, allDat ρ = true → ρ[i]? = some (some cl) → ∃ d, cl = .dat d
  | [], _, _, _, e => by simp at e
  | some (.dat d) :: r, 0, _, h, e => by
    simp only [List.getElem?_cons_zero, Option.some.injEq] at e
    exact ⟨d, e.symm⟩
  | none :: r, 0, _, h, e => by simp at e
  | some (.dat d) :: r, i + 1, _, h, e => by
    rw [List.getElem?_cons_succ] at e
    exact allDat_get (ρ := r) h e
  | none :: r, i + 1, _, h, e => by
    rw [List.getElem?_cons_succ] at e
    exact allDat_get (ρ := r) h e
/-- the frame told anew, from here -/
theorem Rel.anew {G0 H0 : Hp} (r : Rel c G0 H0 ρ σ G H) (ha : allDat ρ = true) (ok : Ok c G' H') (e : Ex G G') : Rel c G' H' ρ σ G' H' := by
  refine ⟨.refl ok, r.len, fun i cl h => ?_, fun i j ci cj n e1 e2 m1 m2 => ?_⟩
  · obtain ⟨d, rfl⟩ := allDat_get ha h
    obtain ⟨v, h1, h2⟩ := r.dat h
    exact ⟨v, h1, h2.up e⟩
  · obtain ⟨d, rfl⟩ := allDat_get ha e1
    cases m1
/-- self.f = e -/
theorem st_fld {tv : TE} {d : D} {f : Str} (r : Rel c G H ρ σ G H) (ha : allDat ρ = true) (h0 : ρ[0]? = some (some (.dat (.raw (.ref p))))) (gp : G p = none) (nb : some p ≠ c.B) (hp : H p = some (.ins C dx fs)) (hv : EvE c tv ρ d) (hc : Cls c.K C) (hn : NoAttr c.K C f) (hl : fs.length < 1000)
    {Dn : Ends} (q : ∀ v G' H', StpP p c G H G' H' → Rel c G' H' ρ σ G' H' → G' p = none → H' p = some (.ins C dx (putF f v fs)) → Rp c.K G' d v → Dn.nx σ H') : sFld c.K (tVar 0) tv f Dn σ H := by
  refine hv _ _ _ _ _ r _ fun x v G1 H1 kx s1 rx => ?_
  subst kx
  obtain ⟨v0, e0, r0⟩ := (r.stp s1).dat h0
  cases r0
  have hp1 := s1.hh p _ nb (fun _ z => by cases z) hp
  have gp1 := (s1.toP (p := p)).gone gp hp
  refine ⟨_, e0, p, C, dx, fs, rfl, hp1, hc, hn, hl, ?_⟩
  have s2 := StpP.put (fs' := putF f v fs) s1.ok gp1 nb hp1
  exact q v G1 _ (s1.toP.trans s2) (r.anew ha s2.ok s1.gg) gp1 upd_same rx
end

/-! ### making, calling -/
/-- a promise of __init__ over data: what the new instance bears -/
def SpI (c : Ct) (C : Addr) {ι : Type} (args : ι → List D) (pre : ι → Prop) (ns : List Str) (fl : ι → List D) : Sp := fun vs H Q _ =>
  ∃ (i : ι) (G : Hp) (p dx : Addr) (ws : List V), vs = .ref p :: ws ∧ Ok { c with B := none } G H ∧ H p = some (.ins C dx []) ∧ G p = none ∧ RpL c.K G (args i) ws ∧ pre i ∧
    ∀ G' H' fs, StpP p { c with B := none } G H G' H' → H' p = some (.ins C dx fs) → G' p = none → fs.map (·.1) = ns → RpL c.K G' (fl i) (fs.map (·.2)) → Q .non H'
/-- a promise of a method that writes its instance -/
def SpW (c : Ct) (C : Addr) (ns : List Str) {ι : Type} (fl : ι → List D) (args : ι → List D) (pre : ι → Prop) (fl' : ι → List D) : Sp := fun vs H Q _ =>
  ∃ (i : ι) (G : Hp) (p dx : Addr) (fs : List (Str × V)) (ws : List V), vs = .ref p :: ws ∧ Ok { c with B := none } G H ∧ H p = some (.ins C dx fs) ∧ G p = none ∧ fs.map (·.1) = ns ∧ RpL c.K G (fl i) (fs.map (·.2)) ∧ RpL c.K G (args i) ws ∧ pre i ∧
    ∀ G' H' fs', StpP p { c with B := none } G H G' H' → H' p = some (.ins C dx fs') → G' p = none → fs'.map (·.1) = ns → RpL c.K G' (fl' i) (fs'.map (·.2)) → Q .non H'
section
variable {c : Ct} {ρ : Env} {ta : TA} {te : TE} {i : Nat} {E E' : XK} {A : AEnds} {C : Addr} {ns : List Str}
/-- what a callee without the box does, its new instance apart -/
theorem StpP.withB {p : Addr} {G H G' H' : Hp} (ok : Ok c G H) (s : StpP p { c with B := none } G H G' H') (nb : some p ≠ c.B) : StpP p c G H G' H' := by
  refine ⟨⟨s.ok.gh, fun b hb => ?_, s.ok.tb, s.ok.nt⟩, s.gg, fun a o ne _ t h => s.hh a o ne (fun z => by cases z) t h, s.hn, s.nw⟩
  obtain ⟨h1, r, ns, k, h2, h3, h4⟩ := ok.bx b hb
  have nbp : b ≠ p := fun z => nb (by rw [← z]; exact hb.symm)
  refine ⟨?_, r, ns, k, s.hh b _ nbp (fun z => by cases z) (fun _ z => by cases z) h2, h3, h4.up s.gg⟩
  cases q : G' b with
  | none => rfl
  | some u =>
    rcases s.nw b u q with z | z
    · rw [h1] at z; cases z
    · rw [h2] at z; cases z
/-- the steps of a making: the instance and its dict, __init__ -/
theorem make_stp {G1 H1 G' H' : Hp} {x dx : Addr} (ok : Ok c G1 H1) (hx : H1 x = none) (hd : H1 dx = none) (ne : dx ≠ x) (s : StpP x { c with B := none } G1 (upd (upd H1 dx (.own x)) x (.ins C dx [])) G' H') : Stp c G1 H1 G' H' := by
  have s1 := Stp.layM (o := .own x) ok hd
  have hx1 : (upd H1 dx (HO.own x)) x = none := by rw [upd_ne (Ne.symm ne)]; exact hx
  have s2 := Stp.layM (o := .ins C dx []) s1.ok hx1
  have nb := ok.nb hx
  have s3 := s.withB s2.ok nb
  have s12 := s1.trans s2
  refine ⟨s3.ok, s3.gg, fun a o n t h => s3.hh a o (fun z => by subst z; rw [hx] at h; cases h) n t (s12.hh a o n t h), fun a h => s12.hn a (s3.hn a h), fun a o h => ?_⟩
  rcases s3.nw a o h with z | z
  · exact .inl z
  · exact .inr (s12.hn a z)
/-- C(..), at once frozen -/
theorem ev_make {ι : Type} {args : ι → List D} {pre : ι → Prop} {fl : ι → List D} (j : ι) (h : EvAE c ta ρ (args j)) (hp : pre j) : EvE c (tMake C (SpI c C args pre ns fl) [] E ta) ρ (.obj C ns (fl j)) := fun G0 H0 σ G H r Q q => by
  refine h _ _ _ _ _ r _ fun x vs G1 H1 kx s1 rx => ?_
  subst kx
  intro x dx hx hd ne
  rw [List.append_nil]
  have s2 := Stp.layM (o := .own x) s1.ok hd
  have hx1 : (upd H1 dx (HO.own x)) x = none := by rw [upd_ne (Ne.symm ne)]; exact hx
  have s3 := Stp.layM (o := .ins C dx []) s2.ok hx1
  have gx : G1 x = none := fresh_back s1.ok.gh hx
  refine ⟨j, G1, x, dx, vs, rfl, s3.ok.noB, upd_same, gx, rx, hp, fun G' H' fs s hH gp hn hl => ⟨rfl, ?_⟩⟩
  have s4 := make_stp s1.ok hx hd ne s
  have s5 := s4.frz hx gp (s1.ok.nb hx) hH fun _ z => by cases z
  exact q _ _ _ _ rfl (s1.trans s5) (.obj upd_same hn (hl.up (Ex.new gp)))
/-- x = C(..), an instance of one's own -/
theorem as_make {ι : Type} {args : ι → List D} {pre : ι → Prop} {fl : ι → List D} (j : ι) (h : EvAE c ta ρ (args j)) (hp : pre j) (hn : A.nx (ρ.set i (some (.ro C ns (fl j))))) : AS c E' (tAsg (tMake C (SpI c C args pre ns fl) [] E ta) (gName i)) ρ A := fun G0 H0 σ G H r Dn q1 q2 q3 => by
  refine h _ _ _ _ _ r _ fun x vs G1 H1 kx s1 rx => ?_
  subst kx
  intro x dx hx hd ne
  rw [List.append_nil]
  have s2 := Stp.layM (o := .own x) s1.ok hd
  have hx1 : (upd H1 dx (HO.own x)) x = none := by rw [upd_ne (Ne.symm ne)]; exact hx
  have s3 := Stp.layM (o := .ins C dx []) s2.ok hx1
  have gx : G1 x = none := fresh_back s1.ok.gh hx
  refine ⟨j, G1, x, dx, vs, rfl, s3.ok.noB, upd_same, gx, rx, hp, fun G' H' fs s hH gp hnm hl => ⟨rfl, ?_⟩⟩
  have s4 := make_stp s1.ok hx hd ne s
  have r1 := r.stp s1
  have r4 := r1.stp s4
  have nb := s1.ok.nb hx
  have fr : ∀ {j : Nat} {cj : Cell} {v : V}, ρ[j]? = some (some cj) → σ[j]? = some (some v) → cj.mu = true → v ≠ .ref x := fun {j cj v} e1 e2 m z => by
    obtain ⟨v', h1, h2⟩ := r1.slot j cj e1
    obtain ⟨q, o, e3, _, h3, _⟩ := h2.own m
    rw [e2] at h1
    cases h1
    rw [z] at e3
    cases e3
    rw [hx] at h3
    cases h3
  have h0 : H0 x = none := r1.st.hn x hx
  refine q1 _ _ G' H' hn (s1.gg.trans s4.gg) ⟨r4.st, by rw [List.length_set, List.length_set]; exact r.len, fun j cj e => ?_, fun j k cj ck n e1 e2 m1 m2 => ?_⟩
  · by_cases hj : i = j
    · subst hj
      have hil : i < ρ.length := by
        have := (List.getElem?_eq_some_iff.mp e).1
        rwa [List.length_set] at this
      rw [List.getElem?_set_self hil] at e
      cases e
      exact ⟨_, List.getElem?_set_self (by rw [r.len]; exact hil), x, dx, fs, rfl, ⟨h0, gp, nb⟩, hH, hnm, hl⟩
    · rw [List.getElem?_set_ne hj] at e ⊢
      exact r4.slot j cj e
  · have look : ∀ {j : Nat} {cj : Cell}, (ρ.set i (some (Cell.ro C ns (fl ‹ι›))))[j]? = some (some cj) → cj.mu = true → (i = j ∧ (σ.set i (some (V.ref x)))[j]? = some (some (.ref x))) ∨ (i ≠ j ∧ ρ[j]? = some (some cj) ∧ (σ.set i (some (V.ref x)))[j]? = σ[j]?) := fun {j cj} e m => by
      by_cases hj : i = j
      · subst hj
        have hil : i < ρ.length := by
          have := (List.getElem?_eq_some_iff.mp e).1
          rwa [List.length_set] at this
        exact .inl ⟨rfl, List.getElem?_set_self (by rw [r.len]; exact hil)⟩
      · rw [List.getElem?_set_ne hj] at e
        exact .inr ⟨hj, e, List.getElem?_set_ne hj⟩
    rcases look e1 m1 with ⟨a1, a2⟩ | ⟨a1, a2, a3⟩
    · rcases look e2 m2 with ⟨b1, b2⟩ | ⟨b1, b2, b3⟩
      · exact absurd (a1.symm.trans b1) n
      · rw [a2, b3]
        obtain ⟨v, h1, h2⟩ := r.slot k ck b2
        rw [h1]
        exact fun z => fr b2 h1 m2 (Option.some.inj (Option.some.inj z)).symm
    · rcases look e2 m2 with ⟨b1, b2⟩ | ⟨b1, b2, b3⟩
      · rw [a3, b2]
        obtain ⟨v, h1, h2⟩ := r.slot j cj a2
        rw [h1]
        exact fun z => fr a2 h1 m1 (Option.some.inj (Option.some.inj z))
      · rw [a3, b3]
        exact r.sep j k cj ck n a2 b2 m1 m2
/-- o.m(..): a method by a promise over data -/
theorem ev_meth {ι : Type} {args : ι → List D} {pre : ι → Prop} {post : ι → D → Prop} {m : Str} {ds ws : List D} (j : ι) (h : EvE c te ρ (.obj C ns ds)) (hm : ∀ fs : List (Str × V), fs.map (·.1) = ns → fs.lookup m = none) (ha : EvAE c ta ρ ws) (e : args j = .obj C ns ds :: ws) (hp : pre j) :
    Ev c (tMeth C m (SpF c args pre post) [] E te ta) ρ (post j) := fun G0 H0 σ G H r Q q => by
  refine h _ _ _ _ _ r _ fun x v G1 H1 kx s1 rx => ?_
  subst kx
  cases rx with
  | @obj _ a dx fs _ _ h1 h2 h3 =>
    refine ⟨a, dx, fs, rfl, s1.ok.gh _ _ h1, hm fs h2, ?_⟩
    refine ha _ _ _ _ _ (r.stp s1) _ fun x vs G2 H2 kx s2 rx => ?_
    subst kx
    rw [List.append_nil]
    refine ⟨j, G2, s2.ok.noB, by rw [e]; exact .cons (.obj (s2.gg _ _ h1) h2 (h3.up s2.gg)) rx, hp, fun d v G' H' pd s3 rd => q d v G' H' pd ((s1.trans s2).trans (s3.withB s2.ok)) rd⟩
/-- o.m(..) of one's own instance, which is written -/
theorem as_methW {ι : Type} {fl args : ι → List D} {pre : ι → Prop} {fl' : ι → List D} {m : Str} (j : ι) (hi : ρ[i]? = some (some (.ro C ns (fl j)))) (hm : ∀ fs : List (Str × V), fs.map (·.1) = ns → fs.lookup m = none) (ha : EvAE c ta ρ (args j)) (hp : pre j)
    (hn : A.nx (ρ.set i (some (.ro C ns (fl' j))))) : AS c E' (tDrop (tMeth C m (SpW c C ns fl args pre fl') [] E (tVar i) ta)) ρ A := fun G0 H0 σ G H r Dn q1 q2 q3 => by
  obtain ⟨v, h1, p, dx, fs, rfl, ow, hpp, hnm, hl⟩ := r.slot i _ hi
  refine ⟨_, h1, p, dx, fs, rfl, hpp, hm fs hnm, ?_⟩
  refine ha _ _ _ _ _ r _ fun x vs G1 H1 kx s1 rx => ?_
  subst kx
  rw [List.append_nil]
  have hp1 := s1.hh p _ ow.2.2 (fun _ z => by cases z) hpp
  have ow1 := ow.stp hpp s1
  refine ⟨j, G1, p, dx, fs, vs, rfl, s1.ok.noB, hp1, ow1.2.1, hnm, hl.up s1.gg, rx, hp, fun G' H' fs' s hH gp hnm' hl' => ?_⟩
  have r1 := r.stp s1
  have s2 := s.withB s1.ok ow.2.2
  have hil : i < ρ.length := (List.getElem?_eq_some_iff.mp hi).1
  have st : Stp c G0 H0 G' H' := ⟨s2.ok, r1.st.gg.trans s2.gg, fun a o n t h => s2.hh a o (fun z => by subst z; rw [ow.1] at h; cases h) n t (r1.st.hh a o n t h), fun a h => r1.st.hn a (s2.hn a h), fun a o h => by
    rcases s2.nw a o h with z | z
    · exact r1.st.nw a o z
    · exact .inr (r1.st.hn a z)⟩
  refine q1 _ _ G' H' hn (s1.gg.trans s2.gg) ⟨st, by rw [List.length_set]; exact r.len, fun k ck e => ?_, fun k l ck cl n e1 e2 m1 m2 => ?_⟩
  · by_cases hk : i = k
    · subst hk
      rw [List.getElem?_set_self hil] at e
      cases e
      exact ⟨_, h1, p, dx, fs', rfl, ⟨ow.1, gp, ow.2.2⟩, hH, hnm', hl'⟩
    · rw [List.getElem?_set_ne hk] at e
      obtain ⟨v, h3, h4⟩ := r1.slot k ck e
      refine ⟨v, h3, ?_⟩
      have ne : ∀ {q}, ck.mu = true → v = .ref q → q ≠ p := fun {q} mu ev z => by
        subst ev z
        exact r.sep i k _ ck hk hi e rfl mu (h1.trans h3.symm)
      have go : ∀ {q : Addr} {o : HO}, Own c H0 G1 q → H1 q = some o → G' q = none := fun {q o} o1 hq => by
        cases z : G' q with
        | none => rfl
        | some u =>
          rcases s2.nw q u z with y | y
          · rw [o1.2.1] at y; cases y
          · rw [hq] at y; cases y
      cases ck with
      | dat d => exact Rp.up s2.gg h4
      | box => exact h4
      | fn F vws ds' =>
        obtain ⟨f, e3, x1, x2, r1⟩ := h4
        have m1 : f ≠ p := fun z => by rw [z, hp1] at x1; have := Option.some.inj x1; exact plain_ins.f _ this
        have m2 : F.c ≠ p := fun z => by rw [z, hp1] at x2; have := Option.some.inj x2; rw [← z] at this; exact plain_ins.c _ this
        exact ⟨f, e3, s2.hh f _ m1 (s1.ok.nbF x1 fun _ z => by unfold NdefX.FnO at z; cases z) NdefX.fnO_ne x1, s2.hh F.c _ m2 (s1.ok.nbF x2 fun _ z => by unfold LamX.CodeO at z; cases z) (fun _ z => by unfold LamX.CodeO at z; cases z) x2, r1.up s2.gg⟩
      | ml ds' =>
        obtain ⟨q, us, e3, o1, hq, r1⟩ := h4
        exact ⟨q, us, e3, ⟨o1.1, go o1 hq, o1.2.2⟩, s2.hh q _ (ne rfl e3) o1.2.2 (fun _ z => by cases z) hq, r1.up s2.gg⟩
      | mk ds' =>
        obtain ⟨q, us, e3, o1, hq, r1⟩ := h4
        exact ⟨q, us, e3, ⟨o1.1, go o1 hq, o1.2.2⟩, s2.hh q _ (ne rfl e3) o1.2.2 (fun _ z => by cases z) hq, r1.up s2.gg⟩
      | mn ds' =>
        obtain ⟨q, us, e3, o1, hq, r1⟩ := h4
        exact ⟨q, us, e3, ⟨o1.1, go o1 hq, o1.2.2⟩, s2.hh q _ (ne rfl e3) o1.2.2 DN.notbl hq, r1.up s2.gg⟩
      | rs C ns ds' =>
        obtain ⟨q, dx, fs, e3, o1, hq, hn, r1⟩ := h4
        refine ⟨q, dx, fs, e3, ⟨o1.1, ?_, o1.2.2⟩, s2.hh q _ (fun z => o1.1 (by rw [z]; exact ow.1)) o1.2.2 (fun _ z => by cases z) hq, hn, r1.up s2.gg⟩
        cases z : G' q with
        | none => rfl
        | some u =>
          rcases s2.nw q u z with y | y
          · rw [o1.2.1] at y; cases y
          · rw [hq] at y; cases y
      | ro C ns ds' =>
        obtain ⟨q, dx, fs, e3, o1, hq, hn, r1⟩ := h4
        exact ⟨q, dx, fs, e3, ⟨o1.1, go o1 hq, o1.2.2⟩, s2.hh q _ (ne rfl e3) o1.2.2 (fun _ z => by cases z) hq, hn, r1.up s2.gg⟩
  · by_cases hk : i = k
    · subst hk
      rw [List.getElem?_set_ne n] at e2
      exact r.sep i l _ cl n hi e2 rfl m2
    · rw [List.getElem?_set_ne hk] at e1
      by_cases hl' : i = l
      · subst hl'
        exact r.sep k i ck _ n e1 hi m1 rfl
      · rw [List.getElem?_set_ne hl'] at e2
        exact r.sep k l ck cl n e1 e2 m1 m2
/-- self.f, self an instance of the caller's -/
theorem ev_fldS {ds : List D} {f : Str} {d : D} (h : ρ[i]? = some (some (.rs C ns ds))) (hc : Cls c.K C) (hn : NoAttr c.K C f) (hd : (ns.zip ds).lookup f = some d) : EvE c (tFld c.K (tVar i) f) ρ d := fun G0 H0 σ G H r Q q => by
  obtain ⟨v, h1, p, dx, fs, rfl, ow, hp, hf, hl⟩ := r.slot i _ h
  obtain ⟨v, h4, h5⟩ := look_zip hf hl hd
  exact ⟨_, h1, p, C, dx, fs, v, rfl, hp, hc, hn, h4, q d v G H rfl (.refl r.ok) h5⟩
/-- the entry of a method whose self is the caller's -/
theorem Rel.initS {G H : Hp} {p dx : Addr} {fs : List (Str × V)} {ds as : List D} {ws : List V} (ok : Ok c G H) (hp : H p = some (.ins C dx fs)) (gp : G p = none) (nb : some p ≠ c.B) (hn : fs.map (·.1) = ns) (hl : RpL c.K G ds (fs.map (·.2))) (hw : RpL c.K G as ws) (N : List Str) :
    Rel c G H (some (.rs C ns ds) :: (as.map (fun d => some (Cell.dat d)) ++ List.replicate (N.length - (as.length + 1)) none)) (L2.start N (.ref p :: ws)) G H := by
  have r0 := Rel.init ok (.cons (.raw (.ref p)) hw) N
  have e1 : (D.raw (.ref p) :: as).map (fun d => some (Cell.dat d)) ++ List.replicate (N.length - (D.raw (.ref p) :: as).length) none = some (.dat (.raw (.ref p))) :: (as.map (fun d => some (Cell.dat d)) ++ List.replicate (N.length - (as.length + 1)) none) := rfl
  rw [e1] at r0
  refine ⟨r0.st, r0.len, fun j cl e => ?_, fun j k cj ck n e1 e2 m1 m2 => ?_⟩
  · cases j with
    | zero =>
      simp only [List.getElem?_cons_zero, Option.some.injEq] at e
      subst e
      obtain ⟨v, h1, h2⟩ := r0.slot 0 (.dat (.raw (.ref p))) rfl
      cases h2
      exact ⟨_, h1, p, dx, fs, rfl, ⟨(by rw [hp]; intro z; cases z), gp, nb⟩, hp, hn, hl⟩
    | succ j => exact r0.slot (j + 1) cl e
  · cases j with
    | zero =>
      simp only [List.getElem?_cons_zero, Option.some.injEq] at e1
      subst e1
      cases m1
    | succ j =>
      cases k with
      | zero =>
        simp only [List.getElem?_cons_zero, Option.some.injEq] at e2
        subst e2
        cases m2
      | succ k => exact r0.sep (j + 1) (k + 1) cj ck n e1 e2 m1 m2
end
end Fx
/-! text FxTop -/
namespace Fx
open PySem L2 Evl PyProof.Rows

def topS (i : Nat) : Stmt := PySem.Challenge.pw_foreaft_k63_swaps_and_idle_passes.main.body.getD i (.Pass ⟨0, 0, 0, 0⟩)
def inClass (s : Stmt) (m : Nat) : Stmt := match s with
  | .ClassDef _ _ _ b _ _ _ _ _ _ _ => b.getD m (.Pass ⟨0, 0, 0, 0⟩)
  | _ => .Pass ⟨0, 0, 0, 0⟩
abbrev ct (P : Program) (w : World) (K : PySem.W.Frag) (tabs : List NdefX.NTab) (ad : Ads) : Ct := ⟨P, w, K, none, tabs, ad⟩
def LETTERS : Str := "abcdefghijklmnopqrstuvwxyz"
/-- what the module's names stand for -/
structure Top (K : PySem.W.Frag) (mg : Str → Option Value) : Prop where
  n_range : mg "range" = none
  n_len : mg "len" = none
  n_enumerate : mg "enumerate" = none
  n_tuple : mg "tuple" = none
  n_list : mg "list" = none
  n_max : mg "max" = none
  n_isinstance : mg "isinstance" = none
  n_str : mg "str" = none
  n_int : mg "int" = none
  n_bool : mg "bool" = none
  n_all : mg "all" = none
  n_abs : mg "abs" = none
  n_sorted : mg "sorted" = none
  n_super : mg "super" = none
  g_LETTERS : ∃ t, mg "LETTERS" = some (.str LETTERS t)
  g_MOST_LETTERS : ∃ t, mg "MOST_LETTERS" = some (.int 5 t)
  g_MOST_STATES : ∃ t, mg "MOST_STATES" = some (.int 40 t)
  g_MOST_COMPOSED : ∃ t, mg "MOST_COMPOSED" = some (.int 100 t)
  g_MOST_PASSES : ∃ t, mg "MOST_PASSES" = some (.int 6 t)
/-- a module's constant -/
theorem pe_gi {X : Cx} {x : Str} {i : Int} {pos : Pos} (hg : Gl X x) (hm : ∃ t, X.mg x = some (.int i t)) (hd : (x == ("__debug__" : Str)) = false := by decide) : PE X (.Name x pos) (tC (.int i)) := by
  obtain ⟨t, hm⟩ := hm
  exact pe_glob hg hm ⟨t, rfl⟩ hd
theorem pe_gs {X : Cx} {x : Str} {i : Str} {pos : Pos} (hg : Gl X x) (hm : ∃ t, X.mg x = some (.str i t)) (hd : (x == ("__debug__" : Str)) = false := by decide) : PE X (.Name x pos) (tC (.str i)) := by
  obtain ⟨t, hm⟩ := hm
  exact pe_glob hg hm ⟨t, rfl⟩ hd
/-- a def of the module that keeps a promise, by its name -/
structure Cal (P : Program) (w : World) (K : PySem.W.Frag) (mg : Str → Option Value) (base : Heap) (CX : CXT) (k : Nat) (x : Str) (ps : List Str) (sp : Sp) : Prop where
  ex : ∃ (f : Addr) (fd : FuncData), FnOk P w K mg base CX k f fd ps sp ∧ mg x = some (.ref f) ∧ PySem.W.keepIn K (.ref f) = true ∧ Binds K fd ps []
theorem pe_cal {X : Cx} {CX : CXT} {k : Nat} {x : Str} {ps : List Str} {sp : Sp} {E : XK} {p pos : Pos} {e : Expr} {es : List Expr} {t : TA} (C : Cal X.prog X.w X.K X.mg X.base CX k x ps sp) (hr : Room k X.A) (hg : Gl X x) (hx : Passes CX X E) (ha : PA X (e :: es) t)
    (hdb : (x == ("__debug__" : Str)) = false := by decide) (he : starEach (e :: es) X.env = (false, eval e X.env) :: starEach es X.env := by rfl) (hpl : (backTo pos (starEach es X.env)).any (·.1) = false := by rfl) :
    PE X (.Call (.Name x p) (e :: es) [] pos) (tCall sp [] E t) := by
  obtain ⟨f, fd, G, hm, hk, hb⟩ := C.ex
  exact pe_call G hr hg hm hk hb .nil hx ha hdb he hpl
theorem Cal.mono {P : Program} {w : World} {K : PySem.W.Frag} {mg : Str → Option Value} {base : Heap} {CX : CXT} {j k : Nat} {x : Str} {ps : List Str} {sp : Sp} (C : Cal P w K mg base CX j x ps sp) (h : j ≤ k) : Cal P w K mg base CX k x ps sp := by
  obtain ⟨f, fd, G, hm, hk, hb⟩ := C.ex
  exact ⟨f, fd, G.mono h, hm, hk, hb⟩
/-- a class of the module whose making keeps a promise -/
structure CalM (P : Program) (w : World) (K : PySem.W.Frag) (mg : Str → Option Value) (base : Heap) (k : Nat) (x : Str) (C : Addr) (sp : Sp) : Prop where
  ex : ∃ (f : Addr) (fd : FuncData) (ps : List Str), Mk K C f ∧ FnOk P w K mg base CX0 k f fd ps sp ∧ mg x = some (.ref C) ∧ Binds K fd ps []
theorem pe_mkm {X : Cx} {k : Nat} {x : Str} {D : Addr} {sp : Sp} {E : XK} {p pos : Pos} {e : Expr} {es : List Expr} {t : TA} (C : CalM X.prog X.w X.K X.mg X.base k x D sp) (hr : Room (k + 1) X.A) (hg : Gl X x) (hx : Passes CX0 X E) (ha : PA X (e :: es) t)
    (hdb : (x == ("__debug__" : Str)) = false := by decide) (he : starEach (e :: es) X.env = (false, eval e X.env) :: starEach es X.env := by rfl) (hpl : (backTo pos (starEach es X.env)).any (·.1) = false := by rfl) :
    PE X (.Call (.Name x p) (e :: es) [] pos) (tMake D sp [] E t) := by
  obtain ⟨f, fd, ps, M, F, hm, hb⟩ := C.ex
  exact pe_make M F hr hg hm hb .nil hx ha hdb he hpl
/-- a method that keeps a promise -/
structure CalT (P : Program) (w : World) (K : PySem.W.Frag) (mg : Str → Option Value) (base : Heap) (CX : CXT) (k : Nat) (C : Addr) (m : Str) (sp : Sp) : Prop where
  ex : ∃ (f : Addr) (fd : FuncData) (ps : List Str), Meth K C m f ∧ FnOk P w K mg base CX k f fd ps sp ∧ Binds K fd ps []
  cls : Cls K C
theorem hu65 {A : Around} {k : Nat} (hr : Room k A) : A.units + 65 < cLine := by have := hr.un; omega
theorem hu9 {A : Around} {k : Nat} (hr : Room k A) : A.units + 1 + 8 < cLine := by have := hr.un; omega
theorem hu8 {A : Around} {k : Nat} (hr : Room k A) : A.units + 8 < cLine := by have := hr.un; omega
abbrev FnP (K : PySem.W.Frag) (x : Str) (st : Stmt) (f : Addr) (fd : FuncData) : Prop := FunD K x x (defArgs st) (defBody st) (defScope st) [] [] f fd
abbrev FnM (K : PySem.W.Frag) (x q : Str) (st : Stmt) (f : Addr) (fd : FuncData) : Prop := FunD K x q (defArgs st) (defBody st) (defScope st) [] [] f fd
/-- a value's truth -/
def tTr (K : PySem.W.Frag) (ta : TE) : TT := fun σ H Q => ta σ H fun x H' => ∃ k, TruV K x H' k ∧ Q k H'
section
variable {c : Ct} {ρ : Env} {te ta tb tk tv : TE} {x y z d : D} {k : D → Prop} {i : Nat} {E : XK} {A : AEnds} {t : TS}
theorem et_trL {ds : List D} (h : EvE c ta ρ (.lst ds)) : EvT c (tTr c.K ta) ρ (!ds.isEmpty) := fun G0 H0 σ G H r Q q => by
  refine h _ _ _ _ _ r _ fun x v G1 H1 kx s1 rx => ?_
  subst kx
  obtain ⟨a, vs, rfl, ha, hl⟩ := rx.list
  refine ⟨!ds.isEmpty, .inl ⟨vs, SqL.of (s1.ok.gh _ _ ha), ?_⟩, q _ G1 H1 rfl s1⟩
  cases hl <;> rfl
/-- .. a text's sort, a new promise: all of a def's facts together -/
theorem cal_mk {P : Program} {w : World} {K : PySem.W.Frag} {mg : Str → Option Value} {base : Heap} {k : Nat} {x : Str} {st : Stmt} {f : Addr} {fd : FuncData} {N ps : List Str} {sp : Sp} (F : FnP K x st f fd) (hm : mg x = some (.ref f)) (S : FnScope N ps (defScope st))
    (hb : ∀ (kV doc pm : Value) (an : Option Addr) (cdv ct : Value) (us : List Value), us.length = ps.length → bindArgs (PySem.W.fnOf x x (defArgs st) (defBody st) (defScope st) .none kV doc pm an cdv ct) ⟨us, []⟩ = pure (ps.zip us))
    (len : ∀ vs H Q E, sp vs H Q E → vs.length = ps.length)
    (hbody : ∀ (cdv : Value) (A : Around) (outer : List PySem.Env) (s : Shared) (H : Hp) (vs : List V) (Q : VK) (E : XK), Room k (A.deeper (envOfC x (defScope st) s.heap.objs.size f cdv)) → sp vs H Q E →
      ∃ t, PSs (cxOf CX0 P w K mg base N x (defScope st) f cdv A outer s H E).nox (defBody st) t ∧ t { nx := fun _ H' => Q .non H', rt := Q } (L2.start N vs) H) : Cal P w K mg base CX0 (k + 1) x ps sp :=
  ⟨f, fd, F.ok S len fun cdv A outer s H vs Q E hr h => let ⟨t, h1, h2⟩ := hbody cdv A outer s H vs Q E hr h; ⟨t, h1.nox, h2⟩, hm, F.kp, F.bindsN hb⟩
end
end Fx
set_option maxHeartbeats 0
/-! text HeadA -/
namespace Fx
open PySem L2 Evl PyProof.Rows NdefX LamX
/-! ### the head: what is looked at -/
def d_reached_behind : He.DefD := ⟨("reached_behind", none), "reached_behind", "reached_behind", defArgs (topS 2), defBody (topS 2), defScope (topS 2), [], []⟩
def d_reached_in_front : He.DefD := ⟨("reached_in_front", none), "reached_in_front", "reached_in_front", defArgs (topS 3), defBody (topS 3), defScope (topS 3), [], []⟩
def d_kept_rows : He.DefD := ⟨("kept_rows", none), "kept_rows", "kept_rows", defArgs (topS 4), defBody (topS 4), defScope (topS 4), [], []⟩
def d_numbered : He.DefD := ⟨("_numbered", none), "_numbered", "_numbered", defArgs (topS 6), defBody (topS 6), defScope (topS 6), [], []⟩
def d_classes : He.DefD := ⟨("classes", none), "classes", "classes", defArgs (topS 7), defBody (topS 7), defScope (topS 7), [], []⟩
def d_chosen : He.DefD := ⟨("_chosen", none), "_chosen", "_chosen", defArgs (topS 8), defBody (topS 8), defScope (topS 8), [], []⟩
def d_least_parts : He.DefD := ⟨("least_parts", none), "least_parts", "least_parts", defArgs (topS 9), defBody (topS 9), defScope (topS 9), [], []⟩
def d_is_alphabet : He.DefD := ⟨("is_alphabet", none), "is_alphabet", "is_alphabet", defArgs (topS 17), defBody (topS 17), defScope (topS 17), [], []⟩
def d_is_word : He.DefD := ⟨("is_word", none), "is_word", "is_word", defArgs (topS 18), defBody (topS 18), defScope (topS 18), [], []⟩
def d_are_rows : He.DefD := ⟨("_are_rows", none), "_are_rows", "_are_rows", defArgs (topS 21), defBody (topS 21), defScope (topS 21), [], []⟩
def d_is_table : He.DefD := ⟨("_is_table", none), "_is_table", "_is_table", defArgs (topS 22), defBody (topS 22), defScope (topS 22), [], []⟩
def d_form : He.DefD := ⟨("form", none), "form", "form", defArgs (topS 24), defBody (topS 24), defScope (topS 24), [], []⟩
def d_identity : He.DefD := ⟨("identity", none), "identity", "identity", defArgs (topS 25), defBody (topS 25), defScope (topS 25), [], []⟩
def d_least : He.DefD := ⟨("least", none), "least", "least", defArgs (topS 27), defBody (topS 27), defScope (topS 27), [], []⟩
def d_walked : He.DefD := ⟨("_walked", none), "_walked", "_walked", defArgs (topS 30), defBody (topS 30), defScope (topS 30), [], []⟩
def d_left_onward : He.DefD := ⟨("_left_onward", none), "_left_onward", "_left_onward", defArgs (topS 31), defBody (topS 31), defScope (topS 31), [], []⟩
def d_right_onward : He.DefD := ⟨("_right_onward", none), "_right_onward", "_right_onward", defArgs (topS 32), defBody (topS 32), defScope (topS 32), [], []⟩
def d_letter : He.DefD := ⟨("_letter", none), "_letter", "_letter", defArgs (topS 33), defBody (topS 33), defScope (topS 33), [], []⟩
def d_small_machine : He.DefD := ⟨("small_machine", none), "small_machine", "small_machine", defArgs (topS 34), defBody (topS 34), defScope (topS 34), [], []⟩
def d_compose : He.DefD := ⟨("compose", none), "compose", "compose", defArgs (topS 35), defBody (topS 35), defScope (topS 35), [], []⟩
def d_told : He.DefD := ⟨("_told", none), "_told", "_told", defArgs (topS 36), defBody (topS 36), defScope (topS 36), [], []⟩
def d_cascade : He.DefD := ⟨("cascade", none), "cascade", "cascade", defArgs (topS 37), defBody (topS 37), defScope (topS 37), [], []⟩
def d_both_orders : He.DefD := ⟨("_both_orders", none), "_both_orders", "_both_orders", defArgs (topS 38), defBody (topS 38), defScope (topS 38), [], []⟩
def d_commutes : He.DefD := ⟨("commutes", none), "commutes", "commutes", defArgs (topS 39), defBody (topS 39), defScope (topS 39), [], []⟩
def d_copied : He.DefD := ⟨("copied", none), "copied", "copied", defArgs (topS 42), defBody (topS 42), defScope (topS 42), [], []⟩
def d_whole : He.DefD := ⟨("_whole", none), "_whole", "_whole", defArgs (topS 43), defBody (topS 43), defScope (topS 43), [], []⟩
def d_law_cell : He.DefD := ⟨("_law_cell", none), "_law_cell", "_law_cell", defArgs (topS 46), defBody (topS 46), defScope (topS 46), [], []⟩
def d_law_row : He.DefD := ⟨("_law_row", none), "_law_row", "_law_row", defArgs (topS 47), defBody (topS 47), defScope (topS 47), [], []⟩
def d_law_draw : He.DefD := ⟨("_law_draw", none), "_law_draw", "_law_draw", defArgs (topS 48), defBody (topS 48), defScope (topS 48), [], []⟩
def d_law_states : He.DefD := ⟨("_law_states", none), "_law_states", "_law_states", defArgs (topS 49), defBody (topS 49), defScope (topS 49), [], []⟩
def d_law_machine : He.DefD := ⟨("_law_machine", none), "_law_machine", "_law_machine", defArgs (topS 50), defBody (topS 50), defScope (topS 50), [], []⟩
def d_law_alphabet : He.DefD := ⟨("_law_alphabet", none), "_law_alphabet", "_law_alphabet", defArgs (topS 51), defBody (topS 51), defScope (topS 51), [], []⟩
def d_law_made : He.DefD := ⟨("_law_made", none), "_law_made", "_law_made", defArgs (topS 52), defBody (topS 52), defScope (topS 52), [], []⟩
def d_law_key : He.DefD := ⟨("_law_key", none), "_law_key", "_law_key", defArgs (topS 53), defBody (topS 53), defScope (topS 53), [], []⟩
def d_law_firsts : He.DefD := ⟨("_law_firsts", none), "_law_firsts", "_law_firsts", defArgs (topS 54), defBody (topS 54), defScope (topS 54), [], []⟩
def d_law_trim : He.DefD := ⟨("_law_trim", none), "_law_trim", "_law_trim", defArgs (topS 55), defBody (topS 55), defScope (topS 55), [], []⟩
def d_law_classes : He.DefD := ⟨("_law_classes", none), "_law_classes", "_law_classes", defArgs (topS 56), defBody (topS 56), defScope (topS 56), [], []⟩
def d_law_least : He.DefD := ⟨("_law_least", none), "_law_least", "_law_least", defArgs (topS 57), defBody (topS 57), defScope (topS 57), [], []⟩
def d_law_grown : He.DefD := ⟨("_law_grown", none), "_law_grown", "_law_grown", defArgs (topS 58), defBody (topS 58), defScope (topS 58), [], []⟩
def d_law_composed : He.DefD := ⟨("_law_composed", none), "_law_composed", "_law_composed", defArgs (topS 59), defBody (topS 59), defScope (topS 59), [], []⟩
def d_law_fit : He.DefD := ⟨("_law_fit", none), "_law_fit", "_law_fit", defArgs (topS 60), defBody (topS 60), defScope (topS 60), [], []⟩
def d_law_whole : He.DefD := ⟨("_law_whole", none), "_law_whole", "_law_whole", defArgs (topS 61), defBody (topS 61), defScope (topS 61), [], []⟩
def d_law_told : He.DefD := ⟨("_law_told", none), "_law_told", "_law_told", defArgs (topS 62), defBody (topS 62), defScope (topS 62), [], []⟩
def d_law_due_swap : He.DefD := ⟨("_law_due_swap", none), "_law_due_swap", "_law_due_swap", defArgs (topS 63), defBody (topS 63), defScope (topS 63), [], []⟩
def d_law_due_idle : He.DefD := ⟨("_law_due_idle", none), "_law_due_idle", "_law_due_idle", defArgs (topS 64), defBody (topS 64), defScope (topS 64), [], []⟩
def d_law : He.DefD := ⟨("law", none), "law", "law", defArgs (topS 65), defBody (topS 65), defScope (topS 65), [], []⟩
def d_Machine___init__ : He.DefD := ⟨("Machine", some "__init__"), "__init__", "Machine.__init__", defArgs (inClass (topS 23) 0), defBody (inClass (topS 23) 0), defScope (inClass (topS 23) 0), [], []⟩
def d_Book___init__ : He.DefD := ⟨("Book", some "__init__"), "__init__", "Book.__init__", defArgs (inClass (topS 44) 0), defBody (inClass (topS 44) 0), defScope (inClass (topS 44) 0), [], []⟩
def d_Book__change : He.DefD := ⟨("Book", some "_change"), "_change", "Book._change", defArgs (inClass (topS 44) 3), defBody (inClass (topS 44) 3), defScope (inClass (topS 44) 3), [], []⟩
def d_Book_insert : He.DefD := ⟨("Book", some "insert"), "insert", "Book.insert", defArgs (inClass (topS 44) 5), defBody (inClass (topS 44) 5), defScope (inClass (topS 44) 5), [], []⟩
def d_Book__require : He.DefD := ⟨("Book", some "_require"), "_require", "Book._require", defArgs (inClass (topS 44) 4), defBody (inClass (topS 44) 4), defScope (inClass (topS 44) 4), [], []⟩
def d_Book_whole : He.DefD := ⟨("Book", some "whole"), "whole", "Book.whole", defArgs (inClass (topS 44) 10), defBody (inClass (topS 44) 10), defScope (inClass (topS 44) 10), [], []⟩
def d_Book_can_swap : He.DefD := ⟨("Book", some "can_swap"), "can_swap", "Book.can_swap", defArgs (inClass (topS 44) 11), defBody (inClass (topS 44) 11), defScope (inClass (topS 44) 11), [], []⟩
def d_Book_idle_passes : He.DefD := ⟨("Book", some "idle_passes"), "idle_passes", "Book.idle_passes", defArgs (inClass (topS 44) 12), defBody (inClass (topS 44) 12), defScope (inClass (topS 44) 12), [], []⟩
def fnH : List He.DefD := [d_reached_behind, d_reached_in_front, d_kept_rows, d_numbered, d_classes, d_chosen, d_least_parts, d_is_alphabet, d_is_word, d_are_rows, d_is_table, d_form, d_identity, d_least, d_walked, d_left_onward, d_right_onward, d_letter, d_small_machine, d_compose, d_told, d_cascade, d_both_orders, d_commutes, d_copied, d_whole, d_law_cell, d_law_row, d_law_draw, d_law_states, d_law_machine, d_law_alphabet, d_law_made, d_law_key, d_law_firsts, d_law_trim, d_law_classes, d_law_least, d_law_grown, d_law_composed, d_law_fit, d_law_whole, d_law_told, d_law_due_swap, d_law_due_idle, d_law, d_Machine___init__, d_Book___init__, d_Book__change, d_Book_insert, d_Book__require, d_Book_whole, d_Book_can_swap, d_Book_idle_passes]
def faH : List He.Fa := [.free "range", .free "len", .free "enumerate", .free "tuple", .free "list", .free "max", .free "isinstance", .free "str", .free "int", .free "bool", .free "all", .free "abs", .free "sorted", .free "super", .int "MOST_LETTERS" 5, .int "MOST_STATES" 40, .int "MOST_COMPOSED" 100, .int "MOST_PASSES" 6, .str "LETTERS" LETTERS, .glo "reached_behind", .glo "reached_in_front", .glo "kept_rows", .glo "_numbered", .glo "classes", .glo "_chosen", .glo "least_parts", .glo "is_alphabet", .glo "is_word", .glo "_are_rows", .glo "_is_table", .glo "form", .glo "identity", .glo "least", .glo "_walked", .glo "_left_onward", .glo "_right_onward", .glo "_letter", .glo "small_machine", .glo "compose", .glo "_told", .glo "cascade", .glo "_both_orders", .glo "commutes", .glo "copied", .glo "_whole", .glo "_law_cell", .glo "_law_row", .glo "_law_draw", .glo "_law_states", .glo "_law_machine", .glo "_law_alphabet", .glo "_law_made", .glo "_law_key", .glo "_law_firsts", .glo "_law_trim", .glo "_law_classes", .glo "_law_least", .glo "_law_grown", .glo "_law_composed", .glo "_law_fit", .glo "_law_whole", .glo "_law_told", .glo "_law_due_swap", .glo "_law_due_idle", .glo "law", .glo "Machine", .glo "Book", .glo "MachineError", .glo "BookError", .cls "Machine", .cls "Book", .mkr "Machine", .mkr "Book", .noat "Machine" "reads", .noat "Machine" "writes", .noat "Machine" "left", .noat "Machine" "right", .noat "Machine" "table", .noat "Book" "alphabet", .noat "Book" "rows", .noat "Book" "before", .meth "Book" "_change", .meth "Book" "insert", .meth "Book" "_require", .meth "Book" "whole", .meth "Book" "can_swap", .meth "Book" "idle_passes", .exm "BookError" "BookError" true, .exm "MachineError" "BookError" false, .exm "MachineError" "MachineError" true]
abbrev RR : PySem.W.OpenRow := PySem.W.OpenLaw.row PySem.Challenge.rw_foreaft_k63_swaps_and_idle_passes
def fileH : Str := RR.prog.main.file
/-- an exception class's object -/
def oexB (K : PySem.W.Frag) (C : Addr) : Bool := match K.lookup C with
  | some ⟨.type t, _, .cls cd, sl⟩ => (match cd.mro, sl.toList with
    | .ref C' :: bm, [_, _, _, _, some (.builtin n), _] => decide (t = "type") && (decide (C' = C) && (decide (n = "ValueError.__new__") && (!cd.hasDel && (PySem.HandSPX.refsVE bm && cd.hasDict))))
    | _, _ => false)
  | _ => false
/-- its __init__: the cell, the code -/
def initB (K : PySem.W.Frag) (x q : Str) : Bool := match K.lookup (He.ma K (He.ga K x) "__init__") with
  | some ⟨_, _, .func fd, _⟩ => (match fd.closure with
    | [(_, cc)] => (match K.lookup cc with
      | some ⟨_, _, .cell (some (.ref C')), _⟩ => decide (C' = He.ga K x)
      | _ => false)
    | _ => false) && (match fd.code with
    | .ref cda => PySem.W.codeIn K (.ref cda) q && (match K.lookup cda with
      | some ⟨_, _, .fields vs, _⟩ => (match (vs[2]? : Option Value) with
        | some (.str f _) => decide (fileH = f)
        | _ => false)
      | _ => false)
    | _ => false)
  | _ => false
def excB (K : PySem.W.Frag) (x : Str) : List Bool := [oexB K (He.ga K x), He.eqO (PySem.W.findIn K (.ref (He.ga K x)) "__setattr__") (some (some (.builtin "object.__setattr__"))),
  decide (PySem.W.subIn K (.ref (He.ga K x)) (.type "BaseException") = some true), decide (PySem.W.typeIn K (.ref (He.ga K x)) = some (.type "type")), PySem.W.keepIn K (.ref (He.ga K x)),
  initB K x (x ++ ".__init__"), He.eqO (PySem.W.findIn K (.ref (He.ga K x)) "__init__") (some (some (.ref (He.ma K (He.ga K x) "__init__")))), decide (PySem.W.typeIn K (.ref (He.ma K (He.ga K x) "__init__")) = some (.type "function")),
  (PySem.W.clsIn K (He.ga K x)).isSome, decide (PySem.W.mroIn K (He.ga K x) (.ref (He.ga K x)) = some true), He.eqO (PySem.W.ks_superIn K (He.ga K x) (He.ga K x) "__init__") (some (some (.builtin "ValueError.__init__"))),
  decide (PySem.W.subIn K (.ref (He.ga K x)) (.type "ValueError") = some true), He.eqO (PySem.W.findIn K (.ref (He.ga K x)) "reason") (some none), xfB K (He.ga K x)]
def exH (K : PySem.W.Frag) : List Bool := He.eqO (PySem.W.nsIn K cStatics "thirdparty.any") (some none) :: (excB K "MachineError" ++ excB K "BookError")
abbrev FnI : Type := Option (Str × Str × Arguments × FuncBody × Scope × Addr × List Str × Value × Addr)
def fnI (K : PySem.W.Frag) (x : Str) : FnI := match K.lookup (He.ma K (He.ga K x) "__init__") with
  | some ⟨_, _, .func fd, _⟩ => some (fd.name, fd.qualname, fd.params, fd.body, fd.scope, fd.globals, fd.closure.map Prod.fst, fd.defaults, fd.builtins)
  | _ => none
def valI (x : Str) (st : Stmt) : FnI := some ("__init__", x ++ ".__init__", defArgs st, .stmts (defBody st), defScope st, mainGlobals, ["__class__"], .none, builtinsNs)
abbrev sME : Stmt := inClass (topS 12) 0
abbrev sBE : Stmt := inClass (topS 13) 0
def tfH : List He.Defn := [("compose", none)]
def asH (g : Addr → Option Obj) : List Addr := He.asD g 4 ++ [cStatics]
end Fx
/-! text HeadB -/
namespace Fx
open PySem L2 Evl PyProof.Rows NdefX LamX
/-! ### the Hook -/
abbrev pC : He.Defn := ("compose", none)
structure SaysH (h : Heap) (K : PySem.W.Frag) : Prop where
  d : He.SaysD faH fnH K
  im : fnI K "MachineError" = valI "MachineError" sME
  ib : fnI K "BookError" = valI "BookError" sBE
  ex : (exH K).all id = true
  hd : PySem.W.codeHdIn K (He.cT K pC).1 (He.cT K pC).2 = true
  out : K.lookup (He.cT K pC).2 = none
  empty : h.get? (He.cT K pC).2 = some { cls := .none, data := .fields #[] }
abbrev AlH : Type := He.AlD × (FnI × FnI) × (Bool × Bool)
def obsK (g : Addr → Option Obj) (K : PySem.W.Frag) : AlH := (He.obsD faH fnH K, (fnI K "MachineError", fnI K "BookError"), ((exH K).all id, He.tabsB g tfH K))
def obsH (g : Addr → Option Obj) : AlH := obsK g (He.frT g (asH g))
def valH : AlH := (He.valD fnH, (valI "MachineError" sME, valI "BookError" sBE), (true, true))
theorem saysH_of {h : Heap} (e : obsH h.get? = valH) : SaysH h (He.frT h.get? (asH h.get?)) := by
  have e1 : He.obsD faH fnH (He.frT h.get? (asH h.get?)) = He.valD fnH := congrArg (fun z : AlH => z.1) e
  have e2 := congrArg (fun z : AlH => z.2.1.1) e
  have e3 := congrArg (fun z : AlH => z.2.1.2) e
  have e4 : (exH (He.frT h.get? (asH h.get?))).all id = true := congrArg (fun z : AlH => z.2.2.1) e
  have e5 : He.tabsB h.get? tfH (He.frT h.get? (asH h.get?)) = true := congrArg (fun z : AlH => z.2.2.2) e
  obtain ⟨h3, h4⟩ := He.ba (List.all_eq_true.mp e5 pC List.mem_cons_self)
  have key : ∃ o, h.get? (He.cT (He.frT h.get? (asH h.get?)) pC).2 = some o ∧ He.emptyTab o = true := by
    cases q : h.get? (He.cT (He.frT h.get? (asH h.get?)) pC).2 with
    | none =>
      rw [q] at h4
      cases h4
    | some o =>
      rw [q] at h4
      exact ⟨o, rfl, h4⟩
  obtain ⟨o, q, z⟩ := key
  exact ⟨e1, e2, e3, e4, h3, He.frT_none q z, by rw [q, He.emptyTab_eq z]⟩
def hookH : PySem.W.Hook where
  α := AlH
  obs := fun s => obsH s.heap.get?
  val := fun _ => valH
  says := fun _ h => ∃ K : PySem.W.Frag, K.In h ∧ SaysH h K
  of := fun _ _ e => ⟨_, He.frT_in, saysH_of e⟩
  keeps := fun _ _ _ ⟨K, hK, c⟩ k => ⟨K, PySem.W.Frag.In.keeps hK k, ⟨c.d, c.im, c.ib, c.ex, c.hd, c.out, k _ _ c.empty⟩⟩
def obH (s : PySem.W.SharedT) : AlH := obsH (HandSHeadRun.getT s)
theorem obH_eq (s : PySem.W.SharedT) : obH s = hookH.obs s.abs := by
  have e : HandSHeadRun.getT s = s.abs.heap.get? := funext (HandSHeadRun.getT_eq s)
  show obsH (HandSHeadRun.getT s) = obsH s.abs.heap.get?
  rw [e]
def namesH0 : List Str := ["_wall", "__name__", "reached_behind", "reached_in_front", "kept_rows", "_numbered", "classes", "_chosen", "least_parts", "ForeaftError", "MachineError", "BookError", "LETTERS", "MOST_LETTERS", "is_alphabet", "is_word", "MOST_STATES", "_are_rows", "_is_table", "Machine", "form", "identity", "least", "MOST_COMPOSED", "_walked", "_left_onward", "_right_onward", "_letter", "small_machine", "compose"]
def namesH1 : List Str := ["_told", "cascade", "_both_orders", "commutes", "MOST_PASSES", "copied", "_whole", "Book", "_law_cell", "_law_row", "_law_draw", "_law_states", "_law_machine", "_law_alphabet", "_law_made", "_law_key", "_law_firsts", "_law_trim", "_law_classes", "_law_least", "_law_grown", "_law_composed", "_law_fit", "_law_whole", "_law_told", "_law_due_swap", "_law_due_idle"]
def namesH : List Str := namesH0 ++ namesH1
theorem runH (w : World) : HandSHeadRun.RunEq RR (PySem.W.view RR.prog [65]) hookH obH 4000 namesH w := by
  intro os
  kernel_rfl
end Fx
set_option maxHeartbeats 200000
/-! text Mir -/
/-! The mirror: what the program's defs and the law's defs reckon, as plain functions over lists. -/
namespace Mir

/-- rows of states: the k-th of the row of s -/
def row (rows : List (List Nat)) (s : Nat) : List Nat := rows.getD s []
/-- one state's row appended: what is new -/
def addRow (order : List Nat) (r : List Nat) : List Nat := r.foldl (fun o x => if x ∈ o then o else o ++ [x]) order
/-- the queue: at the place at, so many turns at most -/
def queue (rows : List (List Nat)) : Nat → Nat → List Nat → List Nat
  | 0, _, order => order
  | n + 1, at_, order => if at_ < order.length then queue rows n (at_ + 1) (addRow order (row rows (order.getD at_ 0))) else order
def behind (rows : List (List Nat)) : List Nat := queue rows (rows.length + 1) 0 [0]
/-- one level in front: letter by letter, the states of the level -/
def addLevel (rows : List (List Nat)) (letters : Nat) (order : List Nat) (level : List Nat) : List Nat :=
  (List.range letters).foldl (fun o k => level.foldl (fun o s => let x := (row rows s).getD k 0; if x ∈ o then o else o ++ [x]) o) order
def levels (rows : List (List Nat)) (letters : Nat) : Nat → List Nat → List Nat → List Nat
  | 0, order, _ => order
  | n + 1, order, level => if level.isEmpty then order else let o := addLevel rows letters order level; levels rows letters n o (o.drop order.length)
def front (rows : List (List Nat)) : List Nat := levels rows 2 (rows.length + 1) [0] [0]
def kept (rows : List (List Nat)) (order : List Nat) : List (List Nat) := order.map fun s => (row rows s).map fun o => order.idxOf o

section
variable {α : Type} [DecidableEq α]
/-- the different ones, in the order of their first places -/
def firsts (xs : List α) : List α := xs.foldl (fun o x => if x ∈ o then o else o ++ [x]) []
def numb (xs : List α) : List Nat := xs.map fun x => (firsts xs).idxOf x
end
def maxL (ns : List Nat) : Nat := ns.foldl max 0
def refine (rows : List (List Nat)) (parts : List Nat) : List Nat :=
  numb ((List.range rows.length).map fun s => (parts.getD s 0, (row rows s).map fun o => parts.getD o 0))
/-- until the number of classes stays -/
def settle (rows : List (List Nat)) : Nat → Int → List Nat → List Nat
  | 0, _, parts => parts
  | n + 1, count, parts => if count ≠ (maxL parts : Int) then settle rows n (maxL parts) (refine rows parts) else parts
section
variable {α : Type} [DecidableEq α]
def classesP (rows : List (List Nat)) (marks : List α) : List Nat := settle rows (rows.length + 2) (-1) (numb marks)
end
def chosen (parts : List Nat) : List Nat := (List.range (maxL parts + 1)).map fun p => parts.idxOf p
def chosenRows (rows : List (List Nat)) (parts : List Nat) : List (List Nat) := (chosen parts).map fun s => (row rows s).map fun o => parts.getD o 0

/-- a machine over two letters; a word of the table is its letters' indexes -/
structure Mc where
  l : List (List Nat)
  r : List (List Nat)
  t : List (List (List Nat))
  deriving DecidableEq, Repr
def cell (t : List (List (List Nat))) (i j : Nat) : List Nat := (t.getD i []).getD j []
def small (m : Mc) (lefts rights : List Nat) : List (List (List Nat)) := lefts.map fun i => rights.map fun j => cell m.t i j
def columns (t : List (List (List Nat))) (n : Nat) : List (List (List Nat)) := (List.range n).map fun j => t.map fun row => row.getD j []
def leastP (m : Mc) : Mc :=
  let lefts := behind m.l
  let rights := front m.r
  let rows := kept m.l lefts
  let others := kept m.r rights
  let sm := small m lefts rights
  let pl := classesP rows sm
  let pr := classesP others (columns sm rights.length)
  ⟨chosenRows rows pl, chosenRows others pr, (chosen pl).map fun i => (chosen pr).map fun j => cell sm i j⟩

/-! ### composing -/
/-- a left (right) state of the composed machine: one's state, then two's states -/
abbrev Th := Nat × List Nat
def leftOn (one two : Mc) (th : Th) (k : Nat) : Th :=
  ((row one.l th.1).getD k 0, (List.range one.r.length).map fun j => (row two.l (th.2.getD ((row one.r j).getD k 0) 0)).getD ((cell one.t th.1 j).getD k 0) 0)
def rightOn (one two : Mc) (th : Th) (k : Nat) : Th :=
  ((row one.r th.1).getD k 0, (List.range one.l.length).map fun i => (row two.r (th.2.getD ((row one.l i).getD k 0) 0)).getD ((cell one.t i th.1).getD k 0) 0)
/-- what two letters lead to; none: more than a hundred -/
def stepW (on : Th → Nat → Th) (o : List Th) (th : Th) (k : Nat) : Option (List Th) :=
  if on th k ∈ o then some o else if 100 ≤ o.length then none else some (o ++ [on th k])
def walkRow (on : Th → Nat → Th) (o : List Th) (th : Th) : Option (List Th × List Nat) := do
  let o1 ← stepW on o th 0
  let o2 ← stepW on o1 th 1
  some (o2, [o2.idxOf (on th 0), o2.idxOf (on th 1)])
def walk (on : Th → Nat → Th) : Nat → List Th → List (List Nat) → Option (List Th × List (List Nat))
  | 0, o, rs => some (o, rs)
  | n + 1, o, rs => if rs.length < o.length then
      match walkRow on o (o.getD rs.length (0, [])) with
      | none => none
      | some (o', r) => walk on n o' (rs ++ [r])
    else some (o, rs)
def walked (on : Th → Nat → Th) (first : Th) : Option (List Th × List (List Nat)) := walk on 101 [first] []
def letterP (one two : Mc) (p q : Th) (k : Nat) : Nat :=
  (cell two.t (p.2.getD ((row one.r q.1).getD k 0) 0) (q.2.getD ((row one.l p.1).getD k 0) 0)).getD ((cell one.t p.1 q.1).getD k 0) 0
def toldP (one two : Mc) (p q : Th) : List Nat := [letterP one two p q 0, letterP one two p q 1]
def smallP (m : Mc) : Option Mc := let s := leastP m; if s.l.length > 40 ∨ s.r.length > 40 then none else some s
def composeP (first second : Mc) : Option Mc := do
  let one := leastP first
  let two := leastP second
  let (fs, l) ← walked (leftOn one two) (0, List.replicate one.r.length 0)
  let (bs, r) ← walked (rightOn one two) (0, List.replicate one.l.length 0)
  smallP ⟨l, r, fs.map fun p => bs.map fun q => toldP one two p q⟩
def idM : Mc := ⟨[[0, 0]], [[0, 0]], [[[0, 1]]]⟩
def cascadeP : List Mc → Option Mc
  | [] => some idM
  | m :: ms => ms.foldlM (fun w m => composeP w m) (leastP m)
end Mir
set_option maxHeartbeats 4000000
/-! text FxSpec -/
namespace Fx
open PySem L2 Evl PyProof.Rows Mir

/-! ### how the mirror's things stand as data -/
abbrev eI (n : Nat) : D := .int (n : Int)
def eIs (ns : List Nat) : D := .lst (ns.map eI)
def eRows (rows : List (List Nat)) : D := .lst (rows.map eIs)
/-- an alphabet: its two letters -/
abbrev Al := Nat × Nat
def Als : List Al := [(98, 97), (97, 100), (100, 99), (99, 101), (101, 122)]
def lt (al : Al) (k : Nat) : Nat := if k = 0 then al.1 else al.2
def wS (al : Al) (ws : List Nat) : Str := ⟨(ws.map (lt al)).toArray⟩
def alS (al : Al) : Str := wS al [0, 1]
def eW (al : Al) (ws : List Nat) : D := .str (wS al ws)
def eTab (al : Al) (t : List (List (List Nat))) : D := .lst (t.map fun row => .lst (row.map (eW al)))
def mNames : List Str := ["reads", "writes", "left", "right", "table"]
def mFlds (al : Al) (m : Mc) : List D := [.str (alS al), .str (alS al), eRows m.l, eRows m.r, eTab al m.t]
def eM (C : Addr) (al : Al) (m : Mc) : D := .obj C mNames (mFlds al m)
def eLM (al : Al) (m : Mc) : D := .lst (mFlds al m)

/-! ### which are well formed -/
def RowsOk (n : Nat) (rows : List (List Nat)) : Prop := rows.length = n ∧ ∀ r ∈ rows, r.length = 2 ∧ ∀ s ∈ r, s < n
structure McOk (N : Nat) (m : Mc) : Prop where
  l1 : 1 ≤ m.l.length
  lN : m.l.length ≤ N
  r1 : 1 ≤ m.r.length
  rN : m.r.length ≤ N
  lo : RowsOk m.l.length m.l
  ro : RowsOk m.r.length m.r
  t1 : m.t.length = m.l.length
  t2 : ∀ row ∈ m.t, row.length = m.r.length ∧ ∀ w ∈ row, w.length = 2 ∧ ∀ k ∈ w, k < 2

/-! ### promises -/
abbrev sp_reached_behind (c : Ct) : Sp := SpF c (fun rows : List (List Nat) => [eRows rows, .int 0]) (fun rows => RowsOk rows.length rows ∧ 1 ≤ rows.length ∧ rows.length ≤ 100)
  fun rows d => ∃ f : Nat → List D, d = .lst ((behind rows).map fun s => .tup [eI s, .tup (f s)])
abbrev sp_reached_in_front (c : Ct) : Sp := SpF c (fun rows : List (List Nat) => [eRows rows, .int 0, .int 2]) (fun rows => RowsOk rows.length rows ∧ 1 ≤ rows.length ∧ rows.length ≤ 100)
  fun rows d => ∃ f : Nat → List D, d = .lst ((front rows).map fun s => .tup [eI s, .tup (f s)])
abbrev sp_kept_rows (c : Ct) : Sp := SpF c (fun i : List (List Nat) × List Nat => [eRows i.1, eIs i.2]) (fun i => RowsOk i.1.length i.1 ∧ i.1.length ≤ 100 ∧ i.2.Nodup ∧ (∀ s ∈ i.2, s < i.1.length) ∧ ∀ s ∈ i.2, ∀ o ∈ row i.1 s, o ∈ i.2)
  fun i d => d = eRows (kept i.1 i.2)
/-- keys of a dict: tuples of ints and texts, nested -/
abbrev sp_numbered (c : Ct) : Sp := SpF c (fun keys : List D => [.lst keys]) (fun keys => keys.length ≤ 100 ∧ ∀ k ∈ keys, KeyOk k) fun keys d => d = eIs (numb (keys.map D.key))
abbrev sp_classes (c : Ct) : Sp := SpF c (fun i : List (List Nat) × List D => [eRows i.1, .lst i.2]) (fun i => RowsOk i.1.length i.1 ∧ 1 ≤ i.1.length ∧ i.1.length ≤ 100 ∧ i.2.length = i.1.length ∧ ∀ k ∈ i.2, KeyOk k)
  fun i d => d = eIs (classesP i.1 (i.2.map D.key))
abbrev sp_chosen (c : Ct) : Sp := SpF c (fun i : List (List Nat) × List Nat => [eRows i.1, eIs i.2]) (fun i => RowsOk i.1.length i.1 ∧ 1 ≤ i.1.length ∧ i.1.length ≤ 100 ∧ i.2.length = i.1.length ∧ ∀ p, p ≤ maxL i.2 → p ∈ i.2)
  fun i d => d = .tup [eIs (chosen i.2), eRows (chosenRows i.1 i.2)]
abbrev sp_least_parts (c : Ct) : Sp := SpF c (fun i : Al × Mc => [eRows i.2.l, eRows i.2.r, eTab i.1 i.2.t, .int 2]) (fun i => i.1 ∈ Als ∧ McOk 100 i.2)
  fun i d => d = .tup [eRows (leastP i.2).l, eRows (leastP i.2).r, eTab i.1 (leastP i.2).t]
abbrev sp_is_alphabet (c : Ct) : Sp := SpF c (fun al : Al => [.str (alS al)]) (fun al => al ∈ Als) fun _ d => d = .bl true
abbrev sp_is_word (c : Ct) : Sp := SpF c (fun i : Al × List Nat => [.str (alS i.1), eW i.1 i.2]) (fun i => i.1 ∈ Als ∧ i.2.length = 2 ∧ ∀ k ∈ i.2, k < 2) fun _ d => d = .bl true
abbrev sp_are_rows (c : Ct) : Sp := SpF c (fun rows : List (List Nat) => [eRows rows, .int 2]) (fun rows => RowsOk rows.length rows ∧ 1 ≤ rows.length ∧ rows.length ≤ 40) fun _ d => d = .bl true
abbrev sp_is_table (c : Ct) : Sp := SpF c (fun i : Al × Mc => [eTab i.1 i.2.t, eI i.2.l.length, eI i.2.r.length, .int 2, .str (alS i.1)]) (fun i => i.1 ∈ Als ∧ McOk 40 i.2) fun _ d => d = .bl true
end Fx
/-! text FxSpec2 -/
namespace Fx
open PySem L2 Evl PyProof.Rows Mir

/-! ### promises about machines -/
structure MOk (c : Ct) : Prop where
  cls : Cls c.K c.A.M
  na : ∀ f ∈ mNames, NoAttr c.K c.A.M f
abbrev sp_Machine (c : Ct) : Sp := SpI c c.A.M (fun i : Al × Mc => mFlds i.1 i.2) (fun i => i.1 ∈ Als ∧ McOk 40 i.2) mNames (fun i => mFlds i.1 i.2)
def tRows (rows : List (List Nat)) : D := .tup (rows.map fun r => .tup (r.map eI))
def tTab (al : Al) (t : List (List (List Nat))) : D := .tup (t.map fun r => .tup (r.map (eW al)))
def eF (al : Al) (m : Mc) : D := .tup [.str (alS al), .str (alS al), tRows m.l, tRows m.r, tTab al m.t]
abbrev sp_form (c : Ct) : Sp := SpF c (fun i : Al × Mc => [eM c.A.M i.1 i.2]) (fun i => i.1 ∈ Als ∧ McOk 40 i.2) fun i d => d = eF i.1 i.2
abbrev sp_identity (c : Ct) : Sp := SpF c (fun al : Al => [.str (alS al)]) (fun al => al ∈ Als) fun al d => d = eM c.A.M al idM
abbrev sp_least (c : Ct) : Sp := SpF c (fun i : Al × Mc => [eM c.A.M i.1 i.2]) (fun i => i.1 ∈ Als ∧ McOk 40 i.2) fun i d => d = eM c.A.M i.1 (leastP i.2)
abbrev sp_copied (c : Ct) : Sp := SpF c (fun i : Al × Mc => [eM c.A.M i.1 i.2]) (fun i => i.1 ∈ Als ∧ McOk 40 i.2) fun i d => d = eM c.A.M i.1 i.2
abbrev eTh (p : Th) : D := .tup [eI p.1, .tup (p.2.map eI)]
structure ThOk (n m k : Nat) (p : Th) : Prop where
  a : p.1 < n
  b : p.2.length = m
  c : ∀ s ∈ p.2, s < k
abbrev sp_right_onward (c : Ct) : Sp := SpF c (fun i : Al × Mc × Mc × Th × Nat => [eM c.A.M i.1 i.2.1, eM c.A.M i.1 i.2.2.1, eTh i.2.2.2.1, eI i.2.2.2.2])
  (fun i => i.1 ∈ Als ∧ McOk 40 i.2.1 ∧ McOk 40 i.2.2.1 ∧ ThOk i.2.1.r.length i.2.1.l.length i.2.2.1.r.length i.2.2.2.1 ∧ i.2.2.2.2 < 2)
  fun i d => d = eTh (rightOn i.2.1 i.2.2.1 i.2.2.2.1 i.2.2.2.2)
abbrev sp_left_onward (c : Ct) : Sp := SpF c (fun i : Al × Mc × Mc × Th × Nat => [eM c.A.M i.1 i.2.1, eM c.A.M i.1 i.2.2.1, eTh i.2.2.2.1, eI i.2.2.2.2])
  (fun i => i.1 ∈ Als ∧ McOk 40 i.2.1 ∧ McOk 40 i.2.2.1 ∧ ThOk i.2.1.l.length i.2.1.r.length i.2.2.1.l.length i.2.2.2.1 ∧ i.2.2.2.2 < 2)
  fun i d => d = eTh (leftOn i.2.1 i.2.2.1 i.2.2.2.1 i.2.2.2.2)
structure TwOk (i : Al × Mc × Mc × Th × Th) : Prop where
  al : i.1 ∈ Als
  one : McOk 40 i.2.1
  two : McOk 40 i.2.2.1
  p : ThOk i.2.1.l.length i.2.1.r.length i.2.2.1.l.length i.2.2.2.1
  q : ThOk i.2.1.r.length i.2.1.l.length i.2.2.1.r.length i.2.2.2.2
abbrev sp_letter (c : Ct) : Sp := SpF c (fun i : (Al × Mc × Mc × Th × Th) × Nat => [eM c.A.M i.1.1 i.1.2.1, eM c.A.M i.1.1 i.1.2.2.1, eTh i.1.2.2.2.1, eTh i.1.2.2.2.2, eI i.2]) (fun i => TwOk i.1 ∧ i.2 < 2)
  fun i d => d = eW i.1.1 [letterP i.1.2.1 i.1.2.2.1 i.1.2.2.2.1 i.1.2.2.2.2 i.2]
abbrev sp_told (c : Ct) : Sp := SpF c (fun i : Al × Mc × Mc × Th × Th => [eM c.A.M i.1 i.2.1, eM c.A.M i.1 i.2.2.1, eTh i.2.2.2.1, eTh i.2.2.2.2]) TwOk fun i d => d = eW i.1 (toldP i.2.1 i.2.2.1 i.2.2.2.1 i.2.2.2.2)
end Fx
/-! text FxExc -/
namespace Fx
open PySem PySem.W L2 Evl PyProof.Rows NdefX

/-! ### an exception class whose __init__ is: super().__init__(reason); self.reason = reason -/
abbrev xBody (p0 p1 p2 p3 p4 p5 q0 q1 q2 q3 : Pos) : List Stmt :=
  [.Expr (.Call (.Attribute (.Call (.Name "super" p0) [] [] p1) "__init__" p2) [.Name "reason" p3] [] p4) p5,
   .Assign [.Attribute (.Name "self" q0) "reason" q1] (.Name "reason" q2) q3]
/-- what the written part says of the class at C, its __init__ at fI, the cell __class__ at cc, the code at cda -/
structure XCls (P : Program) (K : PySem.W.Frag) (mg : Str → Option Value) (C fI cc cda : Addr) (name qual : Str) (params : Arguments) (body : List Stmt) (scope : Scope) (fd : FuncData) : Prop where
  T : OexC K C
  fn : ∃ (dV kV doc pm ct oc : Value) (an od : Option Addr) (osl : Array (Option Value)), fd = fnX name qual params body scope [("__class__", cc)] dV kV doc pm an (.ref cda) ct ∧ K.lookup fI = some ⟨oc, od, .func fd, osl⟩
  hcd : codeIn K (.ref cda) qual = true
  cell : ∃ (cl : Value) (cld : Option Addr) (csl : Array (Option Value)), K.lookup cc = some ⟨cl, cld, .cell (some (.ref C)), csl⟩
  code : ∃ (ccl : Value) (cdd : Option Addr) (ccs : Array (Option Value)) (vs : Array Value) (file : Str) (tf : Tok), K.lookup cda = some ⟨ccl, cdd, .fields vs, ccs⟩ ∧ vs[2]? = some (.str file tf) ∧ ((P.main.file : Str) == file) = true
  top : (P.main.scope.names.lookup ("super" : Str)).isSome = false
  sup : mg "super" = none
  any : nsIn K cStatics "thirdparty.any" = some none
  cd : ∃ cd, clsIn K C = some cd
  self : mroIn K C (.ref C) = some true
  sin : ks_superIn K C C "__init__" = some (some (.builtin "ValueError.__init__"))
  sub : subIn K (.ref C) (.type "ValueError") = some true
  reason : findIn K (.ref C) "reason" = some none
/-- the promise of such an __init__ -/
def spX (C : Addr) : Sp := fun vs H Q _ => ∃ (a : Addr) (y : V), vs = [.ref a, y] ∧ H a = some (exo a C none) ∧ ∀ dx, H dx = none → dx ≠ a → Q .non (upd (upd H dx (exd dx [("reason", y)])) a (exo a C (some dx)))
/-- a bound ValueError.__init__ called -/
theorem call_mw {P : Program} {w : World} {A : Around} {E : Value → Shared → Prop} {s : Shared} {u x C : Addr} {us : List Value} {t4 : Addr} {Q : Value → Shared → Prop} {nm qn : Str} {N' : Addr} {bs bm : List Value} {sn : List Str} {sub : List Value} {ab : Bool} {col : Option Bool} {dd : Option Addr} {k0 k1 k2 k3 k5 : Option Value}
    (hu : s.heap.get? u = some (kxs_mw "ValueError.__init__" x)) (hC : s.heap.get? C = some (excClassObj nm qn C N' bs bm true sn sub ab col dd k0 k1 k2 k3 k5 "ValueError.__new__")) (hx : s.heap.get? x = some ({ cls := .ref C, dict := none, data := .fields #[.ref t4, .none, .none, .none, .bool false, .none] } : Obj)) (hz : us.length ≤ sizeLine)
    (hq : ∀ h' t', (∀ b o, b ≠ x → s.heap.get? b = some o → h'.get? b = some o) → h'.get? x = some ({ cls := .ref C, dict := none, data := .fields #[.ref t', .none, .none, .none, .bool false, .none] } : Obj) → Q .none { s with heap := h' }) : wpAny (model P w) A (call (.ref u) us) Q E s := by
  obtain ⟨hh, g, d, tk, os⟩ := s
  refine wpAny_call (codeAny_of_tree ?_)
  show wpAny _ A.in1 (callAny (.ref u) ⟨us, []⟩) _ _ _
  simp only [callAny]
  refine wpAny_bind (wpAny_load hu ?_)
  simp only [kxs_mw, show (Value.type "method-wrapper" == Value.type "method" || Value.type "method-wrapper" == Value.type "builtin_function_or_method" || Value.type "method-wrapper" == Value.type "method-wrapper") = true by decide, if_true]
  refine KFB.if_so (by decide) ?_
  have FB := PySem.F.excBase_ValueError
  refine wpAny_bind (check_bound_init FB.toExcCallFacts hC hx rfl ?_)
  refine wpAny_bind (wpAny_pure (wpAny_pure ?_))
  refine ⟨plainId_quiet FB.init.plain _, codeAny_builtin FB.initEntry ?_⟩
  exact exc_init_tree (cls := .ref C) (t0 := t4) (dv := none) (c2 := .none) (c3 := .none) (b4 := .bool false) hx hz fun h' k' hx' _ => hq h' _ k' hx'
section
variable {P : Program} {w : World} {K : PySem.W.Frag} {mg : Str → Option Value} {base : Heap} {CX : CXT} {C fI cc cda : Addr} {name qual : Str} {params : Arguments} {scope : Scope} {fd : FuncData} {p0 p1 p2 p3 p4 p5 q0 q1 q2 q3 : Pos} {k : Nat}
theorem x_init (F : XCls P K mg C fI cc cda name qual params (xBody p0 p1 p2 p3 p4 p5 q0 q1 q2 q3) scope fd) (S : NScope ["self", "reason", "__class__"] ["self", "reason"] ["__class__"] scope)
    (hsup : scope.names.lookup ("super" : Str) = some .globalImplicit) (he : ∀ env : PySem.Env, ∃ pl : Sem Bool, eval (.Call (.Attribute (.Call (.Name "super" p0) [] [] p1) "__init__" p2) [.Name "reason" p3] [] p4) env = (do
      let ov ← attributeBase (.Call (.Name "super" p0) [] [] p1) "__init__" env (eval (.Call (.Name "super" p0) [] [] p1) env)
      standAt p2.atName
      let (f, first) ← holding [ov] (getMethod ov "__init__" pl)
      callWith p4 f first (backTo p4 (starEach [.Name "reason" p3] env)) []))
    (hsw : ∀ env : PySem.Env, swapsWith (.Name "reason" q2) (some (.Attribute (.Name "self" q0) "reason" q1)) q3.line env = pure false)
    (hpar : ∃ ar, (params.posonlyargs ++ params.args).head? = some ar ∧ ar.arg = "self") : FnOk P w K mg base CX (k + 1) fI fd ["self", "reason"] (spX C) := by
  refine ⟨fun vs H Q E h => ?_, fun A outer s H args us vs Q E hr e0 hb r hsp => ?_⟩
  · obtain ⟨a, y, rfl, _⟩ := h
    rfl
  obtain ⟨a, y, rfl, ha, q⟩ := hsp
  obtain ⟨dV, kV, doc, pm, ct, oc, an, od, osl, rfl, lk⟩ := F.fn
  obtain ⟨cl, cld, csl, lcell⟩ := F.cell
  obtain ⟨ccl, cdd, ccs, fvs, file, tf, lcode, hvs, hfile⟩ := F.code
  obtain ⟨cd, hcls⟩ := F.cd
  obtain ⟨ar, hp1, hp2⟩ := hpar
  have KX : K.In s.heap := e0.mod.kin.keeps fun b o e => (e0.bs b o e).1
  have lim : s.heap.NoLimit := e0.mod.nolimit.keeps fun b o e => (e0.bs b o e).1
  obtain ⟨u0, u1, rfl, ra, ry⟩ : ∃ u0 u1, us = [u0, u1] ∧ RelV (.ref a) u0 ∧ RelV y u1 := by
    cases r with
    | cons r1 r => cases r with
      | cons r2 r => cases r; exact ⟨_, _, rfl, r1, r2⟩
  obtain rfl : u0 = Value.ref a := ra
  refine ks_codeAny_call_defAt (body := xBody p0 p1 p2 p3 p4 p5 q0 q1 q2 q3) (binds := (["self", "reason"] : List Str).zip [Value.ref a, u1]) hr.depth (KX _ _ lk) rfl lim (codeRec_of KX F.hcd) rfl hb S.nocell (fun x hx => S.par x.1 (List.of_mem_zip hx).1) (fun h₁ hns hk₁ => ?_) S.co S.gen S.kind
  have I : Inv (ncx CX P w K mg base ["self", "reason", "__class__"] ⟨name, qual, params, xBody p0 p1 p2 p3 p4 p5 q0 q1 q2 q3, scope, [("__class__", cc)], cda⟩ fI A outer s H E) [] (startF ["self", "reason", "__class__"] [.ref a, y] [some (.ref C)]) H { s with heap := h₁, toks := s.toks + 2 } := by
    refine inv_startN (ps := ["self", "reason"]) (fr := ["__class__"]) (us := [.ref a, u1]) S hr.hd e0 rfl r ⟨rfl, fun y c e => ?_, fun x y c e1 e2 => ?_, fun i y hi => ?_⟩ hns hk₁
    · have ec : c = cc := by
        rw [List.lookup_cons] at e
        split at e
        · exact (Option.some.inj e).symm
        · cases e
      subst ec
      have hbc : base.get? c = some ⟨cl, cld, .cell (some (.ref C)), csl⟩ := e0.mod.kin _ _ lcell
      exact ⟨(e0.bs _ _ hbc).2, some (.ref C), _, (e0.bs _ _ hbc).1, rfl⟩
    · have one : ∀ {z : Str}, ([("__class__", cc)] : List (Str × Addr)).lookup z = some c → z = "__class__" := fun {z} e => by
        rw [List.lookup_cons] at e
        split at e
        · rename_i hz
          exact eq_of_beq hz
        · cases e
      rw [one e1, one e2]
    · match i, hi with
      | 0, hi =>
        cases hi
        exact ⟨cc, rfl, fun v hv => by
          cases hv
          exact ⟨.ref C, rfl, _, KX _ _ lcell, rfl⟩⟩
  have KI := I.kIn
  obtain ⟨pl, hev⟩ := he (callEnv (fnX name qual params (xBody p0 p1 p2 p3 p4 p5 q0 q1 q2 q3) scope [("__class__", cc)] dV kV doc pm an (Value.ref cda) ct) s.heap.objs.size fI)
  refine ks_wpAt_execs_cons (ks_wpAt_Expr_any (ks_wpAt_MethodCall (pl := pl) ?_ hev) I.quiet)
  -- super()
  obtain ⟨oD, hD1, hD2⟩ : ∃ oD, h₁.get? C = some oD ∧ oD.data = .cls cd := by
    have hcls' := hcls
    unfold clsIn at hcls'
    split at hcls'
    · rename_i c d cd' sl ho
      cases hcls'
      exact ⟨_, KI _ _ ho, rfl⟩
    · cases hcls'
  obtain ⟨t0, hx⟩ := exo_at I.hok ha
  obtain ⟨mb, hb1, hb2⟩ := I.mod.blt
  have hself : scope.names.lookup ("self" : Str) = some .local := S.par _ (by decide)
  have hreason : scope.names.lookup ("reason" : Str) = some .local := S.par _ (by decide)
  have hclass : scope.names.lookup ("__class__" : Str) = some .free := S.frk _ (by decide)
  have lself : ((["self", "reason"] : List Str).zip [Value.ref a, u1]).reverse.lookup ar.arg = some (Value.ref a) := by rw [hp2]; rfl
  refine ks_wpAt_super_base hsup hclass (by decide) rfl (KI _ _ lk) rfl hp1 rfl (KI _ _ lcode) rfl hvs hfile F.top ?_
  refine ks_loadName_global S.kind hsup (Calls.loadGlobal_builtin (I.mod.glob.keeps I.bk) F.sup (hb1.keeps I.bk) ((hb2 _ (by decide)).trans (show bootBuiltins "super" = some (.type "super") from by kernel_rfl)) ⟨rfl, ?_⟩)
  refine wpAny_loadName_free S.kind hclass rfl ⟨_, KI _ _ lcell, rfl⟩ ?_
  refine wpAny_loadName_local S.kind (by rw [hp2]; exact hself) hns lself ?_
  refine ks_wpAny_isType_cls hD1 hD2 ⟨rfl, ?_⟩
  refine ks_wpAny_call_super hD1 hD2 hx rfl (fun c e => by cases e) (looks_mroIn KI F.self) (fun h2 e2 k2 => ?_)
  have I2 : Inv _ [] _ H { s with heap := h2, toks := s.toks + 2 } := I.kept (h' := h2) (t' := s.toks + 2) k2
  have KI2 := I2.kIn
  have hx2 := k2 _ _ hx
  have hin : Looks (model P w) h2 (isInstance (.ref a) (.type "ValueError")) true := (InstAt.type (od := none) ⟨hx2, rfl, rfl, trivial⟩).andThen (looks_subIn KI2 F.sub)
  have hne : a ≠ C := fun z => by
    subst z
    have y1 := k2 _ _ hD1
    rw [hx2] at y1
    have y2 := Option.some.inj y1
    rw [← y2] at hD2
    cases hD2
  have hal := F.sin
  unfold ks_superIn at hal
  rw [hcls] at hal
  refine kxs_getMethod kxs_ValueError e2 (looks_opaque KI2 F.any) (l₀ := cd.mro) (fun A Q E s k q => wpAny_bind ((looks_clsIn KI2 hcls) A _ E s k (wpAny_pure q))) rfl KI2 hal hin hne (by decide) ?_
  -- the arguments
  have I3 : Inv _ [] _ H { s with heap := h2.push (kxs_mw "ValueError.__init__" a), toks := s.toks + 2 + 1 } := I2.kept (h' := h2.push (kxs_mw "ValueError.__init__" a)) (t' := s.toks + 2 + 1) fun b o e => Heap.get?_push_of_some _ e
  have hu : (h2.push (kxs_mw "ValueError.__init__" a)).get? h2.objs.size = some (kxs_mw "ValueError.__init__" a) := Heap.get?_push_size _ rfl
  have pa : PA (ncx CX P w K mg base ["self", "reason", "__class__"] ⟨name, qual, params, xBody p0 p1 p2 p3 p4 p5 q0 q1 q2 q3, scope, [("__class__", cc)], cda⟩ fI A outer s H E) [.Name "reason" p3] (tCons (tVar 1) tNil) := pa_cons (pe_var (i := 1) rfl (.inl hreason)) pa_nil
  have I3p : Inv (ncx CX P w K mg base ["self", "reason", "__class__"] ⟨name, qual, params, xBody p0 p1 p2 p3 p4 p5 q0 q1 q2 q3, scope, [("__class__", cc)], cda⟩ fI A outer s H E) [(h2.objs.size, kxs_mw "ValueError.__init__" a)] (startF ["self", "reason", "__class__"] [.ref a, y] [some (.ref C)]) H { s with heap := h2.push (kxs_mw "ValueError.__init__" a), toks := s.toks + 2 + 1 } := I3.pins_of fun p hp => by
    rw [List.mem_singleton.mp hp]
    exact ⟨hu, I2.hok.fresh (Nat.le_refl _), Nat.ne_of_gt I2.lt, I2.nofs (Nat.le_refl _), fun v z => by cases z⟩
  refine kxs_callWith (i := "ValueError.__init__") (x := a) rfl (Calls.evalArgs_plain (thn (pa.run p4 [(h2.objs.size, kxs_mw "ValueError.__init__" a)] _ _ H (fun vs H' => vs = [y] ∧ H' = H) I3p ⟨y, rfl, rfl, rfl⟩) fun us s4 ⟨vs, H4, I4, rv, ev, eH⟩ => ?_))
  subst ev eH
  have hu4 : s4.heap.get? h2.objs.size = some (kxs_mw "ValueError.__init__" a) := (I4.pin (h2.objs.size, kxs_mw "ValueError.__init__" a) (by simp)).1
  refine ⟨hu4, ?_⟩
  obtain ⟨t4, hx4⟩ := exo_at I4.hok ha
  obtain ⟨nm, qn, N', bs, bm, sn, sub, ab, col, dd, k0, k1, k2', k3, k5, hC, hbm⟩ := F.T.cls
  have hC4 := I4.kIn _ _ hC
  have hlen : us.length = 1 := by rw [← rv.length]; rfl
  refine call_mw (C := C) hu4 hC4 hx4 (by show us.length ≤ _; rw [hlen, sizeLine_eq]; omega) fun h5 t5 k5' hx5 => ?_
  have J0 := I4.write (h' := h5) (t' := s4.toks) (x := a) (e := a) (o := exo a C none) (by rw [ha]; exact True.intro) (.inl rfl) k5' ⟨_, hx5⟩ (exo_ok hx5)
  have eu : upd H4 a (exo a C none) = H4 := by
    funext b
    by_cases hb : b = a
    · rw [hb, upd_same, ha]
    · rw [upd_ne hb]
  rw [eu] at J0
  -- self.reason = reason
  have po : PSs (ncx CX P w K mg base ["self", "reason", "__class__"] ⟨name, qual, params, xBody p0 p1 p2 p3 p4 p5 q0 q1 q2 q3, scope, [("__class__", cc)], cda⟩ fI A outer s H4 E) [.Assign [.Attribute (.Name "self" q0) "reason" q1] (.Name "reason" q2) q3] (tOst K "reason" (tVar 0) (tVar 1)) :=
    pss_one (ps_ost (pe_var (i := 0) rfl (.inl hself)) (pe_var (i := 1) rfl (.inl hreason)) (hsw _))
  refine wpAt_of_wpAny (wpAny_mono (po.run _ _ _ H4 { nx := fun _ H' => Q .non H', rt := Q } J0 ⟨y, rfl, .ref a, rfl, a, C, rfl, F.T, F.reason, .inl ⟨ha, q⟩⟩) (fun fl s' hs => ?_) fun e s' hs => hs)
  have fin : ∀ {σ' : L2.St} {H' : Hp} {v : V} {u : Value} {pn : List (Addr × Obj)}, Inv (ncx CX P w K mg base ["self", "reason", "__class__"] ⟨name, qual, params, xBody p0 p1 p2 p3 p4 p5 q0 q1 q2 q3, scope, [("__class__", cc)], cda⟩ fI A outer s H4 E) pn σ' H' s' → L2.RelV v u → Q v H' → CE outer P w H4 s Q u s' :=
    fun {σ' H' v u pn} J rv q => ⟨v, H', J.os, J.bare, J.base, J.hok, rv, q⟩
  cases fl with
  | ret u =>
    obtain ⟨v, σ', H', J, rv, q⟩ := hs
    exact fin J rv q
  | next =>
    obtain ⟨σ', H', J, q⟩ := hs
    exact fin (v := V.non) (u := Value.none) J rfl q
  | brk =>
    obtain ⟨_, _, _, q⟩ := hs
    exact False.elim q
  | cont =>
    obtain ⟨_, _, _, q⟩ := hs
    exact False.elim q
end
end Fx
/-! text FxX -/
namespace Fx
open PySem L2 Evl PyProof.Rows

/-! ### expressions that may raise -/
def EvX (c : Ct) (E : XK) (te : TE) (ρ : Env) (k : D → Prop) (x : Addr → Str → Prop) : Prop :=
  ∀ G0 H0 σ G H, Rel c G0 H0 ρ σ G H → ∀ Q : VK, (∀ d v G' H', k d → Stp c G H G' H' → Rp c.K G' d v → Q v H') →
    (∀ C s d G' H', x C s → Stp c G H G' H' → ExAt d s H' → E (.ref C) (some d) H') → te σ H Q
/-- a promise over data of a def that may raise -/
def SpX (c : Ct) {ι : Type} (args : ι → List D) (pre : ι → Prop) (post : ι → D → Prop) (exc : ι → Addr → Str → Prop) : Sp := fun vs H Q E =>
  ∃ (i : ι) (G : Hp), Ok { c with B := none } G H ∧ RpL c.K G (args i) vs ∧ pre i ∧ (∀ d v G' H', post i d → Stp { c with B := none } G H G' H' → Rp c.K G' d v → Q v H') ∧
    ∀ C s d G' H', exc i C s → Stp { c with B := none } G H G' H' → ExAt d s H' → E (.ref C) (some d) H'
section
variable {c : Ct} {ρ : Env} {E E' : XK} {te ta tb : TE} {tl : TA} {k k2 k3 : D → Prop} {x : Addr → Str → Prop} {i : Nat} {A : AEnds} {t u : TS}
theorem Ev.toX (h : Ev c te ρ k) : EvX c E te ρ k x := fun G0 H0 σ G H r Q q _ => h _ _ _ _ _ r Q q
theorem EvX.imp {x' : Addr → Str → Prop} (h : EvX c E te ρ k x) (h1 : ∀ d, k d → k2 d) (h2 : ∀ C s, x C s → x' C s) : EvX c E te ρ k2 x' := fun G0 H0 σ G H r Q q qx =>
  h _ _ _ _ _ r Q (fun d v G' H' kd => q d v G' H' (h1 d kd)) fun C s d G' H' xc => qx C s d G' H' (h2 C s xc)
theorem evx_call {ι : Type} {args : ι → List D} {pre : ι → Prop} {post : ι → D → Prop} {exc : ι → Addr → Str → Prop} (j : ι) (h : EvAE c tl ρ (args j)) (hp : pre j) : EvX c E (tCall (SpX c args pre post exc) [] E tl) ρ (post j) (exc j) := fun G0 H0 σ G H r Q q qx => by
  refine h _ _ _ _ _ r _ fun y vs G1 H1 ky s1 ry => ?_
  subst ky
  show SpX c args pre post exc (vs ++ []) H1 Q E
  rw [List.append_nil]
  exact ⟨j, G1, s1.ok.noB, ry, hp, (fun d v G' H' pd s2 rd => q d v G' H' pd (s1.trans (s2.withB s1.ok)) rd), fun C s d G' H' xc s2 ex => qx C s d G' H' xc (s1.trans (s2.withB s1.ok)) ex⟩
/-- f(e), the argument may raise -/
theorem evx_call1 {ι : Type} {args : ι → List D} {pre : ι → Prop} {post : ι → D → Prop} (h : EvX c E te ρ k x) (hj : ∀ d, k d → ∃ j, args j = [d] ∧ pre j ∧ ∀ e, post j e → k2 e) : EvX c E (tCall (SpF c args pre post) [] E' (tCons te tNil)) ρ k2 x := fun G0 H0 σ G H r Q q qx => by
  refine h _ _ _ _ _ r _ (fun y v G1 H1 ky s1 ry => ?_) fun C s d G' H' xc s1 ex => qx C s d G' H' xc s1 ex
  obtain ⟨j, ea, hp, hk⟩ := hj y ky
  exact ⟨j, G1, s1.ok.noB, by rw [ea]; exact .cons ry .nil, hp, fun d w G' H' pd s2 rd => q d w G' H' (hk d pd) (s1.trans (s2.withB s1.ok)) rd⟩
/-- (e, e') -/
theorem evx_tup2 (h1 : EvX c E ta ρ k x) (h2 : ∀ d, k d → EvX c E tb ρ (fun e => k3 (.tup [d, e])) x) : EvX c E (tTup (tCons ta (tCons tb tNil))) ρ k3 x := fun G0 H0 σ G H r Q q qx => by
  refine h1 _ _ _ _ _ r _ (fun y v G1 H1 ky s1 ry => ?_) fun C s d G' H' xc s1 ex => qx C s d G' H' xc s1 ex
  refine h2 y ky _ _ _ _ _ (r.stp s1) _ (fun z w G2 H2 kz s2 rz => ?_) fun C s d G' H' xc s2 ex => qx C s d G' H' xc (s1.trans s2) ex
  refine ⟨by show 2 ≤ sizeLine; rw [sizeLine_eq]; omega, fun p hp => ?_⟩
  have s3 := Stp.lay (o := .tup [v, w]) s2.ok hp
  exact q _ _ _ _ kz ((s1.trans s2).trans s3) (.tup upd_same (.cons ((ry.up s2.gg).up s3.gg) (.cons (rz.up s3.gg) .nil)))
/-- e op e', the left may raise -/
theorem evx_op {r2 : R2} (ha : EvX c E ta ρ k x) (hb : ∀ d, k d → ∃ e, EvE c tb ρ e ∧ ROp c r2 d e k2) : EvX c E (tOp r2 ta tb) ρ k2 x := fun G0 H0 σ G H r Q q qx => by
  refine ha _ _ _ _ _ r _ (fun y v G1 H1 ky s1 ry => ?_) fun C s d G' H' xc s1 ex => qx C s d G' H' xc s1 ex
  obtain ⟨e, he, hr⟩ := hb y ky
  refine he _ _ _ _ _ (r.stp s1) _ fun z w G2 H2 kz s2 rz => ?_
  subst kz
  exact hr G2 H2 s2.ok v w (ry.up s2.gg) rz Q fun d w G' H' kd s3 rd => q d w G' H' kd ((s1.trans s2).trans s3) rd
/-- o.m(..) that may raise -/
theorem evx_meth {ι : Type} {args : ι → List D} {pre : ι → Prop} {post : ι → D → Prop} {exc : ι → Addr → Str → Prop} {m : Str} {C : Addr} {ns : List Str} {ds ws : List D} (j : ι) (h : EvE c te ρ (.obj C ns ds)) (hm : ∀ fs : List (Str × V), fs.map (·.1) = ns → fs.lookup m = none) (ha : EvAE c tl ρ ws) (e : args j = .obj C ns ds :: ws) (hp : pre j) :
    EvX c E (tMeth C m (SpX c args pre post exc) [] E te tl) ρ (post j) (exc j) := fun G0 H0 σ G H r Q q qx => by
  refine h _ _ _ _ _ r _ fun y v G1 H1 ky s1 ry => ?_
  subst ky
  cases ry with
  | @obj _ a dx fs _ _ h1 h2 h3 =>
    refine ⟨a, dx, fs, rfl, s1.ok.gh _ _ h1, hm fs h2, ?_⟩
    refine ha _ _ _ _ _ (r.stp s1) _ fun y vs G2 H2 ky s2 ry => ?_
    subst ky
    rw [List.append_nil]
    exact ⟨j, G2, s2.ok.noB, by rw [e]; exact .cons (.obj (s2.gg _ _ h1) h2 (h3.up s2.gg)) ry, hp, (fun d v G' H' pd s3 rd => q d v G' H' pd ((s1.trans s2).trans (s3.withB s2.ok)) rd),
      fun C s d G' H' xc s3 ex => qx C s d G' H' xc ((s1.trans s2).trans (s3.withB s2.ok)) ex⟩

/-! ### statements that may raise -/
theorem as_asgX {g : TG} (h : EvX c E te ρ k x) (hg : ∀ d, k d → ∃ ρ' js, EvG c g ρ d ρ' js ∧ A.nx ρ') (hx : ∀ C s, x C s → A.ex C s) : AS c E (tAsg te g) ρ A := fun G0 H0 σ G H r Dn q1 q2 q3 =>
  h _ _ _ _ _ r _ (fun d v G' H' kd s rd => by
    obtain ⟨ρ', js, eg, hn⟩ := hg d kd
    exact eg _ _ _ _ _ (r.stp s) v rd _ fun σ' r' _ _ => q1 _ _ G' H' hn s.gg r') fun C s d G' H' xc st ex => q3 C s d G' H' (hx C s xc) (r.st.trans st) ex
theorem as_setX (h : EvX c E te ρ k x) (hn : ∀ d, k d → A.nx (ρ.set i (some (.dat d)))) (hx : ∀ C s, x C s → A.ex C s) : AS c E (tAsg te (gName i)) ρ A := as_asgX h (fun d kd => ⟨_, _, eg_name, hn d kd⟩) hx
theorem as_retX (h : EvX c E te ρ k x) (hn : ∀ d, k d → A.rt d) (hx : ∀ C s, x C s → A.ex C s) : AS c E (tRet te) ρ A := fun G0 H0 σ G H r Dn q1 q2 q3 =>
  h _ _ _ _ _ r _ (fun d v G' H' kd s rd => q2 d v G' H' (hn d kd) (r.st.trans s) s.gg rd) fun C s d G' H' xc st ex => q3 C s d G' H' (hx C s xc) (r.st.trans st) ex
theorem as_dropX (h : EvX c E te ρ k x) (hn : ∀ d, k d → A.nx ρ) (hx : ∀ C s, x C s → A.ex C s) : AS c E (tDrop te) ρ A := fun G0 H0 σ G H r Dn q1 q2 q3 =>
  h _ _ _ _ _ r _ (fun d v G' H' kd s rd => q1 _ _ G' H' (hn d kd) s.gg (r.stp s)) fun C s d G' H' xc st ex => q3 C s d G' H' (hx C s xc) (r.st.trans st) ex
/-- if, the test's value may raise -/
theorem as_ifX (h : EvX c E te ρ k x) (hb : ∀ d, k d → ∃ b, d = .bl b ∧ (b = true → AS c E t ρ A) ∧ (b = false → AS c E u ρ A)) (hx : ∀ C s, x C s → A.ex C s) : AS c E (tIfS (tTest te) t u) ρ A := fun G0 H0 σ G H r Dn q1 q2 q3 =>
  h _ _ _ _ _ r _ (fun d v G' H' kd s rd => by
    obtain ⟨b, rfl, h1, h2⟩ := hb d kd
    cases rd
    refine ⟨b, rfl, ?_⟩
    cases b with
    | true => exact iteT (h1 rfl _ _ _ _ _ (r.stp s) Dn (fun ρ2 σ2 G2 H2 n e2 r2 => q1 ρ2 σ2 G2 H2 n (s.gg.trans e2) r2) (fun d v G2 H2 n s2 e2 rp => q2 d v G2 H2 n s2 (s.gg.trans e2) rp) q3)
    | false => exact iteF (h2 rfl _ _ _ _ _ (r.stp s) Dn (fun ρ2 σ2 G2 H2 n e2 r2 => q1 ρ2 σ2 G2 H2 n (s.gg.trans e2) r2) (fun d v G2 H2 n s2 e2 rp => q2 d v G2 H2 n s2 (s.gg.trans e2) rp) q3)) fun C s d G' H' xc st ex => q3 C s d G' H' (hx C s xc) (r.st.trans st) ex
/-- raise C(e) -/
def tRaise (C : Addr) (ta : TA) (E : XK) : TS := fun _ σ H => tMkO C (spX C) [] ta σ H fun cls d H' => E cls d H'
theorem as_raise {C : Addr} {s : Str} {ta : TA} (h : EvAE c ta ρ [.str s]) (hx : A.ex C s) : AS c E (tRaise C ta E) ρ A := fun G0 H0 σ G H r Dn q1 q2 q3 => by
  refine h _ _ _ _ _ r _ fun y vs G1 H1 ky s1 ry => ?_
  subst ky
  obtain ⟨v, rfl, rv⟩ := ry.one
  cases rv
  refine ⟨by show 1 ≤ 1000; decide, fun a ha => ?_⟩
  refine ⟨a, .str s, rfl, upd_same, fun dx hdx ne => ?_⟩
  rw [upd_ne ne] at hdx
  refine ⟨rfl, dx, [("reason", .str s)], upd_same, by rw [upd_ne ne, upd_same], hdx, ?_⟩
  have e : upd (del (upd (upd (upd H1 a (exo a C none)) dx (exd dx [("reason", V.str s)])) a (exo a C (some dx))) a) dx (.xd [("reason", V.str s)]) = upd H1 dx (.xd [("reason", V.str s)]) := by
    funext b
    by_cases hb : b = dx
    · rw [hb, upd_same, upd_same]
    · rw [upd_ne hb, upd_ne hb]
      by_cases hba : b = a
      · rw [hba, del_same, ha]
      · rw [del_ne hba, upd_ne hba, upd_ne hb, upd_ne hba]
  rw [e]
  have s2 := Stp.layM (o := .xd [("reason", V.str s)]) s1.ok hdx
  exact q3 C s dx G1 _ hx (r.st.trans (s1.trans s2)) upd_same
theorem body_okX {ι : Type} {args : ι → List D} {pre : ι → Prop} {post : ι → D → Prop} {exc : ι → Addr → Str → Prop} {t : TS} {N : List Str} {vs : List V} {H : Hp} {Q : VK} {E : XK} (h : SpX c args pre post exc vs H Q E)
    (as : ∀ i, pre i → AS { c with B := none } E t (entry N (args i)) { nx := fun _ => post i .non, rt := post i, ex := exc i }) : t { nx := fun _ H' => Q .non H', rt := Q } (L2.start N vs) H := by
  obtain ⟨i, G, ok, r, p, q, qx⟩ := h
  exact as i p _ _ _ _ _ (Rel.init ok r N) _ (fun ρ' σ' G' H' n _ r' => q .non .non G' H' n r'.st .non) (fun d v G' H' n st _ rp => q d v G' H' n st rp) fun C s d G' H' n st ex => qx C s d G' H' n st ex
theorem SpX.len {ι : Type} {args : ι → List D} {pre : ι → Prop} {post : ι → D → Prop} {exc : ι → Addr → Str → Prop} {n : Nat} (h : ∀ i, (args i).length = n) : ∀ vs H Q E, SpX c args pre post exc vs H Q E → vs.length = n := fun vs H Q E h' => by
  obtain ⟨i, G, ok, r, _⟩ := h'
  rw [← r.len, h i]
end

/-! ### rules of a raising def -/
/-- all that raising a class of the program asks -/
structure CalR (P : Program) (w : World) (K : PySem.W.Frag) (mg : Str → Option Value) (base : Heap) (k : Nat) (x : Str) (C : Addr) : Prop where
  T : OexC K C
  ex : ∃ (fI : Addr) (fd : FuncData), PySem.W.findIn K (.ref C) "__init__" = some (some (.ref fI)) ∧ PySem.W.typeIn K (.ref fI) = some (.type "function") ∧ FnOk P w K mg base CX0 k fI fd ["self", "reason"] (spX C) ∧ Binds K fd ["self", "reason"] []
  hm : mg x = some (.ref C)
section
variable {X : Cx} {E : XK}
theorem ps_rz {k : Nat} {x : Str} {C : Addr} {p p' pos : Pos} {e : Expr} {ta : TA} (R : CalR X.prog X.w X.K X.mg X.base k x C) (hc : X.calm = true) (tk : Takes X (fun cls d _ H => E cls d H)) (hr : Room (k + 1) X.A) (hg : Gl X x) (ha : PA X [e] ta)
    (hdb : (x == ("__debug__" : Str)) = false := by decide) (he : starEach [e] X.env = (false, eval e X.env) :: starEach [] X.env := by rfl) (hpl : (backTo p' (starEach [] X.env)).any (·.1) = false := by rfl) :
    PS X (.Raise (some (.Call (.Name x p) [e] [] p')) none pos) (tRaise C ta E) := by
  obtain ⟨fI, fd, h1, h2, F, hb⟩ := R.ex
  exact ps_raise (W := fun cls d _ H => E cls d H) hc tk (pmk_oex R.T h1 h2 F hr hb .nil (fun _ _ _ _ _ _ _ h => h.elim) hg R.hm ha hdb he hpl)
theorem passX (tk : Takes X (fun cls d _ H => E cls d H)) : Passes (L2.CX X.prog X.w) X E := passes_call tk fun _ _ _ _ h => h
theorem calX_mk {P : Program} {w : World} {K : PySem.W.Frag} {mg : Str → Option Value} {base : Heap} {k : Nat} {x : Str} {st : Stmt} {f : Addr} {fd : FuncData} {N ps : List Str} {sp : Sp} (F : FnP K x st f fd) (hm : mg x = some (.ref f)) (S : FnScope N ps (defScope st))
    (hb : ∀ (kV doc pm : Value) (an : Option Addr) (cdv ct : Value) (us : List Value), us.length = ps.length → bindArgs (PySem.W.fnOf x x (defArgs st) (defBody st) (defScope st) .none kV doc pm an cdv ct) ⟨us, []⟩ = pure (ps.zip us))
    (len : ∀ vs H Q E, sp vs H Q E → vs.length = ps.length)
    (hbody : ∀ (cdv : Value) (A : Around) (outer : List PySem.Env) (s : Shared) (H : Hp) (vs : List V) (Q : VK) (E : XK), Room k (A.deeper (envOfC x (defScope st) s.heap.objs.size f cdv)) → sp vs H Q E →
      ∃ t, PSs (cxOf (L2.CX P w) P w K mg base N x (defScope st) f cdv A outer s H E) (defBody st) t ∧ t { nx := fun _ H' => Q .non H', rt := Q } (L2.start N vs) H) : Cal P w K mg base (L2.CX P w) (k + 1) x ps sp :=
  ⟨f, fd, F.ok S len hbody, hm, F.kp, F.bindsN hb⟩
theorem takesX {P : Program} {w : World} {K : PySem.W.Frag} {mg : Str → Option Value} {base : Heap} {N : List Str} {q : Str} {sc : Scope} {f : Addr} {cdv : Value} {A : Around} {outer : List PySem.Env} {s : Shared} {H : Hp} {E : XK} :
    Takes (cxOf (L2.CX P w) P w K mg base N q sc f cdv A outer s H E) (fun cls d _ H => E cls d H) := takes_of rfl rfl rfl rfl
end
end Fx
/-! text FxClo -/
namespace Fx
open PySem L2 Evl PyProof.Rows NdefX LamX

/-! ### a def that takes a function made by its caller -/
structure FnOkC (P : Program) (w : World) (K : PySem.W.Frag) (mg : Str → Option Value) (base : Heap) (CX : CXT) (k : Nat) (f : Addr) (fd : FuncData) (ps fr : List Str) (sp : List (Str × Addr) → List (Option V) → Sp) : Prop where
  len : ∀ cl ws vs H Q E, sp cl ws vs H Q E → vs.length = ps.length
  run : ∀ (A : Around) (outer : List PySem.Env) (s : Shared) (H : Hp) (args : Args) (us : List Value) (vs : List V) (cl : List (Str × Addr)) (ws : List (Option V)) (Q : VK) (E : XK), Room k A → Env0 P w K mg base A outer s H → BindsTo s fd args (ps.zip us) → Vals vs us →
    CellsAt cl fr ws s.heap H → (∀ y c, cl.lookup y = some c → c ∉ frs outer) → sp cl ws vs H Q E → codeAny (model P w) A (.call (.ref f) args) (L2.CR CX outer P w H s Q E) s
theorem fn_ofC {CX : CXT} {P : Program} {w : World} {K : PySem.W.Frag} {mg : Str → Option Value} {base : Heap} {k : Nat} {f : Addr} {name qual : Str} {params : Arguments} {body : List Stmt} {scope : Scope} {dV kV doc pm cdv ct oc : Value} {an od : Option Addr}
    {osl : Array (Option Value)} {N ps fr : List Str} {sp : List (Str × Addr) → List (Option V) → Sp} (lk : K.lookup f = some ⟨oc, od, .func (PySem.W.fnOf name qual params body scope dV kV doc pm an cdv ct), osl⟩) (hcd : PySem.W.codeIn K cdv qual = true) (S : FnScope N ps scope)
    (len : ∀ cl ws vs H Q E, sp cl ws vs H Q E → vs.length = ps.length)
    (hbody : ∀ (A : Around) (outer : List PySem.Env) (s : Shared) (H : Hp) (vs : List V) (cl : List (Str × Addr)) (ws : List (Option V)) (Q : VK) (E : XK), Room k (A.deeper (envOfC qual scope s.heap.objs.size f cdv)) → CellsAt cl fr ws s.heap H → (∀ y c, cl.lookup y = some c → c ∉ frs outer) → sp cl ws vs H Q E →
      ∃ t, PSs (cxOf CX P w K mg base N qual scope f cdv A outer s H E) body t ∧ t { nx := fun _ H' => Q .non H', rt := Q } (L2.start N vs) H) :
    FnOkC P w K mg base CX (k + 1) f (PySem.W.fnOf name qual params body scope dV kV doc pm an cdv ct) ps fr sp := by
  refine ⟨len, fun A outer s H args us vs cl ws Q E hr e0 hb r hC nf hsp => ?_⟩
  have hl := len _ _ _ _ _ _ hsp
  have KX : K.In s.heap := e0.mod.kin.keeps fun b o e => (e0.bs b o e).1
  have lim : s.heap.NoLimit := e0.mod.nolimit.keeps fun b o e => (e0.bs b o e).1
  have hkind : ∀ y ∈ ps.zip us, scope.names.lookup y.1 = some .local ∨ (scope.names.lookup y.1 = some .cell ∧ ((cellsFrom (s.heap.objs.size + 1) scope.names []).lookup y.1).isSome = true) := fun ⟨n, v⟩ hy => by
    rcases S.par n (List.of_mem_zip hy).1 with q | q
    · exact .inl q
    · exact .inr ⟨q, PySem.W.cellsFrom_some _ _ _ (.inl q)⟩
  refine codeAny_call_function hr.depth (KX _ _ lk) rfl S.co S.gen rfl (PySem.W.codeRec_of KX hcd) (hb _ _ _ _ ?_)
  refine wpAny_newFunctionEnv_cells S.kind hkind fun env he s1 x => ?_
  subst he
  refine ⟨lim.keeps x.toInCall.keep, codeAny_func ?_⟩
  obtain ⟨t, ht, hq⟩ := hbody A outer s H vs cl ws Q E (hr.deeper _) hC nf hsp
  have I : Inv (cxOf CX P w K mg base N qual scope f cdv A outer s H E) [] (L2.start N vs) H s1 := inv_start S hr.hd e0 hl r x
  refine wpAny_mono (ht.run [] s1 (L2.start N vs) H _ I hq) (fun fl s' hs => ?_) fun e s' hs => hs
  have fin : ∀ {σ' : L2.St} {H' : Hp} {v : V} {u : Value}, Inv (cxOf CX P w K mg base N qual scope f cdv A outer s H E) [] σ' H' s' → L2.RelV v u → Q v H' → CE outer P w H s Q u s' :=
    fun {σ' H' v u} J rv q => ⟨v, H', J.os, J.bare, J.base, J.hok, rv, q⟩
  cases fl with
  | ret u =>
    obtain ⟨v, σ', H', J, rv, q⟩ := hs
    exact fin J rv q
  | next =>
    obtain ⟨σ', H', J, q⟩ := hs
    exact fin (v := V.non) (u := Value.none) J rfl q
  | brk =>
    obtain ⟨_, _, _, q⟩ := hs
    exact False.elim q
  | cont =>
    obtain ⟨_, _, _, q⟩ := hs
    exact False.elim q
section
variable {X : Cx} {CX : CXT} {k : Nat} {E : XK} {t : TA} {e : Expr} {es : List Expr} {p pos : Pos} {x : Str}
/-- the cells of the running def are no frames -/
theorem cells_nofr {pins : List (Addr × Obj)} {σ : L2.St} {H : Hp} {s : Shared} (I : L2.Inv X pins σ H s) {y : Str} {c : Addr} (hfn : X.fn y = true) (e : X.env.cells.lookup y = some c) : c ∉ frs X.stack := fun hb => by
  have h1 := I.ok.cab y c hfn e
  rcases List.mem_cons.mp (I.stkSub c hb) with z | z
  · exact I.cne y c e z
  · obtain ⟨_, o, ho, _⟩ := I.ok.funs.mem z
    exact absurd (Heap.lt_size ho) (Nat.not_lt_of_le h1)
/-- f(e, ..), f a def of the module that takes a function; js: the captured names' slots -/
def tCallW (js : List Nat) (sp : List (Option V) → Sp) (E : XK) (t : TA) : TE := fun σ H Q => t σ H fun vs H1 => sp (js.map (slotAt σ)) vs H1 Q E
theorem pe_callW {f : Addr} {fd : FuncData} {ps fr : List Str} {sp : List (Str × Addr) → List (Option V) → Sp} {cl : List (Str × Addr)} {js : List Nat} (F : FnOkC X.prog X.w X.K X.mg X.base CX k f fd ps fr sp) (hr : Room k X.A) (hg : Gl X x) (hm : X.mg x = some (.ref f)) (hk : PySem.W.keepIn X.K (.ref f) = true) (hb : Binds X.K fd ps [])
    (hx : Passes CX X E) (cp : X.Ok → Caps X cl fr js) (hfn : ∀ y, X.fn y = true) (ha : PA X (e :: es) t) (hdb : (x == ("__debug__" : Str)) = false := by decide) (he : starEach (e :: es) X.env = (false, eval e X.env) :: starEach es X.env := by rfl) (hpl : (backTo pos (starEach es X.env)).any (·.1) = false := by rfl) :
    PE X (.Call (.Name x p) (e :: es) [] pos) (tCallW js (sp cl) E t) := by
  refine ⟨fun pins s σ H Q I h => ?_⟩
  refine wpAny_Call_Name_kw (ld_glob I hg hm ?_ hdb)
  refine PySem.W.callWith_K (h₀ := X.base) I.ok.mod.kin hk (thn (ha.run pos pins s σ H _ I h) fun us s1 ⟨vs, H1, I1, r, q⟩ => ⟨I1.kIn, ?_⟩) he hpl
  have hl : (us ++ []).length = ps.length := by rw [List.append_nil, ← r.length]; exact F.len _ _ _ _ _ _ q
  have hb' := hb s1 us I1.kIn hl
  rw [List.append_nil] at hb'
  have cps := cp I1.ok
  refine wpAny_call (codeAny_mono (F.run X.A X.stack s1 H1 ⟨us, []⟩ us vs cl (js.map (slotAt σ)) Q E hr I1.env0 hb' r (cells_of I1 cps) (fun y c ec => cells_nofr I1 (hfn y) (cps.sub y c ec)) q) fun r s' hq => ?_)
  cases r with
  | error e => exact hx pins σ H1 s1 e s' I1 hq
  | ok fl =>
    cases fl with
    | ret u => exact I1.after hq
    | next => exact False.elim hq
    | brk => exact False.elim hq
    | cont => exact False.elim hq
/-- g(e, ..), g a name that holds the caller's function: of the family Fam b -/
def tCallC (Fam : Bool → NF → Prop) (cl : List (Str × Addr)) (ws : List (Option V)) (i : Nat) (spn : Bool → List (Option V) → Sp) (t : TA) : TE := fun σ H Q => ∃ f F b, σ[i]? = some (some (.ref f)) ∧ H f = some (FnO f F) ∧ Fam b F ∧ F.cl = cl ∧
  t σ H fun vs H1 => H1 f = some (FnO f F) ∧ H1 F.c = some (CodeO F.c F.qual) ∧ spn b ws vs H1 Q E0
theorem pe_callC {Fam : Bool → NF → Prop} {cl : List (Str × Addr)} {ws : List (Option V)} {ps fr : List Str} {i : Nat} {spn : Bool → List (Option V) → Sp} (Fn : ∀ f F b, Fam b F → NOk X.prog X.w X.K X.mg X.base CX0 k f F ps fr (spn b)) (C : CellsAt cl fr ws X.s_0.heap X.H_0) (nf : ∀ y c, cl.lookup y = some c → c ∉ X.fs) (hex : X.ex = [])
    (hr : Room k X.A) (hN : X.N[i]? = some x) (hv : Vis X.env.scope x) (ha : PA X (e :: es) t) (hd : (x == ("__debug__" : Str)) = false := by decide) (hcd : (x == ("__classdict__" : Str)) = false := by decide)
    (he : starEach (e :: es) X.env = (false, eval e X.env) :: starEach es X.env := by rfl) (hpl : (backTo pos (starEach es X.env)).any (·.1) = false := by rfl) : PE X (.Call (.Name x p) (e :: es) [] pos) (tCallC Fam cl ws i spn t) := by
  refine ⟨fun pins s σ H Q I h => ?_⟩
  obtain ⟨f, F, b, hs, hf, hfam, hcl, ht⟩ := h
  refine wpAny_Call_Name_kw (thn ((pe_var (pos := p) hN hv hd hcd).run pins s σ H (fun v H1 => v = .ref f ∧ H1 = H) I ⟨.ref f, hs, rfl, rfl⟩) fun u s1 ⟨v, H1, I1, r1, q1⟩ => ?_)
  obtain ⟨ev, eH⟩ := q1
  subst ev
  rw [eH] at I1
  obtain rfl : u = Value.ref f := r1
  refine PySem.W.callWith_F (first := []) (fnAt_of I1 hf) (thn (ha.run pos pins s1 σ H _ I1 ht) fun us s2 ⟨vs, H2, I2, r, h1, h2, q⟩ => ⟨fnAt_of I2 h1, ?_⟩) he hpl
  show wpAny _ _ (call (.ref f) us) _ _ _
  have C2 : CellsAt cl fr ws s2.heap H2 := C.later nf (fun y c _ => by rw [hex]; simp) I2
  rw [← hcl] at C2
  refine wpAny_call (codeAny_mono ((Fn f F b hfam).run X.A X.stack s2 H2 us vs ws Q E0 hr I2.env0 h1 h2 C2 r q) fun r s' hq => ?_)
  cases r with
  | error e => exact hq.elim
  | ok fl =>
    cases fl with
    | ret u => exact I2.after hq
    | next => exact False.elim hq
    | brk => exact False.elim hq
    | cont => exact False.elim hq
end

/-! ### over the data -/
/-- a promise of a nested def: the captured values stand behind its arguments -/
def SpN (c : Ct) {ι : Type} (args : ι → List D) (pre : ι → Prop) (post : ι → D → Prop) (ws : List (Option V)) : Sp := fun vs H Q E => ∃ vws, ws = vws.map some ∧ vs.length = 2 ∧ SpF c args pre post (vs ++ vws) H Q E
section
variable {c : Ct} {ρ : Env} {E : XK} {t : TS} {i : Nat} {A : AEnds} {ta : TA}
/-- def g(..): .. within a def -/
theorem as_ndef {mk : Addr → NF} (hc : ∀ c', (mk c').c = c') (hn : ∀ c', A.nx (ρ.set i (some (.fn (mk c') [] [])))) : AS c E (tNdefM c.T i mk) ρ A := fun G0 H0 σ G H r Dn q1 q2 q3 => by
  refine ⟨r.ok.tb, fun f c' H1 eN nn T1 f0 f1 c1 => ?_⟩
  have nb : ∀ b, c.B = some b → ∀ ps, H b ≠ some (.tbl ps) := fun b hb ps e => by
    obtain ⟨_, r1, ns, k, h, _⟩ := r.ok.bx b hb
    rw [h] at e
    cases e
  have s : Stp c G H G H1 := ⟨⟨fun a o e => eN a o (r.ok.gh a o e) fun ps z => r.ok.nt a ps (by rw [e, z]), fun b hb => by
      obtain ⟨h1, r1, ns, k, h2, h3, h4⟩ := r.ok.bx b hb
      exact ⟨h1, r1, ns, k, eN b _ h2 (fun _ z => by cases z), h3, h4⟩, T1, r.ok.nt⟩, Ex.refl G, fun a o _ n e => eN a o e n, nn, fun a o e => .inl e⟩
  have r1 := r.stp s
  refine q1 _ _ G H1 (hn c') (Ex.refl G) ⟨r1.st, by rw [List.length_set, List.length_set]; exact r.len, fun j cl e => ?_, fun j k cj ck n e1 e2 m1 m2 => ?_⟩
  · by_cases hj : i = j
    · subst hj
      have hi : i < ρ.length := by
        have := (List.getElem?_eq_some_iff.mp e).1
        rwa [List.length_set] at this
      rw [List.getElem?_set_self hi] at e
      cases e
      exact ⟨_, List.getElem?_set_self (by rw [r.len]; exact hi), f, rfl, f1, by rw [hc]; exact c1, .nil⟩
    · rw [List.getElem?_set_ne hj] at e ⊢
      exact r1.slot j cl e
  · have nm : ∀ {m cl}, (ρ.set i (some (Cell.fn (mk c') [] [])))[m]? = some (some cl) → cl.mu = true → i ≠ m := fun {m cl} e mu z => by
      subst z
      have hi : i < ρ.length := by
        have := (List.getElem?_eq_some_iff.mp e).1
        rwa [List.length_set] at this
      rw [List.getElem?_set_self hi] at e
      cases e
      cases mu
    have n1 := nm e1 m1
    have n2 := nm e2 m2
    rw [List.getElem?_set_ne n1] at e1 ⊢
    rw [List.getElem?_set_ne n2] at e2 ⊢
    exact r.sep j k cj ck n e1 e2 m1 m2
theorem ev_callC {ι : Bool → Type} {args : ∀ b, ι b → List D} {pre : ∀ b, ι b → Prop} {post : ∀ b, ι b → D → Prop} {Fam : Bool → NF → Prop} {F : NF} {vws : List V} {ds es : List D} {b : Bool} (hi : ρ[i]? = some (some (.fn F vws ds))) (hfam : Fam b F) (j : ι b) (ha : EvAE c ta ρ es) (e2 : es.length = 2) (e : args b j = es ++ ds) (hp : pre b j) :
    Ev c (tCallC Fam F.cl (vws.map some) i (fun b => SpN c (args b) (pre b) (post b)) ta) ρ (post b j) := fun G0 H0 σ G H r Q q => by
  obtain ⟨v, h1, f, rfl, h2, h3, h4⟩ := r.slot i _ hi
  refine ⟨f, F, b, h1, h2, hfam, rfl, ?_⟩
  refine ha _ _ _ _ _ r _ fun x vs G1 H1 kx s1 rx => ?_
  subst kx
  have m2 := s1.hh f _ (r.ok.nbF h2 fun _ z => by unfold NdefX.FnO at z; cases z) NdefX.fnO_ne h2
  have m3 := s1.hh F.c _ (r.ok.nbF h3 fun _ z => by unfold LamX.CodeO at z; cases z) (fun _ z => by unfold LamX.CodeO at z; cases z) h3
  exact ⟨m2, m3, vws, rfl, by rw [← rx.len, e2], j, G1, s1.ok.noB, by rw [e]; exact rx.append (h4.up s1.gg), hp, fun d v G' H' pd s2 rd => q d v G' H' pd (s1.trans (s2.withB s1.ok)) rd⟩
end
end Fx
/-! text FxSet -/
namespace Fx
open PySem PySem.W L2 Evl PyProof.Rows
/-! ### len({a, b, c, d}), four texts that are the same -/
def tLenSet4 (t1 t2 t3 t4 : TE) : TE := fun σ H Q => t1 σ H fun v1 H1 => t2 σ H1 fun v2 H2 => t3 σ H2 fun v3 H3 => t4 σ H3 fun v4 H4 => ∃ z : Str, v1 = .str z ∧ v2 = .str z ∧ v3 = .str z ∧ v4 = .str z ∧ Q (.int 1) H4
section
variable {P : Program} {w : World} {A : Around} {E : Value → Shared → Prop} {s : Shared} {D : Addr}
theorem fill_same {u : Bool} {z : Str} {h₀ : Heap} {Q : Value → Shared → Prop} : ∀ (vs : List Value), (∀ v ∈ vs, ∃ t, v = Value.str z t) → ∀ (h : Heap) (k : Nat), h.SetOf (strKind P w) D (fun x => decide (x = z)) 1 → (∀ b o, b ≠ D → h₀.get? b = some o → h.get? b = some o) →
    (∀ h' k', h'.SetOf (strKind P w) D (fun x => decide (x = z)) 1 → (∀ b o, b ≠ D → h₀.get? b = some o → h'.get? b = some o) → KdsFill (model P w) A E u D Q [] { s with heap := h', toks := k' }) → KdsFill (model P w) A E u D Q vs { s with heap := h, toks := k }
  | [], _, h, k, hS, hk, q => q h k hS hk
  | v :: vs, hv, h, k, hS, hk, q => by
    obtain ⟨t, rfl⟩ := hv v List.mem_cons_self
    refine kds_fill_cons ?_
    unfold setAdd
    refine wpAny_holding (wpAny_bind ((strKind P w).pyHash (k := z) (strKind_is _ _ _ _) ?_))
    refine wpAny_setAddHashed_of (knd := strKind P w) (s := { s with heap := h, toks := k + 1 }) (strKind_is _ _ _ _) rfl hS (by unfold scanBound; omega) fun h' sb hS' => ?_
    refine fill_same vs (fun x hx => hv x (List.mem_cons_of_mem _ hx)) h' (k + 1) (SetOf_congr hS' (fun x => ?_) (by simp)) (fun b o hb e => (sb.2 b hb).trans (hk b o hb e)) q
    simp
theorem fill_same0 {u : Bool} {z : Str} {h₀ : Heap} {Q : Value → Shared → Prop} {t : Tok} {vs : List Value} (hv : ∀ v ∈ vs, ∃ t, v = Value.str z t) {h : Heap} {k : Nat} (hS : h.SetOf (strKind P w) D (fun _ => false) 0) (hk : ∀ b o, b ≠ D → h₀.get? b = some o → h.get? b = some o)
    (q : ∀ h' k', h'.SetOf (strKind P w) D (fun x => decide (x = z)) 1 → (∀ b o, b ≠ D → h₀.get? b = some o → h'.get? b = some o) → KdsFill (model P w) A E u D Q [] { s with heap := h', toks := k' }) : KdsFill (model P w) A E u D Q (.str z t :: vs) { s with heap := h, toks := k } := by
  refine kds_fill_cons ?_
  unfold setAdd
  refine wpAny_holding (wpAny_bind ((strKind P w).pyHash (k := z) (strKind_is _ _ _ _) ?_))
  refine wpAny_setAddHashed_of (knd := strKind P w) (s := { s with heap := h, toks := k + 1 }) (strKind_is _ _ _ _) rfl hS (by unfold scanBound; omega) fun h' sb hS' => ?_
  refine fill_same vs hv h' (k + 1) (SetOf_congr hS' (fun x => ?_) (by simp)) (fun b o hb e => (sb.2 b hb).trans (hk b o hb e)) q
  simp
end
section
variable {X : Cx} {e1 e2 e3 e4 : Expr} {t1 t2 t3 t4 : TE} {p q pos : Pos}
theorem pe_lenSet4 (hg : Gl X "len") (hm : X.mg "len" = none) (hcd : kdsCode X.K X.env.code = true) (h1 : PE X e1 t1) (h2 : PE X e2 t2) (h3 : PE X e3 t3) (h4 : PE X e4 t4) (hpl : [e1, e2, e3, e4].all kdsPlain = true) :
    PE X (.Call (.Name "len" p) [.Set [e1, e2, e3, e4] 0 q] [] pos) (tLenSet4 t1 t2 t3 t4) := by
  refine ⟨fun pins s σ H Q I h => ?_⟩
  refine Call_ (ld_blt I hg hm boot_len ?_)
  refine PyProof.Rows.callWith_builtin1 (PyProof.Rows.args_cons ?_ rfl) rfl rfl
  rw [arm_eval_Set]
  refine wpAny_bind (wpAny_standAt ?_)
  refine wpAny_bind (kds_main I.kIn hcd fun b => ?_)
  rw [kds_star _ hpl, List.map_map]
  refine kds_core (ts := (evalEach [e1, e2, e3, e4] X.env).map fun t => do let v ← t; standAt q; pure v) (road0 _) ?_ ?_ ?_ fun led => ?_
  · refine List.findIdx?_eq_none_iff.mpr fun x hx => ?_
    obtain ⟨t, _, rfl⟩ := List.mem_map.mp hx
    rfl
  · rw [List.length_map, kds_len]
    show 4 ≤ 30
    decide
  · rw [List.map_map]
    try rfl
  generalize hso : ({ cls := .type "set", dict := none, data := .set #[] 0 (.fresh 0 0 led) } : Obj) = so
  have hget : (s.heap.push so).get? s.heap.objs.size = some so := Heap.get?_push_size _ (by rw [← hso]; rfl)
  have I0 : L2.Inv X pins σ H { s with heap := s.heap.push so, toks := s.toks } := I.kept (h' := s.heap.push so) (t' := s.toks) fun b o e => Heap.get?_push_of_some _ e
  have Ip : L2.Inv X (pins ++ [(s.heap.objs.size, so)]) σ H { s with heap := s.heap.push so, toks := s.toks } := I0.pins_of fun pp hp => by
    rcases List.mem_append.mp hp with hp | hp
    · exact I0.pin pp (List.mem_append_right _ hp)
    · rw [List.mem_singleton.mp hp]
      exact ⟨hget, I.hok.fresh (Nat.le_refl _), Nat.ne_of_gt I.lt, I.nofs (Nat.le_refl _), fun v z => by rw [← hso] at z; cases z⟩
  refine kds_all q [e1, e2, e3, e4] _ _ ?_
  show wpAny _ _ (eval e1 X.env) (fun v s' => KdsAll _ _ _ X.env [e2, e3, e4] _ s') _ _
  refine thn (h1.run _ _ σ H _ Ip h) fun u1 s1 ⟨v1, H1, I1, r1, h⟩ => ?_
  show wpAny _ _ (eval e2 X.env) (fun v s' => KdsAll _ _ _ X.env [e3, e4] _ s') _ _
  refine thn (h2.run _ _ σ H1 _ I1 h) fun u2 s2 ⟨v2, H2, I2, r2, h⟩ => ?_
  show wpAny _ _ (eval e3 X.env) (fun v s' => KdsAll _ _ _ X.env [e4] _ s') _ _
  refine thn (h3.run _ _ σ H2 _ I2 h) fun u3 s3 ⟨v3, H3, I3, r3, h⟩ => ?_
  show wpAny _ _ (eval e4 X.env) (fun v s' => KdsAll _ _ _ X.env [] _ s') _ _
  refine thn (h4.run _ _ σ H3 _ I3 h) fun u4 s4 ⟨v4, H4, I4, r4, z, ev1, ev2, ev3, ev4, qq⟩ => ?_
  subst ev1 ev2 ev3 ev4
  obtain ⟨k1, rfl⟩ := r1
  obtain ⟨k2, rfl⟩ := r2
  obtain ⟨k3, rfl⟩ := r3
  obtain ⟨k4, rfl⟩ := r4
  have hd4 : s4.heap.get? s.heap.objs.size = some so := (I4.pin (s.heap.objs.size, so) (by simp)).1
  have hH4 : H4 s.heap.objs.size = none := (I4.pin (s.heap.objs.size, so) (by simp)).2.1
  show KdsFill _ _ _ _ _ _ _ s4
  have fin : ∀ (h' : Heap) (k' : Nat), h'.SetOf (strKind X.prog X.w) s.heap.objs.size (fun x => decide (x = z)) 1 → (∀ b o, b ≠ s.heap.objs.size → s4.heap.get? b = some o → h'.get? b = some o) →
      wpAny (model X.prog X.w) X.A (spliced (backTo pos (starEach [] X.env))) (fun vs s₂ => wpAny (model X.prog X.w) X.A (call (.builtin "len") (Value.ref s.heap.objs.size :: vs)) (EP X pins σ Q) X.xe s₂) X.xe { s4 with heap := h', toks := k' } := fun h' k' hS hk => by
    refine PyProof.Rows.args_nil ?_
    obtain ⟨o, es, ep, t, ho, hex, hd, _, _, _, hf, hn⟩ := hS
    have J : L2.Inv X pins σ H4 { s4 with heap := h', toks := k' } := I4.unpinned.turned hk hH4 (Nat.ne_of_gt I.lt) (.inr I.sz) (fun x c e => by
      obtain ⟨v, o, ho, _⟩ := I.cell x c e
      exact Nat.ne_of_lt (Heap.lt_size ho)) fun pp hp => Nat.ne_of_lt (Heap.lt_size (I.pin pp hp).1)
    exact call_len_set ho hex hd hf (by rw [hn]; omega) ⟨.int 1, H4, J.tok _, ⟨_, by rw [hn]; rfl⟩, qq⟩
  obtain ⟨hp4, g4, d4, tk4, os4⟩ := s4
  refine fill_same0 (s := ⟨hp4, g4, d4, tk4, os4⟩) (z := z) (t := k1) (vs := [.str z k2, .str z k3, .str z k4]) (h₀ := hp4) (fun v hv => ?_) ((show so.SetObjOf (strKind X.prog X.w) (fun _ => false) 0 from by rw [← hso]; exact setObjOf_fresh (knd := strKind X.prog X.w) led).setOf hd4 (by decide)) (fun b o _ e => e) fun h' k' hS hk => ?_
  · simp only [List.mem_cons, List.not_mem_nil, or_false] at hv
    rcases hv with rfl | rfl | rfl <;> exact ⟨_, rfl⟩
  · cases hu : (displayRoad 0 [e1, e2, e3, e4] == DisplayRoad.unsure) with
    | false => exact kds_fill_nil rfl (fin h' k' hS hk)
    | true =>
      refine kds_fill_unled rfl ?_
      obtain ⟨o, es, ep, t, ho, hex, hd, hel, hmem, hb, hf, hn⟩ := hS
      have hf' : ({ t with led := false } : SetTable).fits es.size = true := by cases t; exact hf
      unfold setUnled
      refine wpAny_bind (wpAny_setState_of ho hd hf ?_)
      dsimp only
      refine wpAny_storeSet_of ho hd ?_ (fits_of_scanBound hb)
      obtain ⟨_, hS⟩ := SetOf_store (knd := strKind X.prog X.w) ho hex hd hel hmem hb hf'
      rw [hn] at hS
      have sb := Heap.SameBut.update h' s.heap.objs.size (Obj.putSet es { t with led := false })
      exact fin _ _ hS fun b o hb e => (sb.2 b hb).trans (hk b o hb e)
end
section
variable {c : Ct} {ρ : Env} {t1 t2 t3 t4 : TE}
theorem ev_lenSet4 {z : Str} (h1 : EvE c t1 ρ (.str z)) (h2 : EvE c t2 ρ (.str z)) (h3 : EvE c t3 ρ (.str z)) (h4 : EvE c t4 ρ (.str z)) : EvE c (tLenSet4 t1 t2 t3 t4) ρ (.int 1) := fun G0 H0 σ G H r Q q => by
  refine h1 _ _ _ _ _ r _ fun x1 v1 G1 H1 k1 s1 r1 => ?_
  refine h2 _ _ _ _ _ (r.stp s1) _ fun x2 v2 G2 H2 k2 s2 r2 => ?_
  refine h3 _ _ _ _ _ ((r.stp s1).stp s2) _ fun x3 v3 G3 H3 k3 s3 r3 => ?_
  refine h4 _ _ _ _ _ (((r.stp s1).stp s2).stp s3) _ fun x4 v4 G4 H4 k4 s4 r4 => ?_
  subst k1 k2 k3 k4
  cases r1
  cases r2
  cases r3
  cases r4
  exact ⟨z, rfl, rfl, rfl, rfl, q _ _ G4 H4 rfl (((s1.trans s2).trans s3).trans s4) (.int 1)⟩
end
end Fx
/-! text FxSpec3 -/
namespace Fx
open PySem L2 Evl PyProof.Rows Mir NdefX

/-! ### promises of what may raise -/
def tooMany : Str := "too many states"
def noPass : Str := "no such pass"
abbrev sp_small_machine (c : Ct) : Sp := SpX c (fun i : Al × Mc => [.str (alS i.1), .str (alS i.1), eRows i.2.l, eRows i.2.r, eTab i.1 i.2.t]) (fun i => i.1 ∈ Als ∧ McOk 100 i.2)
  (fun i d => ∃ m, smallP i.2 = some m ∧ d = eM c.A.M i.1 m) fun i C s => smallP i.2 = none ∧ C = c.A.ME ∧ s = tooMany
abbrev sp_compose (c : Ct) : Sp := SpX c (fun i : Al × Mc × Mc => [eM c.A.M i.1 i.2.1, eM c.A.M i.1 i.2.2]) (fun i => i.1 ∈ Als ∧ McOk 40 i.2.1 ∧ McOk 40 i.2.2)
  (fun i d => ∃ m, composeP i.2.1 i.2.2 = some m ∧ d = eM c.A.M i.1 m) fun i C s => composeP i.2.1 i.2.2 = none ∧ C = c.A.ME ∧ s = tooMany
abbrev sp_cascade (c : Ct) : Sp := SpX c (fun i : Al × List Mc => [.lst (i.2.map (eM c.A.M i.1))]) (fun i => i.1 ∈ Als ∧ i.2 ≠ [] ∧ i.2.length ≤ 6 ∧ ∀ m ∈ i.2, McOk 40 m)
  (fun i d => ∃ m, cascadeP i.2 = some m ∧ d = eM c.A.M i.1 m) fun i C s => cascadeP i.2 = none ∧ C = c.A.ME ∧ s = tooMany
abbrev sp_both_orders (c : Ct) : Sp := SpX c (fun i : Al × Mc × Mc => [eM c.A.M i.1 i.2.1, eM c.A.M i.1 i.2.2]) (fun i => i.1 ∈ Als ∧ McOk 40 i.2.1 ∧ McOk 40 i.2.2)
  (fun i d => ∃ a b, composeP i.2.1 i.2.2 = some a ∧ composeP i.2.2 i.2.1 = some b ∧ d = .tup [eM c.A.M i.1 a, eM c.A.M i.1 b]) fun i C s => (composeP i.2.1 i.2.2 = none ∨ composeP i.2.2 i.2.1 = none) ∧ C = c.A.ME ∧ s = tooMany
abbrev sp_commutes (c : Ct) : Sp := SpX c (fun i : Al × Mc × Mc => [eM c.A.M i.1 i.2.1, eM c.A.M i.1 i.2.2]) (fun i => i.1 ∈ Als ∧ McOk 40 i.2.1 ∧ McOk 40 i.2.2)
  (fun i d => ∃ a b, composeP i.2.1 i.2.2 = some a ∧ composeP i.2.2 i.2.1 = some b ∧ d = .bl (decide (a = b))) fun i C s => (composeP i.2.1 i.2.2 = none ∨ composeP i.2.2 i.2.1 = none) ∧ C = c.A.ME ∧ s = tooMany
abbrev sp_whole (c : Ct) : Sp := SpX c (fun i : Al × List Mc => [.str (alS i.1), .lst (i.2.map (eM c.A.M i.1))]) (fun i => i.1 ∈ Als ∧ i.2.length ≤ 6 ∧ ∀ m ∈ i.2, McOk 40 m)
  (fun i d => ∃ m, cascadeP i.2 = some m ∧ d = eM c.A.M i.1 m) fun i C s => cascadeP i.2 = none ∧ C = c.A.ME ∧ s = tooMany

/-! ### the functions within compose -/
def inDef (s : Stmt) (i : Nat) : Stmt := (defBody s).getD i (.Pass ⟨0, 0, 0, 0⟩)
abbrev sLf : Stmt := inDef (topS 35) 4
abbrev sRt : Stmt := inDef (topS 35) 5
def onQ (b : Bool) : Str := if b then "onward_right" else "onward_left"
def Fam (b : Bool) (F : NF) : Prop := F = NF.of (if b then sRt else sLf) (onQ b) ((("compose" : Str) ++ ".<locals>.") ++ onQ b) F.cl F.c
def onOf (b : Bool) (one two : Mc) : Th → Nat → Th := if b then rightOn one two else leftOn one two
def thOkOf (b : Bool) (one two : Mc) (p : Th) : Prop := if b then ThOk one.r.length one.l.length two.r.length p else ThOk one.l.length one.r.length two.l.length p
abbrev argN (c : Ct) (i : Al × Mc × Mc × Th × Nat) : List D := [eTh i.2.2.2.1, eI i.2.2.2.2, eM c.A.M i.1 i.2.1, eM c.A.M i.1 i.2.2.1]
abbrev preN (b : Bool) (i : Al × Mc × Mc × Th × Nat) : Prop := i.1 ∈ Als ∧ McOk 40 i.2.1 ∧ McOk 40 i.2.2.1 ∧ thOkOf b i.2.1 i.2.2.1 i.2.2.2.1 ∧ i.2.2.2.2 < 2
abbrev postN (b : Bool) (i : Al × Mc × Mc × Th × Nat) (d : D) : Prop := d = eTh (onOf b i.2.1 i.2.2.1 i.2.2.2.1 i.2.2.2.2)
abbrev spN (c : Ct) (b : Bool) : List (Option V) → Sp := SpN c (argN c) (preN b) (postN b)
def sp_walked (c : Ct) (cl : List (Str × Addr)) (ws : List (Option V)) : Sp := fun vs H Q E =>
  ∃ (b : Bool) (al : Al) (one two : Mc) (first : Th) (G : Hp) (f : Addr) (F : NF) (v0 : V) (vws : List V),
    vs = [v0, .ref f, .int 2] ∧ ws = vws.map some ∧ Ok { c with B := none } G H ∧ Rp c.K G (eTh first) v0 ∧ H f = some (FnO f F) ∧ H F.c = some (LamX.CodeO F.c F.qual) ∧ Fam b F ∧ F.cl = cl ∧ RpL c.K G [eM c.A.M al one, eM c.A.M al two] vws ∧
    (al ∈ Als ∧ McOk 40 one ∧ McOk 40 two ∧ thOkOf b one two first) ∧
    (∀ o r v G' H', walked (onOf b one two) first = some (o, r) → Stp { c with B := none } G H G' H' → Rp c.K G' (.tup [.lst (o.map eTh), eRows r]) v → Q v H') ∧
    ∀ d G' H', walked (onOf b one two) first = none → Stp { c with B := none } G H G' H' → ExAt d tooMany H' → E (.ref c.A.ME) (some d) H'
end Fx
/-! text FxSpec4 -/
namespace Fx
open PySem L2 Evl PyProof.Rows Mir NdefX

/-! ### methods -/
theorem pe_mtc {X : Cx} {CX : CXT} {k : Nat} {C : Addr} {m : Str} {sp : Sp} {E : XK} {o e : Expr} {es : List Expr} {apos pos : Pos} {ta : TE} {t : TA} {pl : Sem Bool} (R : CalT X.prog X.w X.K X.mg X.base CX k C m sp) (hr : Room k X.A) (hx : Passes CX X E) (he : PE X o ta) (ha : PA X (e :: es) t)
    (hst : starEach (e :: es) X.env = (false, eval e X.env) :: starEach es X.env := by rfl) (hpl : (backTo pos (starEach es X.env)).any (·.1) = false := by rfl)
    (ht : eval (.Call (.Attribute o m apos) (e :: es) [] pos) X.env = (do
      let ov ← eval o X.env
      standAt apos.atName
      let (f, first) ← holding [ov] (getMethod ov m pl)
      callWith pos f first (backTo pos (starEach (e :: es) X.env)) (backToKw pos (keywordEach [] X.env))) := by rfl) :
    PE X (.Call (.Attribute o m apos) (e :: es) [] pos) (tMeth C m sp [] E ta t) := by
  obtain ⟨f, fd, ps, hm, F, hb⟩ := R.ex
  exact pe_meth (pl := pl) he R.cls hm F hr hb .nil hx ha hst hpl ht
theorem pe_mtc0 {X : Cx} {CX : CXT} {k : Nat} {C : Addr} {m : Str} {sp : Sp} {E : XK} {o : Expr} {apos pos : Pos} {ta : TE} {pl : Sem Bool} (R : CalT X.prog X.w X.K X.mg X.base CX k C m sp) (hr : Room k X.A) (hx : Passes CX X E) (he : PE X o ta)
    (ht : eval (.Call (.Attribute o m apos) [] [] pos) X.env = (do
      let ov ← eval o X.env
      standAt apos.atName
      let (f, first) ← holding [ov] (getMethod ov m pl)
      callWith pos f first (backTo pos (starEach [] X.env)) (backToKw pos (keywordEach [] X.env))) := by rfl) :
    PE X (.Call (.Attribute o m apos) [] [] pos) (tMeth C m sp [] E ta tNil) := by
  obtain ⟨f, fd, ps, hm, F, hb⟩ := R.ex
  exact pe_meth0 (pl := pl) he R.cls hm F hr hb .nil hx ht
/-! ### books -/
def bNames : List Str := ["alphabet", "rows", "before"]
def bFlds (c : Ct) (al : Al) (ms : List Mc) (bs : List D) : List D := [.str (alS al), .lst (ms.map (eM c.A.M al)), .lst bs]
def eBk (c : Ct) (al : Al) (ms : List Mc) (bs : List D) : D := .obj c.A.Bk bNames (bFlds c al ms bs)
structure BOk (c : Ct) : Prop where
  cls : Cls c.K c.A.Bk
  na : ∀ f ∈ bNames, NoAttr c.K c.A.Bk f
abbrev Bk := Al × List Mc × List D
structure BkOk (i : Bk) : Prop where
  al : i.1 ∈ Als
  len : i.2.1.length ≤ 6
  ms : ∀ m ∈ i.2.1, McOk 40 m
abbrev sp_Book___init__ (c : Ct) : Sp := SpI c c.A.Bk (fun al : Al => [.str (alS al)]) (fun al => al ∈ Als) bNames (fun al => bFlds c al [] [])
abbrev sp_Book__change (c : Ct) : Sp := SpW c c.A.Bk bNames (fun i : Bk × List Mc => bFlds c i.1.1 i.1.2.1 i.1.2.2) (fun i => [.lst (i.2.map (eM c.A.M i.1.1))]) (fun i => i.1.2.2.length ≤ 1000) (fun i => bFlds c i.1.1 i.2 (i.1.2.2 ++ [.lst (i.1.2.1.map (eM c.A.M i.1.1))]))
abbrev sp_Book_insert (c : Ct) : Sp := SpW c c.A.Bk bNames (fun i : Bk × Mc => bFlds c i.1.1 i.1.2.1 i.1.2.2) (fun i => [eI i.1.2.1.length, eM c.A.M i.1.1 i.2]) (fun i => BkOk i.1 ∧ i.1.2.1.length < 6 ∧ i.1.2.2.length ≤ 1000 ∧ McOk 40 i.2)
  (fun i => bFlds c i.1.1 (i.1.2.1 ++ [i.2]) (i.1.2.2 ++ [.lst (i.1.2.1.map (eM c.A.M i.1.1))]))
abbrev sp_Book__require (c : Ct) : Sp := SpX c (fun i : Bk × Int => [eBk c i.1.1 i.1.2.1 i.1.2.2, .int i.2]) (fun _ => True) (fun i d => (0 ≤ i.2 ∧ i.2 < i.1.2.1.length) ∧ d = .non) fun i C s => ¬ (0 ≤ i.2 ∧ i.2 < i.1.2.1.length) ∧ C = c.A.BE ∧ s = noPass
abbrev sp_Book_whole (c : Ct) : Sp := SpX c (fun i : Bk => [eBk c i.1 i.2.1 i.2.2]) BkOk (fun i d => ∃ m, cascadeP i.2.1 = some m ∧ d = eM c.A.M i.1 m) fun i C s => cascadeP i.2.1 = none ∧ C = c.A.ME ∧ s = tooMany
def swapP (ms : List Mc) (k : Nat) : Option Bool := (composeP (ms.getD k idM) (ms.getD (k + 1) idM)).bind fun a => (composeP (ms.getD (k + 1) idM) (ms.getD k idM)).bind fun b => some (decide (a = b))
abbrev sp_Book_can_swap (c : Ct) : Sp := SpX c (fun i : Bk × Nat => [eBk c i.1.1 i.1.2.1 i.1.2.2, eI i.2]) (fun i => BkOk i.1) (fun i d => i.2 + 1 < i.1.2.1.length ∧ ∃ b, swapP i.1.2.1 i.2 = some b ∧ d = .bl b)
  fun i C s => (¬ i.2 + 1 < i.1.2.1.length ∧ C = c.A.BE ∧ s = noPass) ∨ (i.2 + 1 < i.1.2.1.length ∧ swapP i.1.2.1 i.2 = none ∧ C = c.A.ME ∧ s = tooMany)
def idleStep (ms : List Mc) (w : Mc) (acc : List Nat) (k : Nat) : Option (List Nat) := (cascadeP (ms.take k ++ ms.drop (k + 1))).bind fun r => some (if r = w then acc ++ [k] else acc)
def idleP (ms : List Mc) : Option (List Nat) := (cascadeP ms).bind fun w => (List.range ms.length).foldlM (idleStep ms w) []
abbrev sp_Book_idle_passes (c : Ct) : Sp := SpX c (fun i : Bk => [eBk c i.1 i.2.1 i.2.2]) BkOk (fun i d => ∃ ks, idleP i.2.1 = some ks ∧ d = eIs ks) fun i C s => idleP i.2.1 = none ∧ C = c.A.ME ∧ s = tooMany
end Fx
set_option maxHeartbeats 200000
/-! text MirL -/
/-! The mirror of the law's own defs. -/
namespace MirL
open Mir
/-- a layer's candidates, in the order of their words -/
def cand (rows : List (List Nat)) (side : Bool) (layer : List Nat) : List Nat := if side then layer.map (fun s => (row rows s).getD 0 0) ++ layer.map (fun s => (row rows s).getD 1 0) else layer.flatMap fun s => [(row rows s).getD 0 0, (row rows s).getD 1 0]
def lay (rows : List (List Nat)) (side : Bool) : Nat → List Nat → List Nat → List Nat
  | 0, order, _ => order
  | n + 1, order, layer => lay rows side n (addRow order (cand rows side layer)) ((addRow order (cand rows side layer)).drop order.length)
def firstsL (rows : List (List Nat)) (side : Bool) : List Nat := lay rows side 102 [0] [0]
def trimL (m : Mc) : Mc := ⟨kept m.l (firstsL m.l false), kept m.r (firstsL m.r true), small m (firstsL m.l false) (firstsL m.r true)⟩
section
variable {α : Type} [DecidableEq α]
def marksOf (xs : List α) : List Nat := xs.map fun x => xs.idxOf x
def refineL (rows : List (List Nat)) (marks : List Nat) : List Nat := marksOf ((List.range rows.length).map fun s => marks.getD s 0 :: (row rows s).map fun o => marks.getD o 0)
def turns (rows : List (List Nat)) : Nat → List Nat → List Nat
  | 0, marks => marks
  | n + 1, marks => turns rows n (refineL rows marks)
def classesL (rows : List (List Nat)) (xs : List α) : List Nat := turns rows (rows.length + 1) (marksOf xs)
end
def keepL (marks : List Nat) : List Nat := (List.range marks.length).filter fun i => marks.getD i 0 == i
def keptL (rows : List (List Nat)) (marks keep : List Nat) : List (List Nat) := keep.map fun i => (row rows i).map fun o => keep.idxOf (marks.getD o 0)
def leastL (m : Mc) : Mc :=
  let t := trimL m
  let ls := classesL t.l t.t
  let rs := classesL t.r (columns t.t t.r.length)
  ⟨keptL t.l ls (keepL ls), keptL t.r rs (keepL rs), (keepL ls).map fun i => (keepL rs).map fun j => cell t.t i j⟩
/-- the law's composed states: at most one turn behind the hundredth -/
def rowL (on : Th → Nat → Th) (o : List Th) (th : Th) : List Th × List Nat :=
  let o1 := if on th 0 ∈ o then o else o ++ [on th 0]
  let o2 := if on th 1 ∈ o1 then o1 else o1 ++ [on th 1]
  (o2, [o1.idxOf (on th 0), o2.idxOf (on th 1)])
def grow (on : Th → Nat → Th) : Nat → Nat → List Th → List (List Nat) → List Th × List (List Nat)
  | 0, _, o, rs => (o, rs)
  | n + 1, at_, o, rs => if at_ < o.length ∧ o.length ≤ 100 then grow on n (at_ + 1) (rowL on o (o.getD at_ (0, []))).1 (rs ++ [(rowL on o (o.getD at_ (0, []))).2]) else grow on n (at_ + 1) o rs
def grown (on : Th → Nat → Th) (first : Th) : List Th × List (List Nat) := grow on 102 0 [first] []
def composedL (a b : Mc) : Option Mc :=
  let one := leastL a
  let two := leastL b
  let ls := grown (leftOn one two) (0, List.replicate one.r.length 0)
  let rs := grown (rightOn one two) (0, List.replicate one.l.length 0)
  if ls.1.length > 100 ∨ rs.1.length > 100 then none
  else
    let s := leastL ⟨ls.2, rs.2, ls.1.map fun p => rs.1.map fun q => toldP one two p q⟩
    if s.l.length > 40 ∨ s.r.length > 40 then none else some s
def wholeL : List Mc → Option Mc
  | [] => some idM
  | m :: ms => ms.foldlM (fun w m => composedL w m) (leastL m)
def swapL (ms : List Mc) (k : Nat) : Option Bool := (composedL (ms.getD k idM) (ms.getD (k + 1) idM)).bind fun a => (composedL (ms.getD (k + 1) idM) (ms.getD k idM)).bind fun b => some (decide (a = b))
def idleL (ms : List Mc) : Option (List Nat) := (wholeL ms).bind fun w => (List.range ms.length).foldlM (fun acc k => (wholeL (ms.take k ++ ms.drop (k + 1))).bind fun r => some (if r = w then acc ++ [k] else acc)) []
end MirL
set_option maxHeartbeats 4000000
/-! text FxSpec5 -/
namespace Fx
open PySem L2 Evl PyProof.Rows Mir MirL NdefX

/-! ### the law's own defs -/
/-- a promise of a def that takes the box -/
def SpB (c : Ct) {ι : Type} (args : ι → List D) (pre : ι → Prop) (post : ι → D → Prop) : Sp := fun vs H Q _ =>
  ∃ (i : ι) (b : Addr) (G : Hp) (ws : List V), vs = .ref b :: ws ∧ Ok { c with B := some b } G H ∧ RpL c.K G (args i) ws ∧ pre i ∧ ∀ d v G' H', post i d → Stp { c with B := some b } G H G' H' → Rp c.K G' d v → Q v H'
abbrev sp_law_cell (c : Ct) : Sp := SpF c (fun i : List Int × Nat => [.scr i.1, eI i.2]) (fun _ => True) fun i d => ∃ n : Int, d = .int n
abbrev sp_law_row (c : Ct) : Sp := SpF c (fun i : List Int => [.scr i, .int 0, .int 50]) (fun _ => True) fun i d => ∃ ns : List Int, d = .lst (ns.map .int)
abbrev sp_law_draw (c : Ct) : Sp := SpB c (fun n : Nat => [eI n]) (fun n => 0 < n) fun n d => ∃ k, k < n ∧ d = eI k
abbrev sp_law_states (c : Ct) : Sp := SpB c (fun n : Nat => [eI n, .int 2]) (fun n => 0 < n ∧ n ≤ 2) fun n d => ∃ rows, RowsOk n rows ∧ d = eRows rows
abbrev sp_law_machine (c : Ct) : Sp := SpB c (fun al : Al => [.str (alS al), .str (alS al), .int 2]) (fun al => al ∈ Als) fun al d => ∃ m, McOk 2 m ∧ d = eLM al m
abbrev sp_law_fit (c : Ct) : Sp := SpB c (fun al : Al => [.str (alS al), .int 2]) (fun al => al ∈ Als) fun al d => ∃ m, McOk 2 m ∧ d = eLM al m
abbrev sp_law_alphabet (c : Ct) : Sp := SpB c (fun _ : Unit => [.int 2]) (fun _ => True) fun _ d => ∃ al ∈ Als, d = .str (alS al)
abbrev sp_law_made (c : Ct) : Sp := SpF c (fun i : Al × Mc => [eLM i.1 i.2]) (fun i => i.1 ∈ Als ∧ McOk 40 i.2) fun i d => d = eM c.A.M i.1 i.2
abbrev sp_law_key (c : Ct) : Sp := SpF c (fun i : Al × List Nat => [.str (alS i.1), eW i.1 i.2]) (fun i => i.1 ∈ Als ∧ i.2.length ≤ 1000 ∧ ∀ k ∈ i.2, k < 2) fun i d => d = .tup [eI i.2.length, eIs i.2]
abbrev sp_law_firsts (c : Ct) : Sp := SpF c (fun i : Al × Mc × Bool => [eLM i.1 i.2.1, eI (if i.2.2 then 1 else 0)]) (fun i => i.1 ∈ Als ∧ McOk 100 i.2.1) fun i d => ∃ v, d = .lst [eIs (firstsL (if i.2.2 then i.2.1.r else i.2.1.l) i.2.2), .raw v]
abbrev sp_law_trim (c : Ct) : Sp := SpF c (fun i : Al × Mc => [eLM i.1 i.2]) (fun i => i.1 ∈ Als ∧ McOk 100 i.2) fun i d => d = eLM i.1 (trimL i.2)
abbrev sp_law_classes (c : Ct) : Sp := SpF c (fun i : Al × List (List Nat) × List (List (List Nat)) => [eRows i.2.1, eTab i.1 i.2.2]) (fun i => i.1 ∈ Als ∧ RowsOk i.2.1.length i.2.1 ∧ 1 ≤ i.2.1.length ∧ i.2.1.length ≤ 100 ∧ i.2.2.length = i.2.1.length ∧ ∀ r ∈ i.2.2, ∀ w ∈ r, w.length = 2 ∧ ∀ k ∈ w, k < 2) fun i d => d = eIs (classesL i.2.1 i.2.2)
abbrev sp_law_least (c : Ct) : Sp := SpF c (fun i : Al × Mc => [eLM i.1 i.2]) (fun i => i.1 ∈ Als ∧ McOk 100 i.2) fun i d => d = eLM i.1 (leastL i.2)
def onL (side : Bool) (one two : Mc) : Th → Nat → Th := if side then rightOn one two else leftOn one two
def fstOf (side : Bool) (one : Mc) : Th := (0, List.replicate (if side then one.l.length else one.r.length) 0)
/-- a composed state of the law: one tuple -/
def eTl (p : Th) : D := .tup (eI p.1 :: p.2.map eI)
abbrev sp_law_grown (c : Ct) : Sp := SpF c (fun i : Al × Mc × Mc × Bool => [eLM i.1 i.2.1, eLM i.1 i.2.2.1, eI (if i.2.2.2 then 1 else 0)]) (fun i => i.1 ∈ Als ∧ McOk 40 i.2.1 ∧ McOk 40 i.2.2.1)
  fun i d => d = .lst [.lst ((grown (onL i.2.2.2 i.2.1 i.2.2.1) (fstOf i.2.2.2 i.2.1)).1.map eTl), eRows (grown (onL i.2.2.2 i.2.1 i.2.2.1) (fstOf i.2.2.2 i.2.1)).2]
def optLM (al : Al) : Option Mc → D
  | none => .non
  | some m => eLM al m
abbrev sp_law_composed (c : Ct) : Sp := SpF c (fun i : Al × Mc × Mc => [eLM i.1 i.2.1, eLM i.1 i.2.2]) (fun i => i.1 ∈ Als ∧ McOk 40 i.2.1 ∧ McOk 40 i.2.2) fun i d => d = optLM i.1 (composedL i.2.1 i.2.2)
abbrev sp_law_whole (c : Ct) : Sp := SpF c (fun i : Al × List Mc => [.str (alS i.1), .lst (i.2.map (eLM i.1))]) (fun i => i.1 ∈ Als ∧ i.2.length ≤ 6 ∧ ∀ m ∈ i.2, McOk 40 m) fun i d => d = optLM i.1 (wholeL i.2)
def eSwap : Option Bool → D
  | none => .str tooMany
  | some b => .bl b
abbrev sp_law_due_swap (c : Ct) : Sp := SpF c (fun i : Al × List Mc × Nat => [.lst (i.2.1.map (eLM i.1)), eI i.2.2]) (fun i => i.1 ∈ Als ∧ i.2.1.length ≤ 6 ∧ ∀ m ∈ i.2.1, McOk 40 m) fun i d => d = if i.2.2 + 1 < i.2.1.length then eSwap (swapL i.2.1 i.2.2) else .str noPass
def eIdle : Option (List Nat) → D
  | none => .str tooMany
  | some ks => eIs ks
abbrev sp_law_due_idle (c : Ct) : Sp := SpF c (fun i : Al × List Mc => [.str (alS i.1), .lst (i.2.map (eLM i.1))]) (fun i => i.1 ∈ Als ∧ i.2.length ≤ 6 ∧ ∀ m ∈ i.2, McOk 40 m) fun i d => d = eIdle (idleL i.2)
end Fx
/-! text FxBox -/
namespace Fx
open PySem L2 Evl PyProof.Rows NdefX
section
variable {c : Ct} {ρ : Env} {b : Addr} {i : Nat}
theorem Ct.boxed (hb : c.B = some b) : { c with B := some b } = c := by
  cases c
  simp only at hb
  subst hb
  rfl
theorem SpB.len {ι : Type} {args : ι → List D} {pre : ι → Prop} {post : ι → D → Prop} {n : Nat} (h : ∀ i, (args i).length + 1 = n) : ∀ vs H Q E, SpB c args pre post vs H Q E → vs.length = n := fun vs H Q E h' => by
  obtain ⟨i, b, G, ws, rfl, ok, r, _⟩ := h'
  rw [List.length_cons, ← r.len, h i]
theorem body_okB {ι : Type} {args : ι → List D} {pre : ι → Prop} {post : ι → D → Prop} {t : TS} {N : List Str} {vs : List V} {H : Hp} {Q : VK} {E E' : XK} (h : SpB c args pre post vs H Q E)
    (as : ∀ i b, pre i → AS { c with B := some b } E' t (entry N (.raw (.ref b) :: args i)) { nx := fun _ => post i .non, rt := post i }) : t { nx := fun _ H' => Q .non H', rt := Q } (L2.start N vs) H := by
  obtain ⟨i, b, G, ws, rfl, ok, r, p, q⟩ := h
  refine as i b p _ _ _ _ _ (Rel.init ok (.cons (.raw (.ref b)) r) N) _ (fun ρ' σ' G' H' n _ r' => q .non .non G' H' n r'.st .non) (fun d v G' H' n st _ rp => q d v G' H' n st rp) fun _ _ _ _ _ z => z.elim
theorem ev_callB {ι : Type} {args : ι → List D} {pre : ι → Prop} {post : ι → D → Prop} {E : XK} {ta : TA} (i : ι) (hb : c.B = some b) (h : EvAE c ta ρ (.raw (.ref b) :: args i)) (hp : pre i) : Ev c (tCall (SpB c args pre post) [] E ta) ρ (post i) := fun G0 H0 σ G H r Q q => by
  refine h _ _ _ _ _ r _ fun x vs G1 H1 kx s1 rx => ?_
  subst kx
  show SpB c args pre post (vs ++ []) H1 Q E
  rw [List.append_nil]
  cases rx with
  | cons r1 r2 =>
    cases r1
    refine ⟨i, b, G1, _, rfl, ?_, r2, hp, fun d v G' H' pd s2 rd => ?_⟩
    · rw [Ct.boxed hb]; exact s1.ok
    · rw [Ct.boxed hb] at s2
      exact q d v G' H' pd (s1.trans s2) rd
theorem ev_box0 (hb : c.B = some b) (h : ρ[i]? = some (some (.dat (.raw (.ref b))))) : Ev c (tOp (rIxL c.K) (tVar i) (tC (.int 0))) ρ (fun d => ∃ ns : List Int, d = .lst (ns.map .int)) := fun G0 H0 σ G H r Q q => by
  obtain ⟨v, h1, h2⟩ := r.dat h
  cases h2
  obtain ⟨g, rr, ns, k, h3, h4, h5⟩ := r.ok.bx b hb
  exact ⟨_, h1, b, _, 0, _, rfl, rfl, SqL.of h3, rfl, q _ _ G H ⟨ns, rfl⟩ (.refl r.ok) h5⟩
theorem ev_box1 (hb : c.B = some b) (h : ρ[i]? = some (some (.dat (.raw (.ref b))))) : Ev c (tOp (rIxL c.K) (tVar i) (tC (.int 1))) ρ (fun d => ∃ n : Nat, d = eI n) := fun G0 H0 σ G H r Q q => by
  obtain ⟨v, h1, h2⟩ := r.dat h
  cases h2
  obtain ⟨g, rr, ns, k, h3, h4, h5⟩ := r.ok.bx b hb
  exact ⟨_, h1, b, _, 1, _, rfl, rfl, SqL.of h3, rfl, q _ _ G H ⟨k.toNat, by show D.int k = D.int _; rw [Int.toNat_of_nonneg h4]⟩ (.refl r.ok) (.int k)⟩
/-- the box is written -/
theorem Stp.box {G H : Hp} {k : Int} {r : Addr} (ok : Ok c G H) (hb : c.B = some b) (hk : 0 ≤ k) (h3 : H b = some (.lst [.ref r, .int n])) {ns : List Int} (h5 : Rp c.K G (.lst (ns.map D.int)) (.ref r)) (g : G b = none) : Stp c G H G (upd H b (.lst [.ref r, .int k])) := by
  refine ⟨⟨fun a u e => ?_, fun b' hb' => ?_, fun q hq => tabN_mut (ok.tb q hq) h3 plain_lst, ok.nt⟩, Ex.refl G, fun a u nn t e => ?_, fun a e => ?_, fun a u e => .inl e⟩
  · have ne : a ≠ b := fun z => by rw [z, g] at e; cases e
    rw [upd_ne ne]
    exact ok.gh a u e
  · obtain rfl : b = b' := Option.some.inj (hb.symm.trans hb')
    exact ⟨g, r, ns, k, upd_same, hk, h5⟩
  · have ne : a ≠ b := fun z => nn (by rw [z]; exact hb.symm)
    rw [upd_ne ne]
    exact e
  · by_cases ha : a = b
    · subst ha; rw [upd_same] at e; cases e
    · rw [upd_ne ha] at e
      exact e
theorem as_box1 {te : TE} {A : AEnds} {E : XK} {n : Nat} (hb : c.B = some b) (h : ρ[i]? = some (some (.dat (.raw (.ref b))))) (he : EvE c te ρ (eI n)) (hn : A.nx ρ) : AS c E (tAsg te (gSub (tVar i) (tC (.int 1)) rSetL)) ρ A := fun G0 H0 σ G H r Dn q1 q2 q3 => by
  refine he _ _ _ _ _ r _ fun x v G1 H1 kx s1 rx => ?_
  subst kx
  cases rx
  have r1 := r.stp s1
  obtain ⟨v, h1, h2⟩ := r1.dat h
  cases h2
  obtain ⟨g, rr, ns, k, h3, h4, h5⟩ := r1.ok.bx b hb
  refine ⟨_, h1, b, [.ref rr, .int k], 1, 1, rfl, rfl, h3, rfl, ?_⟩
  have s2 := Stp.box (k := (n : Int)) r1.ok hb (by omega) h3 h5 g
  exact q1 _ _ _ _ hn s1.gg (r1.stp s2)
end
end Fx
/-! text HxMul -/
namespace L2
open PySem PySem.Spec PyProof.Rows
theorem tuple_mul1W (l : Addr) (items : Array Value) (n : Nat) (dd : Option Addr) (sl : Array (Option Value)) (u : Tok) :
    Meets (Builtin.«tuple.__mul__» ⟨[.ref l, .int 1 u], []⟩) (fun _ R s => s.heap.get? l = some { cls := .type "tuple", dict := dd, data := .seq items n, slots := sl } ∧
      R (.ok (.ret (Value.ref l))) s) :=
  .of_wp fun prog w A R s h => by
    obtain ⟨hp, g, d, tk, os⟩ := s
    obtain ⟨hl, h⟩ := h
    have f1 := AutoSeq1.idx_int
    have c1 : (items.isEmpty || (1 : Int) == 1) = true := by rw [show ((1 : Int) == 1) = true from rfl, Bool.or_true]
    wp_walk using wpAny_loadPart' hl
    repeat (first
      | (refine wpAny_ite_false (decide_eq_false (by decide)) ?_; wp_walk using wpAny_loadPart' hl)
      | (refine wpAny_ite_true (decide_eq_true (by rw [c1])) ?_; wp_walk using wpAny_loadPart' hl))
    exact ⟨_, rfl, h⟩
def rRepF (K : PySem.W.Frag) : R2 := fun x y H Q => ∃ l k xs, x = .ref l ∧ y = .int k ∧ SqT K H l xs ∧ xs ≠ [] ∧ 1 ≤ k ∧ k ≤ 1000 ∧ xs.length ≤ 1000 ∧ (k = 1 → Q (.ref l) H) ∧ (2 ≤ k → ∀ p, H p = none → Q (.ref p) (upd H p (.tup (List.replicate k.toNat xs).flatten)))
section
variable {X : Cx}
theorem op_repF : OpR X (binaryOp .Mult) (rRepF X.K) := by
  intro pins s σ H x y v u Q I rx ry h
  obtain ⟨l, k, xs, rfl, rfl, hT, hne, h1, h2, hz, q1, q2⟩ := h
  by_cases hk : k = 1
  · subst hk
    cases rx
    obtain ⟨t, rfl⟩ := ry
    obtain ⟨its, r, ⟨⟨cls, dd, data, sl⟩, ho, hc, n, hd⟩, hs⟩ := I.tuple hT
    simp only at hc hd
    subst hc hd
    refine wpAny_binaryOp_repeat_ref (T := "tuple") (U := "int") (by decide) ⟨_, ho, rfl⟩ (fun s' => typeIs_int s' 1 t) noFill_tuple_mul F.fills_int_mul F.slot_int_rmul repeat_tuple F.slot_int_index.lookup
      (call_meets F.slot_int_rmul (typeIs_int s 1 t) F.entry_int_rmul (F.args_int_rmul_2 _ _) (int_rmul_tuple 1 t l its.toArray n dd sl)
        ⟨ho, rfl, ⟨_, ho, rfl⟩, call_meets F.slot_tuple_mul ⟨_, ho, rfl⟩ F.entry_tuple_mul (F.args_tuple_mul_2 _ _) (tuple_mul1W l its.toArray n dd sl t) ⟨ho, ?_⟩⟩)
    exact ⟨.ref l, H, I, rfl, q1 rfl⟩
  · exact op_repT pins s σ H _ _ v u Q I rx ry ⟨l, k, xs, rfl, rfl, hT, hne, by omega, h2, hz, q2 (by omega)⟩
end
end L2
/-! text HxSort -/
namespace L2
open PySem PySem.Spec PyProof.Rows
def rSrt (K : PySem.W.Frag) : List V → Hp → VK → Prop := fun vs H Q => ∃ a xs ds, vs = [V.ref a] ∧ SqL K H a xs ∧ DpAll K H xs ds ∧ PySem.W.AllAlike ds ∧ PySem.W.Sortable ds ∧ (∀ d ∈ ds, d.depth ≤ 60) ∧
  ∀ p, H p = none → Q (.ref p) (upd H p (.lst (((xs.zip ds).mergeSort (PySem.W.dataLe false Prod.snd)).map Prod.fst)))
theorem dpAll_len {K : PySem.W.Frag} {H : Hp} : ∀ (xs : List V) (ds : List PyData), DpAll K H xs ds → xs.length = ds.length
  | [], _, h => by cases h; rfl
  | _ :: xs, _, h => by
    cases h with
    | cons _ h => exact congrArg (· + 1) (dpAll_len xs _ h)
theorem srt_each {h : Heap} : ∀ (xs : List V) (us : List Value) (ds : List PyData) (as : List Addr), Vals xs us → xs.length = ds.length → ReadsAll h us ds as →
    PySem.W.EachIs (fun u (b : V × PyData) => RelV b.1 u) us (xs.zip ds) ∧ PySem.W.EachIs (fun u (b : V × PyData) => ∃ as, Reads h u b.2 as) us (xs.zip ds)
  | [], _, ds, as, r, e, h => by
    cases r
    cases h
    exact ⟨.nil, .nil⟩
  | x :: xs, _, [], as, r, e, h => by cases e
  | x :: xs, _, d :: ds, as, r, e, h => by
    cases r with
    | cons rx rt =>
      cases h with
      | cons h1 h2 =>
        obtain ⟨i1, i2⟩ := srt_each xs _ ds _ rt (Nat.succ.inj e) h2
        exact ⟨.cons rx i1, .cons ⟨_, h1⟩ i2⟩
theorem srt_vals : ∀ (out : List Value) (bs : List (V × PyData)), PySem.W.EachIs (fun u (b : V × PyData) => RelV b.1 u) out bs → Vals (bs.map Prod.fst) out
  | _, _, .nil => .nil
  | _, _, .cons h t => .cons h (srt_vals _ _ t)
section
variable {X : Cx}
theorem call_srt (hu : X.A.units + 65 < cLine) : CallR X (.builtin "sorted") (rSrt X.K) := by
  intro pins s σ H vs us Q I r h
  obtain ⟨a, xs, ds, rfl, hs, hd, h1, h2, h3, q⟩ := h
  obtain ⟨its, rv, hl, hz⟩ := I.list hs
  obtain ⟨u, rfl, ru⟩ := vals1 r
  obtain rfl : u = Value.ref a := ru
  obtain ⟨as, hr⟩ := Dp.readsAll I ds xs its hd rv
  have hlen := dpAll_len xs ds hd
  obtain ⟨e1, e2⟩ := srt_each xs its ds as rv hlen hr
  have em : (xs.zip ds).map Prod.snd = ds := List.map_snd_zip (by omega)
  have hzl : (xs.zip ds).length = xs.length := by rw [List.length_zip]; omega
  refine PySem.W.sorted_data (enc := Prod.snd) hl.isList e1 e2 (by rw [em]; exact h1) (by rw [em]; exact h2) (by rw [hzl]; exact hz) (fun b hb => ?_) fun out ho hE => ?_
  · have : b.2 ∈ ds := by rw [← em]; exact List.mem_map.mpr ⟨b, hb, rfl⟩
    have := h3 _ this
    omega
  · obtain ⟨n, hn⟩ := sortedAll_at s.heap its out.toArray
    refine ⟨.ref (s.heap.objs.size + 1), _, I.laid (t' := s.toks) (o := .lst (((xs.zip ds).mergeSort (PySem.W.dataLe false Prod.snd)).map Prod.fst)) (fun b o e => sortedAll_old e) (Nat.le_succ _) ⟨?_, out, n, srt_vals _ _ hE, hn⟩, rfl, q _ (I.hok.fresh (Nat.le_succ _))⟩
    rw [List.length_map, ← hE.length, ho, hzl]
    exact hz
end
end L2
/-! text PsE1 -/
namespace Fx
open PySem L2 Evl PyProof.Rows Mir NdefX LamX
section
variable {P : Program} {w : World} {K : PySem.W.Frag} {mg : Str → Option Value} {base : Heap} {tabs : List NdefX.NTab} {ad : Ads} {cdv : Value} {A : Around} {outer : List PySem.Env} {s : Shared} {H : Hp} {E : XK} {f : Addr}
/-! ### _law_cell -/
abbrev s_law_cell : Stmt := topS 46
abbrev N_law_cell : List Str := ["_law_script", "_law_k"]
theorem sc_law_cell : FnScope N_law_cell ["_law_script", "_law_k"] (defScope s_law_cell) := ⟨rfl, rfl, rfl, by decide +kernel, rfl, by decide +kernel, by decide +kernel⟩
def t_law_cell (c : Ct) : TS :=
      (tSeq (tIfS (tTest (tOp (rI0 fun i j => .bl (decide (i < j))) (tVar 1) (tCB (rLenF c.K) (tCons (tVar 0) tNil)))) (tRet (tOp (rIxL c.K) (tVar 0) (tVar 1))) tNext)
      (tRet (tC (.int 0))))
theorem p_law_cell (hr : Room 0 (A.deeper (envOfC "_law_cell" (defScope s_law_cell) s.heap.objs.size f cdv))) (T : Top K mg) :
    PSs (cxOf CX0 P w K mg base N_law_cell "_law_cell" (defScope s_law_cell) f cdv A outer s H E).nox (defBody s_law_cell) (t_law_cell (ct P w K tabs ad)) :=
    have scN := sc_law_cell
    (pss_cons (ps_if (pt_cmpR op_lt (pv 1) (pe_callB call_lenF rfl T.n_len boot_len (pa_cons (pv 0) pa_nil)) (nomark _)) (pss_one (ps_ret (pe_ix ix_list (pv 0) (pv 1) (fun _ _ => rfl)))) pss_nil)
      (pss_one (ps_ret pe_int)))
/-! ### _law_row -/
abbrev s_law_row : Stmt := topS 47
abbrev N_law_row : List Str := ["_law_script", "_law_first", "_law_last", "_law_row_here", "_law_k", "_law_cell_here", "_law_turn"]
theorem sc_law_row : FnScope N_law_row ["_law_script", "_law_first", "_law_last"] (defScope s_law_row) := ⟨rfl, rfl, rfl, by decide +kernel, rfl, by decide +kernel, by decide +kernel⟩
def t_law_row (c : Ct) : TS :=
      (tSeq (tAsg (tLst tNil) (gName 3))
      (tSeq (tFor (iRng2 (tCons (tVar 1) (tCons (tVar 2) tNil))) (gName 4)
      (tSeq (tAsg (tCall (sp_law_cell c) [] E0 (tCons (tVar 0) (tCons (tVar 4) tNil))) (gName 5))
      (tSeq (tAsg (tOp (rI0 fun i j => .int (i + j)) (tCB rAbsF (tCons (tOp (rI CMul fun i j => .int (i * j)) (tC (.int 2)) (tVar 5)) tNil)) (tCB rIntF (tCons (tOp (rI0 fun i j => .bl (decide (i < j))) (tVar 5) (tC (.int 0))) tNil))) (gName 5))
      (tIfS (tTest (tOp (rI0 fun i j => .bl (decide (j < i))) (tVar 5) (tOp (rI CPow fun i j => .int (i ^ j.toNat)) (tC (.int 10)) (tC (.int 18))))) (tFor (iRng1 (tCons (tC (.int 60)) tNil)) (gName 6)
      (tIfS (tTest (tOp (rI0 fun i j => .bl (decide (j < i))) (tVar 5) (tC (.int 0)))) (tSeq (tDrop (tBM c.K "list" rAppend (tVar 3) (tCons (tOp (rI (fun _ j => 0 < j) fun i j => .int (i % j)) (tCB rIntF (tCons (tVar 5) tNil)) (tC (.int 840))) tNil)))
      (tAsg (tOp (rI CDiv fun i j => .int (i / j)) (tVar 5) (tC (.int 840))) (gName 5))) tNext)) (tFor (iRng1 (tCons (tC (.int 10)) tNil)) (gName 6)
      (tSeq (tAsg (tOp (rI (fun _ j => 0 < j) fun i j => .int (i % j)) (tCB rIntF (tCons (tOp (rI0 fun i j => .int (i + j)) (tOp (rI0 fun i j => .int (i + j)) (tOp (rI CMul fun i j => .int (i * j)) (tVar 5) (tC (.int 69069))) (tOp (rI CMul fun i j => .int (i * j)) (tC (.int 104729)) (tOp (rI0 fun i j => .int (i + j)) (tVar 4) (tVar 6)))) (tC (.int 1))) tNil)) (tC (.int 4294967291))) (gName 5))
      (tDrop (tBM c.K "list" rAppend (tVar 3) (tCons (tOp (rI (fun _ j => 0 < j) fun i j => .int (i % j)) (tCB rIntF (tCons (tOp (rI CDiv fun i j => .int (i / j)) (tVar 5) (tC (.int 5003))) tNil)) (tC (.int 840))) tNil)))))))))
      (tRet (tVar 3))))
theorem p_law_row (hr : Room 1 (A.deeper (envOfC "_law_row" (defScope s_law_row) s.heap.objs.size f cdv))) (T : Top K mg) (C_law_cell : Cal P w K mg base CX0 1 "_law_cell" ["_law_script", "_law_k"] (sp_law_cell (ct P w K tabs ad))) :
    PSs (cxOf CX0 P w K mg base N_law_row "_law_row" (defScope s_law_row) f cdv A outer s H E).nox (defBody s_law_row) (t_law_row (ct P w K tabs ad)) :=
    have scN := sc_law_row
    (pss_cons (ps_set (i := 3) scN.nd rfl (Or.inl rfl) (pe_lst pa_nil))
      (pss_cons (ps_for PassesOwn.never rfl (pi_range2 rfl T.n_range (pa_cons (pv 1) (pa_cons (pv 2) pa_nil))) (pg_name (i := 4) scN.nd rfl (Or.inl rfl))
      (pss_cons (ps_set (i := 5) scN.nd rfl (Or.inl rfl) (pe_cal C_law_cell (hr.mono (by decide)) rfl pass0 (pa_cons (pv 0) (pa_cons (pv 4) pa_nil))))
      (pss_cons (ps_set (i := 5) scN.nd rfl (Or.inl rfl) (pe_op op_add (pe_callB call_absF rfl T.n_abs boot_abs (pa_cons (pe_op op_mul pe_int (pv 5)) pa_nil)) (pe_callTy call_intF rfl T.n_int boot_int (pa_cons (pe_cmpR op_lt (pv 5) pe_int (nomark _)) pa_nil))))
      (pss_one (ps_if (pt_cmpR op_gt (pv 5) (pe_op op_pow pe_int pe_int) (nomark _)) (pss_one (ps_for PassesOwn.never rfl (pi_range1 rfl T.n_range (pa_cons pe_int pa_nil)) (pg_name (i := 6) scN.nd rfl (Or.inl rfl))
      (pss_one (ps_if (pt_cmpR op_gt (pv 5) pe_int (nomark _)) (pss_cons (ps_expr (pe_bm PySem.F.plainAttrs_list PySem.F.slot_list_append PySem.F.type_list_append mt_append (pv 3) (pa_cons (pe_op op_mod (pe_callTy call_intF rfl T.n_int boot_int (pa_cons (pv 5) pa_nil)) pe_int) pa_nil)))
      (pss_one (ps_set (i := 5) scN.nd rfl (Or.inl rfl) (pe_op op_fdiv (pv 5) pe_int)))) pss_nil)))) (pss_one (ps_for PassesOwn.never rfl (pi_range1 rfl T.n_range (pa_cons pe_int pa_nil)) (pg_name (i := 6) scN.nd rfl (Or.inl rfl))
      (pss_cons (ps_set (i := 5) scN.nd rfl (Or.inl rfl) (pe_op op_mod (pe_callTy call_intF rfl T.n_int boot_int (pa_cons (pe_op op_add (pe_op op_add (pe_op op_mul (pv 5) pe_int) (pe_op op_mul pe_int (pe_op op_add (pv 4) (pv 6)))) pe_int) pa_nil)) pe_int))
      (pss_one (ps_expr (pe_bm PySem.F.plainAttrs_list PySem.F.slot_list_append PySem.F.type_list_append mt_append (pv 3) (pa_cons (pe_op op_mod (pe_callTy call_intF rfl T.n_int boot_int (pa_cons (pe_op op_fdiv (pv 5) pe_int) pa_nil)) pe_int) pa_nil))))))))))))
      (pss_one (ps_ret (pv 3)))))
/-! ### _law_draw -/
abbrev s_law_draw : Stmt := topS 48
abbrev N_law_draw : List Str := ["_law_box", "_law_many", "_law_at"]
theorem sc_law_draw : FnScope N_law_draw ["_law_box", "_law_many"] (defScope s_law_draw) := ⟨rfl, rfl, rfl, by decide +kernel, rfl, by decide +kernel, by decide +kernel⟩
def t_law_draw (c : Ct) : TS :=
      (tSeq (tAsg (tOp (rIxL c.K) (tVar 0) (tC (.int 1))) (gName 2))
      (tSeq (tAsg (tOp (rI0 fun i j => .int (i + j)) (tVar 2) (tC (.int 1))) (gSub (tVar 0) (tC (.int 1)) rSetL))
      (tSeq (tIfS (tTest (tOp (rI0 fun i j => .bl (decide (i < j))) (tVar 2) (tCB (rLenF c.K) (tCons (tOp (rIxL c.K) (tVar 0) (tC (.int 0))) tNil)))) (tRet (tOp (rI (fun _ j => 0 < j) fun i j => .int (i % j)) (tCB rIntF (tCons (tOp (rIxL c.K) (tOp (rIxL c.K) (tVar 0) (tC (.int 0))) (tVar 2)) tNil)) (tVar 1))) tNext)
      (tRet (tOp (rI (fun _ j => 0 < j) fun i j => .int (i % j)) (tCB rIntF (tCons (tOp (rI0 fun i j => .int (i + j)) (tOp (rI CMul fun i j => .int (i * j)) (tVar 2) (tC (.int 5))) (tC (.int 1))) tNil)) (tVar 1))))))
theorem p_law_draw (hr : Room 0 (A.deeper (envOfC "_law_draw" (defScope s_law_draw) s.heap.objs.size f cdv))) (T : Top K mg) :
    PSs (cxOf CX0 P w K mg base N_law_draw "_law_draw" (defScope s_law_draw) f cdv A outer s H E).nox (defBody s_law_draw) (t_law_draw (ct P w K tabs ad)) :=
    have scN := sc_law_draw
    (pss_cons (ps_set (i := 2) scN.nd rfl (Or.inl rfl) (pe_ix ix_list (pv 0) pe_int (fun _ _ => rfl)))
      (pss_cons (ps_asg (pe_op op_add (pv 2) pe_int) (pg_sub (pv 0) pe_int set_list))
      (pss_cons (ps_if (pt_cmpR op_lt (pv 2) (pe_callB call_lenF rfl T.n_len boot_len (pa_cons (pe_ix ix_list (pv 0) pe_int (fun _ _ => rfl)) pa_nil)) (nomark _)) (pss_one (ps_ret (pe_op op_mod (pe_callTy call_intF rfl T.n_int boot_int (pa_cons (pe_ix ix_list (pe_ix ix_list (pv 0) pe_int (fun _ _ => rfl)) (pv 2) (fun _ _ => rfl)) pa_nil)) (pv 1)))) pss_nil)
      (pss_one (ps_ret (pe_op op_mod (pe_callTy call_intF rfl T.n_int boot_int (pa_cons (pe_op op_add (pe_op op_mul (pv 2) pe_int) pe_int) pa_nil)) (pv 1)))))))
/-! ### _law_states -/
abbrev s_law_states : Stmt := topS 49
abbrev N_law_states : List Str := ["_law_box", "_law_many", "_law_letters", "_law_out", "_law_i", "_law_k"]
theorem sc_law_states : FnScope N_law_states ["_law_box", "_law_many", "_law_letters"] (defScope s_law_states) := ⟨rfl, rfl, rfl, by decide +kernel, rfl, by decide +kernel, by decide +kernel⟩
def t_law_states (c : Ct) : TS :=
      (tSeq (tAsg (tLst tNil) (gName 3))
      (tSeq (tFor (iRng1 (tCons (tVar 1) tNil)) (gName 4)
      (tDrop (tBM c.K "list" rAppend (tVar 3) (tCons (tLc (iRng1 (tCons (tVar 2) tNil)) (gName 5) tYes (tCall (sp_law_draw c) [] E0 (tCons (tVar 0) (tCons (tVar 1) tNil))) [5]) tNil))))
      (tRet (tVar 3))))
theorem p_law_states (hr : Room 1 (A.deeper (envOfC "_law_states" (defScope s_law_states) s.heap.objs.size f cdv))) (T : Top K mg) (C_law_draw : Cal P w K mg base CX0 1 "_law_draw" ["_law_box", "_law_many"] (sp_law_draw (ct P w K tabs ad))) :
    PSs (cxOf CX0 P w K mg base N_law_states "_law_states" (defScope s_law_states) f cdv A outer s H E).nox (defBody s_law_states) (t_law_states (ct P w K tabs ad)) :=
    have scN := sc_law_states
    (pss_cons (ps_set (i := 3) scN.nd rfl (Or.inl rfl) (pe_lst pa_nil))
      (pss_cons (ps_for PassesOwn.never rfl (pi_range1 rfl T.n_range (pa_cons (pv 1) pa_nil)) (pg_name (i := 4) scN.nd rfl (Or.inl rfl))
      (pss_one (ps_expr (pe_bm PySem.F.plainAttrs_list PySem.F.slot_list_append PySem.F.type_list_append mt_append (pv 3) (pa_cons (pe_lc (own := [("_law_k", 5)]) (g := (gName 5)) rfl scN.nd (pi_range1 rfl T.n_range (pa_cons (pv 2) pa_nil)) (blkOk_by (own := [("_law_k", 5)]) (N := N_law_states) (sc := defScope s_law_states) (by decide +kernel)) (fun _ _ _ _ _ => (pg_name (i := 5) scN.nd rfl (Or.inl rfl))) (fun _ _ _ _ _ => pts_nil) (fun _ _ _ _ _ => (pe_cal C_law_draw (hr.mono (by decide)) rfl pass0 (pa_cons (pv 0) (pa_cons (pv 1) pa_nil))))) pa_nil)))))
      (pss_one (ps_ret (pv 3)))))
/-! ### _law_alphabet -/
abbrev s_law_alphabet : Stmt := topS 51
abbrev N_law_alphabet : List Str := ["_law_box", "_law_many", "_law_letters", "_law_at"]
theorem sc_law_alphabet : FnScope N_law_alphabet ["_law_box", "_law_many"] (defScope s_law_alphabet) := ⟨rfl, rfl, rfl, by decide +kernel, rfl, by decide +kernel, by decide +kernel⟩
def t_law_alphabet (c : Ct) : TS :=
      (tSeq (tAsg (tC (.str "badcezyxwv")) (gName 2))
      (tSeq (tAsg (tCall (sp_law_draw c) [] E0 (tCons (tVar 0) (tCons (tC (.int 5)) tNil))) (gName 3))
      (tRet (tSl rSlS (tVar 2) (tPart (tVar 3)) (tPart (tOp (rI0 fun i j => .int (i + j)) (tVar 3) (tVar 1)))))))
theorem p_law_alphabet (hr : Room 1 (A.deeper (envOfC "_law_alphabet" (defScope s_law_alphabet) s.heap.objs.size f cdv))) (T : Top K mg) (C_law_draw : Cal P w K mg base CX0 1 "_law_draw" ["_law_box", "_law_many"] (sp_law_draw (ct P w K tabs ad))) :
    PSs (cxOf CX0 P w K mg base N_law_alphabet "_law_alphabet" (defScope s_law_alphabet) f cdv A outer s H E).nox (defBody s_law_alphabet) (t_law_alphabet (ct P w K tabs ad)) :=
    have scN := sc_law_alphabet
    (pss_cons (ps_set (i := 2) scN.nd rfl (Or.inl rfl) pe_str)
      (pss_cons (ps_set (i := 3) scN.nd rfl (Or.inl rfl) (pe_cal C_law_draw (hr.mono (by decide)) rfl pass0 (pa_cons (pv 0) (pa_cons pe_int pa_nil))))
      (pss_one (ps_ret (pe_slice sl_str (pv 2) (po_some (pv 3)) (po_some (pe_op op_add (pv 3) (pv 1))))))))
/-! ### _law_made -/
abbrev s_law_made : Stmt := topS 52
abbrev N_law_made : List Str := ["_law_m", "_law_row_here"]
theorem sc_law_made : FnScope N_law_made ["_law_m"] (defScope s_law_made) := ⟨rfl, rfl, rfl, by decide +kernel, rfl, by decide +kernel, by decide +kernel⟩
def t_law_made (c : Ct) : TS :=
      (tRet (tMake c.A.M (sp_Machine c) [] E0 (tCons (tOp (rIxL c.K) (tVar 0) (tC (.int 0))) (tCons (tOp (rIxL c.K) (tVar 0) (tC (.int 1))) (tCons (tLc (iList c.K (tOp (rIxL c.K) (tVar 0) (tC (.int 2)))) (gName 1) tYes (tCB (rLstF c.K) (tCons (tVar 1) tNil)) [1]) (tCons (tLc (iList c.K (tOp (rIxL c.K) (tVar 0) (tC (.int 3)))) (gName 1) tYes (tCB (rLstF c.K) (tCons (tVar 1) tNil)) [1]) (tCons (tLc (iList c.K (tOp (rIxL c.K) (tVar 0) (tC (.int 4)))) (gName 1) tYes (tCB (rLstF c.K) (tCons (tVar 1) tNil)) [1]) tNil)))))))
theorem p_law_made (hr : Room 4 (A.deeper (envOfC "_law_made" (defScope s_law_made) s.heap.objs.size f cdv))) (T : Top K mg) (C_Machine : CalM P w K mg base 3 "Machine" ad.M (sp_Machine (ct P w K tabs ad))) :
    PSs (cxOf CX0 P w K mg base N_law_made "_law_made" (defScope s_law_made) f cdv A outer s H E).nox (defBody s_law_made) (t_law_made (ct P w K tabs ad)) :=
    have scN := sc_law_made
    (pss_one (ps_ret (pe_mkm C_Machine (hr.mono (by decide)) rfl pass0 (pa_cons (pe_ix ix_list (pv 0) pe_int (fun _ _ => rfl)) (pa_cons (pe_ix ix_list (pv 0) pe_int (fun _ _ => rfl)) (pa_cons (pe_lc (own := [("_law_row_here", 1)]) (g := (gName 1)) rfl scN.nd (pi_list (pe_ix ix_list (pv 0) pe_int (fun _ _ => rfl))) (blkOk_by (own := [("_law_row_here", 1)]) (N := N_law_made) (sc := defScope s_law_made) (by decide +kernel)) (fun _ _ _ _ _ => (pg_name (i := 1) scN.nd rfl (Or.inl rfl))) (fun _ _ _ _ _ => pts_nil) (fun _ _ _ _ _ => (pe_callTy call_lstF rfl T.n_list boot_list (pa_cons (pv 1) pa_nil)))) (pa_cons (pe_lc (own := [("_law_row_here", 1)]) (g := (gName 1)) rfl scN.nd (pi_list (pe_ix ix_list (pv 0) pe_int (fun _ _ => rfl))) (blkOk_by (own := [("_law_row_here", 1)]) (N := N_law_made) (sc := defScope s_law_made) (by decide +kernel)) (fun _ _ _ _ _ => (pg_name (i := 1) scN.nd rfl (Or.inl rfl))) (fun _ _ _ _ _ => pts_nil) (fun _ _ _ _ _ => (pe_callTy call_lstF rfl T.n_list boot_list (pa_cons (pv 1) pa_nil)))) (pa_cons (pe_lc (own := [("_law_row_here", 1)]) (g := (gName 1)) rfl scN.nd (pi_list (pe_ix ix_list (pv 0) pe_int (fun _ _ => rfl))) (blkOk_by (own := [("_law_row_here", 1)]) (N := N_law_made) (sc := defScope s_law_made) (by decide +kernel)) (fun _ _ _ _ _ => (pg_name (i := 1) scN.nd rfl (Or.inl rfl))) (fun _ _ _ _ _ => pts_nil) (fun _ _ _ _ _ => (pe_callTy call_lstF rfl T.n_list boot_list (pa_cons (pv 1) pa_nil)))) pa_nil))))))))
/-! ### _law_key -/
abbrev s_law_key : Stmt := topS 53
abbrev N_law_key : List Str := ["_law_alphabet_here", "_law_word", "_law_letter"]
theorem sc_law_key : FnScope N_law_key ["_law_alphabet_here", "_law_word"] (defScope s_law_key) := ⟨rfl, rfl, rfl, by decide +kernel, rfl, by decide +kernel, by decide +kernel⟩
def t_law_key (c : Ct) : TS :=
      (tRet (tTup (tCons (tCB (rLenF c.K) (tCons (tVar 1) tNil)) (tCons (tLc (iStr (tVar 1)) (gName 2) tYes (tM1 rIdxS (tVar 0) (tVar 2)) [2]) tNil))))
theorem p_law_key (hr : Room 0 (A.deeper (envOfC "_law_key" (defScope s_law_key) s.heap.objs.size f cdv))) (T : Top K mg) :
    PSs (cxOf CX0 P w K mg base N_law_key "_law_key" (defScope s_law_key) f cdv A outer s H E).nox (defBody s_law_key) (t_law_key (ct P w K tabs ad)) :=
    have scN := sc_law_key
    (pss_one (ps_ret (pe_tup (pa_cons (pe_callB call_lenF rfl T.n_len boot_len (pa_cons (pv 1) pa_nil)) (pa_cons (pe_lc (own := [("_law_letter", 2)]) (g := (gName 2)) rfl scN.nd (pi_str (pv 1)) (blkOk_by (own := [("_law_letter", 2)]) (N := N_law_key) (sc := defScope s_law_key) (by decide +kernel)) (fun _ _ _ _ _ => (pg_name (i := 2) scN.nd rfl (Or.inl rfl))) (fun _ _ _ _ _ => pts_nil) (fun _ _ _ _ _ => (pe_m1 PySem.F.slot_str_index PySem.F.type_str_index mt_idxS (pv 0) (pv 2)))) pa_nil)))))
/-! ### _law_trim -/
abbrev s_law_trim : Stmt := topS 55
abbrev N_law_trim : List Str := ["_law_m", "_law_lefts", "_law_rights", "_law_left", "_law_to", "_law_i", "_law_right", "_law_j"]
theorem sc_law_trim : FnScope N_law_trim ["_law_m"] (defScope s_law_trim) := ⟨rfl, rfl, rfl, by decide +kernel, rfl, by decide +kernel, by decide +kernel⟩
def t_law_trim (c : Ct) : TS :=
      (tSeq (tAsg (tOp (rIxL c.K) (tCall (sp_law_firsts c) [] E0 (tCons (tVar 0) (tCons (tC (.int 0)) tNil))) (tC (.int 0))) (gName 1))
      (tSeq (tAsg (tOp (rIxL c.K) (tCall (sp_law_firsts c) [] E0 (tCons (tVar 0) (tCons (tC (.int 1)) tNil))) (tC (.int 0))) (gName 2))
      (tSeq (tAsg (tLc (iList c.K (tVar 1)) (gName 5) tYes (tLc (iList c.K (tOp (rIxL c.K) (tOp (rIxL c.K) (tVar 0) (tC (.int 2))) (tVar 5))) (gName 4) tYes (tBM c.K "list" (rIndexD c.K) (tVar 1) (tCons (tVar 4) tNil)) [4]) [5]) (gName 3))
      (tSeq (tAsg (tLc (iList c.K (tVar 2)) (gName 7) tYes (tLc (iList c.K (tOp (rIxL c.K) (tOp (rIxL c.K) (tVar 0) (tC (.int 3))) (tVar 7))) (gName 4) tYes (tBM c.K "list" (rIndexD c.K) (tVar 2) (tCons (tVar 4) tNil)) [4]) [7]) (gName 6))
      (tRet (tLst (tCons (tOp (rIxL c.K) (tVar 0) (tC (.int 0))) (tCons (tOp (rIxL c.K) (tVar 0) (tC (.int 1))) (tCons (tVar 3) (tCons (tVar 6) (tCons (tLc (iList c.K (tVar 1)) (gName 5) tYes (tLc (iList c.K (tVar 2)) (gName 7) tYes (tOp (rIxL c.K) (tOp (rIxL c.K) (tOp (rIxL c.K) (tVar 0) (tC (.int 4))) (tVar 5)) (tVar 7)) [7]) [5]) tNil)))))))))))
theorem p_law_trim (hr : Room 2 (A.deeper (envOfC "_law_trim" (defScope s_law_trim) s.heap.objs.size f cdv))) (T : Top K mg) (C_law_firsts : Cal P w K mg base CX0 2 "_law_firsts" ["_law_m", "_law_side"] (sp_law_firsts (ct P w K tabs ad))) :
    PSs (cxOf CX0 P w K mg base N_law_trim "_law_trim" (defScope s_law_trim) f cdv A outer s H E).nox (defBody s_law_trim) (t_law_trim (ct P w K tabs ad)) :=
    have scN := sc_law_trim
    (pss_cons (ps_set (i := 1) scN.nd rfl (Or.inr rfl) (pe_ix ix_list (pe_cal C_law_firsts (hr.mono (by decide)) rfl pass0 (pa_cons (pv 0) (pa_cons pe_int pa_nil))) pe_int (fun _ _ => rfl)))
      (pss_cons (ps_set (i := 2) scN.nd rfl (Or.inr rfl) (pe_ix ix_list (pe_cal C_law_firsts (hr.mono (by decide)) rfl pass0 (pa_cons (pv 0) (pa_cons pe_int pa_nil))) pe_int (fun _ _ => rfl)))
      (pss_cons (ps_setLc (i := 3) (own := [("_law_i", 5)]) (g := (gName 5)) rfl scN.nd rfl rfl (sw_true rfl rfl rfl (by decide +kernel)) (pi_list (pv 1)) (blkOk_by (own := [("_law_i", 5)]) (N := N_law_trim) (sc := defScope s_law_trim) (by decide +kernel)) (fun _ _ _ _ _ => (pg_name (i := 5) scN.nd rfl (Or.inl rfl))) (fun _ _ _ _ _ => pts_nil) (fun _ _ _ _ _ => (pe_lc (own := [("_law_to", 4)]) (g := (gName 4)) rfl scN.nd (pi_list (pe_ix ix_list (pe_ix ix_list (pv 0) pe_int (fun _ _ => rfl)) (pv 5) (fun _ _ => rfl))) (blkOk_by (own := [("_law_to", 4)]) (N := N_law_trim) rfl) (fun _ _ _ _ _ => (pg_name (i := 4) scN.nd rfl (Or.inl rfl))) (fun _ _ _ _ _ => pts_nil) (fun _ _ _ _ _ => (pe_bm PySem.F.plainAttrs_list PySem.F.slot_list_index PySem.F.type_list_index (mt_indexD (hu65 hr)) (pv 1) (pa_cons (pv 4) pa_nil))))))
      (pss_cons (ps_setLc (i := 6) (own := [("_law_j", 7)]) (g := (gName 7)) rfl scN.nd rfl rfl (sw_true rfl rfl rfl (by decide +kernel)) (pi_list (pv 2)) (blkOk_by (own := [("_law_j", 7)]) (N := N_law_trim) (sc := defScope s_law_trim) (by decide +kernel)) (fun _ _ _ _ _ => (pg_name (i := 7) scN.nd rfl (Or.inl rfl))) (fun _ _ _ _ _ => pts_nil) (fun _ _ _ _ _ => (pe_lc (own := [("_law_to", 4)]) (g := (gName 4)) rfl scN.nd (pi_list (pe_ix ix_list (pe_ix ix_list (pv 0) pe_int (fun _ _ => rfl)) (pv 7) (fun _ _ => rfl))) (blkOk_by (own := [("_law_to", 4)]) (N := N_law_trim) rfl) (fun _ _ _ _ _ => (pg_name (i := 4) scN.nd rfl (Or.inl rfl))) (fun _ _ _ _ _ => pts_nil) (fun _ _ _ _ _ => (pe_bm PySem.F.plainAttrs_list PySem.F.slot_list_index PySem.F.type_list_index (mt_indexD (hu65 hr)) (pv 2) (pa_cons (pv 4) pa_nil))))))
      (pss_one (ps_ret (pe_lst (pa_cons (pe_ix ix_list (pv 0) pe_int (fun _ _ => rfl)) (pa_cons (pe_ix ix_list (pv 0) pe_int (fun _ _ => rfl)) (pa_cons (pv 3) (pa_cons (pv 6) (pa_cons (pe_lc (own := [("_law_i", 5)]) (g := (gName 5)) rfl scN.nd (pi_list (pv 1)) (blkOk_by (own := [("_law_i", 5)]) (N := N_law_trim) (sc := defScope s_law_trim) (by decide +kernel)) (fun _ _ _ _ _ => (pg_name (i := 5) scN.nd rfl (Or.inr rfl))) (fun _ _ _ _ _ => pts_nil) (fun _ _ _ _ _ => (pe_lc (own := [("_law_j", 7)]) (g := (gName 7)) rfl scN.nd (pi_list (pv 2)) (blkOk_by (own := [("_law_j", 7)]) (N := N_law_trim) rfl) (fun _ _ _ _ _ => (pg_name (i := 7) scN.nd rfl (Or.inl rfl))) (fun _ _ _ _ _ => pts_nil) (fun _ _ _ _ _ => (pe_ix ix_list (pe_ix ix_list (pe_ix ix_list (pv 0) pe_int (fun _ _ => rfl)) (pv 5) (fun _ _ => rfl)) (pv 7) (fun _ _ => rfl)))))) pa_nil))))))))))))
/-! ### _law_classes -/
abbrev s_law_classes : Stmt := topS 56
abbrev N_law_classes : List Str := ["_law_states_here", "_law_rows", "_law_marks", "_law_row_here", "_law_turn", "_law_full", "_law_to", "_law_i"]
theorem sc_law_classes : FnScope N_law_classes ["_law_states_here", "_law_rows"] (defScope s_law_classes) := ⟨rfl, rfl, rfl, by decide +kernel, rfl, by decide +kernel, by decide +kernel⟩
def t_law_classes (c : Ct) : TS :=
      (tSeq (tAsg (tLc (iList c.K (tVar 1)) (gName 3) tYes (tBM c.K "list" (rIndexD c.K) (tVar 1) (tCons (tVar 3) tNil)) [3]) (gName 2))
      (tSeq (tFor (iRng1 (tCons (tOp (rI0 fun i j => .int (i + j)) (tCB (rLenF c.K) (tCons (tVar 0) tNil)) (tC (.int 1))) tNil)) (gName 4)
      (tSeq (tAsg (tLc (iRng1 (tCons (tCB (rLenF c.K) (tCons (tVar 0) tNil)) tNil)) (gName 7) tYes (tOp rCat (tLst (tCons (tOp (rIxL c.K) (tVar 2) (tVar 7)) tNil)) (tLc (iList c.K (tOp (rIxL c.K) (tVar 0) (tVar 7))) (gName 6) tYes (tOp (rIxL c.K) (tVar 2) (tVar 6)) [6])) [7]) (gName 5))
      (tAsg (tLc (iList c.K (tVar 5)) (gName 3) tYes (tBM c.K "list" (rIndexD c.K) (tVar 5) (tCons (tVar 3) tNil)) [3]) (gName 2))))
      (tRet (tVar 2))))
theorem p_law_classes (hr : Room 0 (A.deeper (envOfC "_law_classes" (defScope s_law_classes) s.heap.objs.size f cdv))) (T : Top K mg) :
    PSs (cxOf CX0 P w K mg base N_law_classes "_law_classes" (defScope s_law_classes) f cdv A outer s H E).nox (defBody s_law_classes) (t_law_classes (ct P w K tabs ad)) :=
    have scN := sc_law_classes
    (pss_cons (ps_set (i := 2) scN.nd rfl (Or.inr rfl) (pe_lc (own := [("_law_row_here", 3)]) (g := (gName 3)) rfl scN.nd (pi_list (pv 1)) (blkOk_by (own := [("_law_row_here", 3)]) (N := N_law_classes) (sc := defScope s_law_classes) (by decide +kernel)) (fun _ _ _ _ _ => (pg_name (i := 3) scN.nd rfl (Or.inl rfl))) (fun _ _ _ _ _ => pts_nil) (fun _ _ _ _ _ => (pe_bm PySem.F.plainAttrs_list PySem.F.slot_list_index PySem.F.type_list_index (mt_indexD (hu65 hr)) (pv 1) (pa_cons (pv 3) pa_nil)))))
      (pss_cons (ps_for PassesOwn.never rfl (pi_range1 rfl T.n_range (pa_cons (pe_op op_add (pe_callB call_lenF rfl T.n_len boot_len (pa_cons (pv 0) pa_nil)) pe_int) pa_nil)) (pg_name (i := 4) scN.nd rfl (Or.inl rfl))
      (pss_cons (ps_set (i := 5) scN.nd rfl (Or.inr rfl) (pe_lc (own := [("_law_i", 7)]) (g := (gName 7)) rfl scN.nd (pi_range1 rfl T.n_range (pa_cons (pe_callB call_lenF rfl T.n_len boot_len (pa_cons (pv 0) pa_nil)) pa_nil)) (blkOk_by (own := [("_law_i", 7)]) (N := N_law_classes) (sc := defScope s_law_classes) (by decide +kernel)) (fun _ _ _ _ _ => (pg_name (i := 7) scN.nd rfl (Or.inl rfl))) (fun _ _ _ _ _ => pts_nil) (fun _ _ _ _ _ => (pe_op op_cat (pe_lst (pa_cons (pe_ix ix_list (pv 2) (pv 7) (fun _ _ => rfl)) pa_nil)) (pe_lc (own := [("_law_to", 6)]) (g := (gName 6)) rfl scN.nd (pi_list (pe_ix ix_list (pv 0) (pv 7) (fun _ _ => rfl))) (blkOk_by (own := [("_law_to", 6)]) (N := N_law_classes) rfl) (fun _ _ _ _ _ => (pg_name (i := 6) scN.nd rfl (Or.inl rfl))) (fun _ _ _ _ _ => pts_nil) (fun _ _ _ _ _ => (pe_ix ix_list (pv 2) (pv 6) (fun _ _ => rfl))))))))
      (pss_one (ps_set (i := 2) scN.nd rfl (Or.inr rfl) (pe_lc (own := [("_law_row_here", 3)]) (g := (gName 3)) rfl scN.nd (pi_list (pv 5)) (blkOk_by (own := [("_law_row_here", 3)]) (N := N_law_classes) (sc := defScope s_law_classes) (by decide +kernel)) (fun _ _ _ _ _ => (pg_name (i := 3) scN.nd rfl (Or.inl rfl))) (fun _ _ _ _ _ => pts_nil) (fun _ _ _ _ _ => (pe_bm PySem.F.plainAttrs_list PySem.F.slot_list_index PySem.F.type_list_index (mt_indexD (hu65 hr)) (pv 5) (pa_cons (pv 3) pa_nil))))))))
      (pss_one (ps_ret (pv 2)))))
/-! ### _law_least -/
abbrev s_law_least : Stmt := topS 57
abbrev N_law_least : List Str := ["_law_m", "_law_t", "_law_columns", "_law_i", "_law_j", "_law_lefts", "_law_rights", "_law_keep", "_law_stay", "_law_left", "_law_to", "_law_right"]
theorem sc_law_least : FnScope N_law_least ["_law_m"] (defScope s_law_least) := ⟨rfl, rfl, rfl, by decide +kernel, rfl, by decide +kernel, by decide +kernel⟩
def t_law_least (c : Ct) : TS :=
      (tSeq (tAsg (tCall (sp_law_trim c) [] E0 (tCons (tVar 0) tNil)) (gName 1))
      (tSeq (tAsg (tLc (iRng1 (tCons (tCB (rLenF c.K) (tCons (tOp (rIxL c.K) (tVar 1) (tC (.int 3))) tNil)) tNil)) (gName 4) tYes (tLc (iRng1 (tCons (tCB (rLenF c.K) (tCons (tOp (rIxL c.K) (tVar 1) (tC (.int 2))) tNil)) tNil)) (gName 3) tYes (tOp (rIxL c.K) (tOp (rIxL c.K) (tOp (rIxL c.K) (tVar 1) (tC (.int 4))) (tVar 3)) (tVar 4)) [3]) [4]) (gName 2))
      (tSeq (tAsg (tCall (sp_law_classes c) [] E0 (tCons (tOp (rIxL c.K) (tVar 1) (tC (.int 2))) (tCons (tOp (rIxL c.K) (tVar 1) (tC (.int 4))) tNil))) (gName 5))
      (tSeq (tAsg (tCall (sp_law_classes c) [] E0 (tCons (tOp (rIxL c.K) (tVar 1) (tC (.int 3))) (tCons (tVar 2) tNil))) (gName 6))
      (tSeq (tAsg (tLc (iRng1 (tCons (tCB (rLenF c.K) (tCons (tVar 5) tNil)) tNil)) (gName 3) (tTest (tOp rEq (tOp (rIxL c.K) (tVar 5) (tVar 3)) (tVar 3))) (tVar 3) [3]) (gName 7))
      (tSeq (tAsg (tLc (iRng1 (tCons (tCB (rLenF c.K) (tCons (tVar 6) tNil)) tNil)) (gName 4) (tTest (tOp rEq (tOp (rIxL c.K) (tVar 6) (tVar 4)) (tVar 4))) (tVar 4) [4]) (gName 8))
      (tSeq (tAsg (tLc (iList c.K (tVar 7)) (gName 3) tYes (tLc (iList c.K (tOp (rIxL c.K) (tOp (rIxL c.K) (tVar 1) (tC (.int 2))) (tVar 3))) (gName 10) tYes (tBM c.K "list" (rIndexD c.K) (tVar 7) (tCons (tOp (rIxL c.K) (tVar 5) (tVar 10)) tNil)) [10]) [3]) (gName 9))
      (tSeq (tAsg (tLc (iList c.K (tVar 8)) (gName 4) tYes (tLc (iList c.K (tOp (rIxL c.K) (tOp (rIxL c.K) (tVar 1) (tC (.int 3))) (tVar 4))) (gName 10) tYes (tBM c.K "list" (rIndexD c.K) (tVar 8) (tCons (tOp (rIxL c.K) (tVar 6) (tVar 10)) tNil)) [10]) [4]) (gName 11))
      (tRet (tLst (tCons (tOp (rIxL c.K) (tVar 0) (tC (.int 0))) (tCons (tOp (rIxL c.K) (tVar 0) (tC (.int 1))) (tCons (tVar 9) (tCons (tVar 11) (tCons (tLc (iList c.K (tVar 7)) (gName 3) tYes (tLc (iList c.K (tVar 8)) (gName 4) tYes (tOp (rIxL c.K) (tOp (rIxL c.K) (tOp (rIxL c.K) (tVar 1) (tC (.int 4))) (tVar 3)) (tVar 4)) [4]) [3]) tNil)))))))))))))))
theorem p_law_least (hr : Room 3 (A.deeper (envOfC "_law_least" (defScope s_law_least) s.heap.objs.size f cdv))) (T : Top K mg) (C_law_trim : Cal P w K mg base CX0 3 "_law_trim" ["_law_m"] (sp_law_trim (ct P w K tabs ad))) (C_law_classes : Cal P w K mg base CX0 1 "_law_classes" ["_law_states_here", "_law_rows"] (sp_law_classes (ct P w K tabs ad))) :
    PSs (cxOf CX0 P w K mg base N_law_least "_law_least" (defScope s_law_least) f cdv A outer s H E).nox (defBody s_law_least) (t_law_least (ct P w K tabs ad)) :=
    have scN := sc_law_least
    (pss_cons (ps_set (i := 1) scN.nd rfl (Or.inr rfl) (pe_cal C_law_trim (hr.mono (by decide)) rfl pass0 (pa_cons (pv 0) pa_nil)))
      (pss_cons (ps_setLc (i := 2) (own := [("_law_j", 4)]) (g := (gName 4)) rfl scN.nd rfl rfl (sw_true rfl rfl rfl (by decide +kernel)) (pi_range1 rfl T.n_range (pa_cons (pe_callB call_lenF rfl T.n_len boot_len (pa_cons (pe_ix ix_list (pv 1) pe_int (fun _ _ => rfl)) pa_nil)) pa_nil)) (blkOk_by (own := [("_law_j", 4)]) (N := N_law_least) (sc := defScope s_law_least) (by decide +kernel)) (fun _ _ _ _ _ => (pg_name (i := 4) scN.nd rfl (Or.inr rfl))) (fun _ _ _ _ _ => pts_nil) (fun _ _ _ _ _ => (pe_lc (own := [("_law_i", 3)]) (g := (gName 3)) rfl scN.nd (pi_range1 rfl T.n_range (pa_cons (pe_callB call_lenF rfl T.n_len boot_len (pa_cons (pe_ix ix_list (pv 1) pe_int (fun _ _ => rfl)) pa_nil)) pa_nil)) (blkOk_by (own := [("_law_i", 3)]) (N := N_law_least) rfl) (fun _ _ _ _ _ => (pg_name (i := 3) scN.nd rfl (Or.inl rfl))) (fun _ _ _ _ _ => pts_nil) (fun _ _ _ _ _ => (pe_ix ix_list (pe_ix ix_list (pe_ix ix_list (pv 1) pe_int (fun _ _ => rfl)) (pv 3) (fun _ _ => rfl)) (pv 4) (fun _ _ => rfl))))))
      (pss_cons (ps_set (i := 5) scN.nd rfl (Or.inr rfl) (pe_cal C_law_classes (hr.mono (by decide)) rfl pass0 (pa_cons (pe_ix ix_list (pv 1) pe_int (fun _ _ => rfl)) (pa_cons (pe_ix ix_list (pv 1) pe_int (fun _ _ => rfl)) pa_nil))))
      (pss_cons (ps_set (i := 6) scN.nd rfl (Or.inr rfl) (pe_cal C_law_classes (hr.mono (by decide)) rfl pass0 (pa_cons (pe_ix ix_list (pv 1) pe_int (fun _ _ => rfl)) (pa_cons (pv 2) pa_nil))))
      (pss_cons (ps_set (i := 7) scN.nd rfl (Or.inr rfl) (pe_lc (own := [("_law_i", 3)]) (g := (gName 3)) rfl scN.nd (pi_range1 rfl T.n_range (pa_cons (pe_callB call_lenF rfl T.n_len boot_len (pa_cons (pv 5) pa_nil)) pa_nil)) (blkOk_by (own := [("_law_i", 3)]) (N := N_law_least) (sc := defScope s_law_least) (by decide +kernel)) (fun _ _ _ _ _ => (pg_name (i := 3) scN.nd rfl (Or.inl rfl))) (fun _ _ _ _ _ => pts_one (pt_cmpR op_eq (pe_ix ix_list (pv 5) (pv 3) (fun _ _ => rfl)) (pv 3) (nomark _))) (fun _ _ _ _ _ => (pv 3))))
      (pss_cons (ps_set (i := 8) scN.nd rfl (Or.inr rfl) (pe_lc (own := [("_law_j", 4)]) (g := (gName 4)) rfl scN.nd (pi_range1 rfl T.n_range (pa_cons (pe_callB call_lenF rfl T.n_len boot_len (pa_cons (pv 6) pa_nil)) pa_nil)) (blkOk_by (own := [("_law_j", 4)]) (N := N_law_least) (sc := defScope s_law_least) (by decide +kernel)) (fun _ _ _ _ _ => (pg_name (i := 4) scN.nd rfl (Or.inl rfl))) (fun _ _ _ _ _ => pts_one (pt_cmpR op_eq (pe_ix ix_list (pv 6) (pv 4) (fun _ _ => rfl)) (pv 4) (nomark _))) (fun _ _ _ _ _ => (pv 4))))
      (pss_cons (ps_setLc (i := 9) (own := [("_law_i", 3)]) (g := (gName 3)) rfl scN.nd rfl rfl (sw_true rfl rfl rfl (by decide +kernel)) (pi_list (pv 7)) (blkOk_by (own := [("_law_i", 3)]) (N := N_law_least) (sc := defScope s_law_least) (by decide +kernel)) (fun _ _ _ _ _ => (pg_name (i := 3) scN.nd rfl (Or.inl rfl))) (fun _ _ _ _ _ => pts_nil) (fun _ _ _ _ _ => (pe_lc (own := [("_law_to", 10)]) (g := (gName 10)) rfl scN.nd (pi_list (pe_ix ix_list (pe_ix ix_list (pv 1) pe_int (fun _ _ => rfl)) (pv 3) (fun _ _ => rfl))) (blkOk_by (own := [("_law_to", 10)]) (N := N_law_least) rfl) (fun _ _ _ _ _ => (pg_name (i := 10) scN.nd rfl (Or.inl rfl))) (fun _ _ _ _ _ => pts_nil) (fun _ _ _ _ _ => (pe_bm PySem.F.plainAttrs_list PySem.F.slot_list_index PySem.F.type_list_index (mt_indexD (hu65 hr)) (pv 7) (pa_cons (pe_ix ix_list (pv 5) (pv 10) (fun _ _ => rfl)) pa_nil))))))
      (pss_cons (ps_setLc (i := 11) (own := [("_law_j", 4)]) (g := (gName 4)) rfl scN.nd rfl rfl (sw_true rfl rfl rfl (by decide +kernel)) (pi_list (pv 8)) (blkOk_by (own := [("_law_j", 4)]) (N := N_law_least) (sc := defScope s_law_least) (by decide +kernel)) (fun _ _ _ _ _ => (pg_name (i := 4) scN.nd rfl (Or.inl rfl))) (fun _ _ _ _ _ => pts_nil) (fun _ _ _ _ _ => (pe_lc (own := [("_law_to", 10)]) (g := (gName 10)) rfl scN.nd (pi_list (pe_ix ix_list (pe_ix ix_list (pv 1) pe_int (fun _ _ => rfl)) (pv 4) (fun _ _ => rfl))) (blkOk_by (own := [("_law_to", 10)]) (N := N_law_least) rfl) (fun _ _ _ _ _ => (pg_name (i := 10) scN.nd rfl (Or.inl rfl))) (fun _ _ _ _ _ => pts_nil) (fun _ _ _ _ _ => (pe_bm PySem.F.plainAttrs_list PySem.F.slot_list_index PySem.F.type_list_index (mt_indexD (hu65 hr)) (pv 8) (pa_cons (pe_ix ix_list (pv 6) (pv 10) (fun _ _ => rfl)) pa_nil))))))
      (pss_one (ps_ret (pe_lst (pa_cons (pe_ix ix_list (pv 0) pe_int (fun _ _ => rfl)) (pa_cons (pe_ix ix_list (pv 0) pe_int (fun _ _ => rfl)) (pa_cons (pv 9) (pa_cons (pv 11) (pa_cons (pe_lc (own := [("_law_i", 3)]) (g := (gName 3)) rfl scN.nd (pi_list (pv 7)) (blkOk_by (own := [("_law_i", 3)]) (N := N_law_least) (sc := defScope s_law_least) (by decide +kernel)) (fun _ _ _ _ _ => (pg_name (i := 3) scN.nd rfl (Or.inr rfl))) (fun _ _ _ _ _ => pts_nil) (fun _ _ _ _ _ => (pe_lc (own := [("_law_j", 4)]) (g := (gName 4)) rfl scN.nd (pi_list (pv 8)) (blkOk_by (own := [("_law_j", 4)]) (N := N_law_least) rfl) (fun _ _ _ _ _ => (pg_name (i := 4) scN.nd rfl (Or.inl rfl))) (fun _ _ _ _ _ => pts_nil) (fun _ _ _ _ _ => (pe_ix ix_list (pe_ix ix_list (pe_ix ix_list (pv 1) pe_int (fun _ _ => rfl)) (pv 3) (fun _ _ => rfl)) (pv 4) (fun _ _ => rfl)))))) pa_nil))))))))))))))))
/-! ### _law_composed -/
abbrev s_law_composed : Stmt := topS 59
abbrev N_law_composed : List Str := ["_law_first", "_law_second", "_law_one", "_law_two", "_law_lefts", "_law_rights", "_law_table", "_law_p", "_law_line", "_law_q", "_law_text", "_law_k", "_law_letter", "_law_a", "_law_b", "_law_told_here"]
theorem sc_law_composed : FnScope N_law_composed ["_law_first", "_law_second"] (defScope s_law_composed) := ⟨rfl, rfl, rfl, by decide +kernel, rfl, by decide +kernel, by decide +kernel⟩
def t_law_composed (c : Ct) : TS :=
      (tSeq (tAsg (tCall (sp_law_least c) [] E0 (tCons (tVar 0) tNil)) (gName 2))
      (tSeq (tAsg (tCall (sp_law_least c) [] E0 (tCons (tVar 1) tNil)) (gName 3))
      (tSeq (tAsg (tCall (sp_law_grown c) [] E0 (tCons (tVar 2) (tCons (tVar 3) (tCons (tC (.int 0)) tNil)))) (gName 4))
      (tSeq (tAsg (tCall (sp_law_grown c) [] E0 (tCons (tVar 2) (tCons (tVar 3) (tCons (tC (.int 1)) tNil)))) (gName 5))
      (tSeq (tIfS (tOr (tTest (tOp (rI0 fun i j => .bl (decide (j < i))) (tCB (rLenF c.K) (tCons (tOp (rIxL c.K) (tVar 4) (tC (.int 0))) tNil)) (tC (.int 100)))) (tTest (tOp (rI0 fun i j => .bl (decide (j < i))) (tCB (rLenF c.K) (tCons (tOp (rIxL c.K) (tVar 5) (tC (.int 0))) tNil)) (tC (.int 100))))) (tRet (tC .non)) tNext)
      (tSeq (tAsg (tLst tNil) (gName 6))
      (tSeq (tFor (iList c.K (tOp (rIxL c.K) (tVar 4) (tC (.int 0)))) (gName 7)
      (tSeq (tAsg (tLst tNil) (gName 8))
      (tSeq (tFor (iList c.K (tOp (rIxL c.K) (tVar 5) (tC (.int 0)))) (gName 9)
      (tSeq (tAsg (tC (.str "")) (gName 10))
      (tSeq (tFor (iRng1 (tCons (tCB (rLenF c.K) (tCons (tOp (rIxL c.K) (tVar 2) (tC (.int 0))) tNil)) tNil)) (gName 11)
      (tSeq (tAsg (tOp rIxS (tOp (rIxL c.K) (tOp (rIxL c.K) (tOp (rIxL c.K) (tVar 2) (tC (.int 4))) (tOp (rIxT c.K) (tVar 7) (tC (.int 0)))) (tOp (rIxT c.K) (tVar 9) (tC (.int 0)))) (tVar 11)) (gName 12))
      (tSeq (tAsg (tOp (rIxT c.K) (tVar 7) (tOp (rI0 fun i j => .int (i + j)) (tC (.int 1)) (tOp (rIxL c.K) (tOp (rIxL c.K) (tOp (rIxL c.K) (tVar 2) (tC (.int 3))) (tOp (rIxT c.K) (tVar 9) (tC (.int 0)))) (tVar 11)))) (gName 13))
      (tSeq (tAsg (tOp (rIxT c.K) (tVar 9) (tOp (rI0 fun i j => .int (i + j)) (tC (.int 1)) (tOp (rIxL c.K) (tOp (rIxL c.K) (tOp (rIxL c.K) (tVar 2) (tC (.int 2))) (tOp (rIxT c.K) (tVar 7) (tC (.int 0)))) (tVar 11)))) (gName 14))
      (tAsg (tOp rAddT (tVar 10) (tOp rIxS (tOp (rIxL c.K) (tOp (rIxL c.K) (tOp (rIxL c.K) (tVar 3) (tC (.int 4))) (tVar 13)) (tVar 14)) (tM1 rIdxS (tOp (rIxL c.K) (tVar 3) (tC (.int 0))) (tVar 12)))) (gName 10))))))
      (tDrop (tBM c.K "list" rAppend (tVar 8) (tCons (tVar 10) tNil))))))
      (tDrop (tBM c.K "list" rAppend (tVar 6) (tCons (tVar 8) tNil))))))
      (tSeq (tAsg (tCall (sp_law_least c) [] E0 (tCons (tLst (tCons (tOp (rIxL c.K) (tVar 2) (tC (.int 0))) (tCons (tOp (rIxL c.K) (tVar 3) (tC (.int 1))) (tCons (tOp (rIxL c.K) (tVar 4) (tC (.int 1))) (tCons (tOp (rIxL c.K) (tVar 5) (tC (.int 1))) (tCons (tVar 6) tNil)))))) tNil)) (gName 15))
      (tSeq (tIfS (tOr (tTest (tOp (rI0 fun i j => .bl (decide (j < i))) (tCB (rLenF c.K) (tCons (tOp (rIxL c.K) (tVar 15) (tC (.int 2))) tNil)) (tC (.int 40)))) (tTest (tOp (rI0 fun i j => .bl (decide (j < i))) (tCB (rLenF c.K) (tCons (tOp (rIxL c.K) (tVar 15) (tC (.int 3))) tNil)) (tC (.int 40))))) (tRet (tC .non)) tNext)
      (tRet (tVar 15)))))))))))
theorem p_law_composed (hr : Room 4 (A.deeper (envOfC "_law_composed" (defScope s_law_composed) s.heap.objs.size f cdv))) (T : Top K mg) (C_law_least : Cal P w K mg base CX0 4 "_law_least" ["_law_m"] (sp_law_least (ct P w K tabs ad))) (C_law_grown : Cal P w K mg base CX0 1 "_law_grown" ["_law_one", "_law_two", "_law_side"] (sp_law_grown (ct P w K tabs ad))) :
    PSs (cxOf CX0 P w K mg base N_law_composed "_law_composed" (defScope s_law_composed) f cdv A outer s H E).nox (defBody s_law_composed) (t_law_composed (ct P w K tabs ad)) :=
    have scN := sc_law_composed
    (pss_cons (ps_set (i := 2) scN.nd rfl (Or.inl rfl) (pe_cal C_law_least (hr.mono (by decide)) rfl pass0 (pa_cons (pv 0) pa_nil)))
      (pss_cons (ps_set (i := 3) scN.nd rfl (Or.inl rfl) (pe_cal C_law_least (hr.mono (by decide)) rfl pass0 (pa_cons (pv 1) pa_nil)))
      (pss_cons (ps_set (i := 4) scN.nd rfl (Or.inl rfl) (pe_cal C_law_grown (hr.mono (by decide)) rfl pass0 (pa_cons (pv 2) (pa_cons (pv 3) (pa_cons pe_int pa_nil)))))
      (pss_cons (ps_set (i := 5) scN.nd rfl (Or.inl rfl) (pe_cal C_law_grown (hr.mono (by decide)) rfl pass0 (pa_cons (pv 2) (pa_cons (pv 3) (pa_cons pe_int pa_nil)))))
      (pss_cons (ps_if (PW.pt (pw_or (pt_cmpR op_gt (pe_callB call_lenF rfl T.n_len boot_len (pa_cons (pe_ix ix_list (pv 4) pe_int (fun _ _ => rfl)) pa_nil)) pe_int (nomark _)) (pw_or1 (pt_cmpR op_gt (pe_callB call_lenF rfl T.n_len boot_len (pa_cons (pe_ix ix_list (pv 5) pe_int (fun _ _ => rfl)) pa_nil)) pe_int (nomark _))))) (pss_one (ps_ret pe_non)) pss_nil)
      (pss_cons (ps_set (i := 6) scN.nd rfl (Or.inl rfl) (pe_lst pa_nil))
      (pss_cons (ps_for PassesOwn.never rfl (pi_list (pe_ix ix_list (pv 4) pe_int (fun _ _ => rfl))) (pg_name (i := 7) scN.nd rfl (Or.inl rfl))
      (pss_cons (ps_set (i := 8) scN.nd rfl (Or.inl rfl) (pe_lst pa_nil))
      (pss_cons (ps_for PassesOwn.never rfl (pi_list (pe_ix ix_list (pv 5) pe_int (fun _ _ => rfl))) (pg_name (i := 9) scN.nd rfl (Or.inl rfl))
      (pss_cons (ps_set (i := 10) scN.nd rfl (Or.inl rfl) pe_str)
      (pss_cons (ps_for PassesOwn.never rfl (pi_range1 rfl T.n_range (pa_cons (pe_callB call_lenF rfl T.n_len boot_len (pa_cons (pe_ix ix_list (pv 2) pe_int (fun _ _ => rfl)) pa_nil)) pa_nil)) (pg_name (i := 11) scN.nd rfl (Or.inl rfl))
      (pss_cons (ps_set (i := 12) scN.nd rfl (Or.inl rfl) (pe_ix ix_str (pe_ix ix_list (pe_ix ix_list (pe_ix ix_list (pv 2) pe_int (fun _ _ => rfl)) (pe_ix ix_tup (pv 7) pe_int (fun _ _ => rfl)) (fun _ _ => rfl)) (pe_ix ix_tup (pv 9) pe_int (fun _ _ => rfl)) (fun _ _ => rfl)) (pv 11) (fun _ _ => rfl)))
      (pss_cons (ps_set (i := 13) scN.nd rfl (Or.inl rfl) (pe_ix ix_tup (pv 7) (pe_op op_add pe_int (pe_ix ix_list (pe_ix ix_list (pe_ix ix_list (pv 2) pe_int (fun _ _ => rfl)) (pe_ix ix_tup (pv 9) pe_int (fun _ _ => rfl)) (fun _ _ => rfl)) (pv 11) (fun _ _ => rfl))) (fun _ _ => rfl)))
      (pss_cons (ps_set (i := 14) scN.nd rfl (Or.inl rfl) (pe_ix ix_tup (pv 9) (pe_op op_add pe_int (pe_ix ix_list (pe_ix ix_list (pe_ix ix_list (pv 2) pe_int (fun _ _ => rfl)) (pe_ix ix_tup (pv 7) pe_int (fun _ _ => rfl)) (fun _ _ => rfl)) (pv 11) (fun _ _ => rfl))) (fun _ _ => rfl)))
      (pss_one (ps_set (i := 10) scN.nd rfl (Or.inl rfl) (pe_op op_addT (pv 10) (pe_ix ix_str (pe_ix ix_list (pe_ix ix_list (pe_ix ix_list (pv 3) pe_int (fun _ _ => rfl)) (pv 13) (fun _ _ => rfl)) (pv 14) (fun _ _ => rfl)) (pe_m1 PySem.F.slot_str_index PySem.F.type_str_index mt_idxS (pe_ix ix_list (pv 3) pe_int (fun _ _ => rfl)) (pv 12)) (fun _ _ => rfl)))))))))
      (pss_one (ps_expr (pe_bm PySem.F.plainAttrs_list PySem.F.slot_list_append PySem.F.type_list_append mt_append (pv 8) (pa_cons (pv 10) pa_nil)))))))
      (pss_one (ps_expr (pe_bm PySem.F.plainAttrs_list PySem.F.slot_list_append PySem.F.type_list_append mt_append (pv 6) (pa_cons (pv 8) pa_nil)))))))
      (pss_cons (ps_set (i := 15) scN.nd rfl (Or.inl rfl) (pe_cal C_law_least (hr.mono (by decide)) rfl pass0 (pa_cons (pe_lst (pa_cons (pe_ix ix_list (pv 2) pe_int (fun _ _ => rfl)) (pa_cons (pe_ix ix_list (pv 3) pe_int (fun _ _ => rfl)) (pa_cons (pe_ix ix_list (pv 4) pe_int (fun _ _ => rfl)) (pa_cons (pe_ix ix_list (pv 5) pe_int (fun _ _ => rfl)) (pa_cons (pv 6) pa_nil)))))) pa_nil)))
      (pss_cons (ps_if (PW.pt (pw_or (pt_cmpR op_gt (pe_callB call_lenF rfl T.n_len boot_len (pa_cons (pe_ix ix_list (pv 15) pe_int (fun _ _ => rfl)) pa_nil)) pe_int (nomark _)) (pw_or1 (pt_cmpR op_gt (pe_callB call_lenF rfl T.n_len boot_len (pa_cons (pe_ix ix_list (pv 15) pe_int (fun _ _ => rfl)) pa_nil)) pe_int (nomark _))))) (pss_one (ps_ret pe_non)) pss_nil)
      (pss_one (ps_ret (pv 15))))))))))))
/-! ### _law_fit -/
abbrev s_law_fit : Stmt := topS 60
abbrev N_law_fit : List Str := ["_law_box", "_law_alphabet_here", "_law_most"]
theorem sc_law_fit : FnScope N_law_fit ["_law_box", "_law_alphabet_here", "_law_most"] (defScope s_law_fit) := ⟨rfl, rfl, rfl, by decide +kernel, rfl, by decide +kernel, by decide +kernel⟩
def t_law_fit (c : Ct) : TS :=
      (tRet (tCall (sp_law_machine c) [] E0 (tCons (tVar 0) (tCons (tVar 1) (tCons (tVar 1) (tCons (tVar 2) tNil))))))
theorem p_law_fit (hr : Room 3 (A.deeper (envOfC "_law_fit" (defScope s_law_fit) s.heap.objs.size f cdv))) (T : Top K mg) (C_law_machine : Cal P w K mg base CX0 3 "_law_machine" ["_law_box", "_law_ins", "_law_outs", "_law_most"] (sp_law_machine (ct P w K tabs ad))) :
    PSs (cxOf CX0 P w K mg base N_law_fit "_law_fit" (defScope s_law_fit) f cdv A outer s H E).nox (defBody s_law_fit) (t_law_fit (ct P w K tabs ad)) :=
    have scN := sc_law_fit
    (pss_one (ps_ret (pe_cal C_law_machine (hr.mono (by decide)) rfl pass0 (pa_cons (pv 0) (pa_cons (pv 1) (pa_cons (pv 1) (pa_cons (pv 2) pa_nil)))))))
/-! ### _law_whole -/
abbrev s_law_whole : Stmt := topS 61
abbrev N_law_whole : List Str := ["_law_alphabet_here", "_law_rows", "_law_letter", "_law_whole_here", "_law_m"]
theorem sc_law_whole : FnScope N_law_whole ["_law_alphabet_here", "_law_rows"] (defScope s_law_whole) := ⟨rfl, rfl, rfl, by decide +kernel, rfl, by decide +kernel, by decide +kernel⟩
def t_law_whole (c : Ct) : TS :=
      (tSeq (tIfS (tTest (tOp rEq (tCB (rLenF c.K) (tCons (tVar 1) tNil)) (tC (.int 0)))) (tRet (tLst (tCons (tVar 0) (tCons (tVar 0) (tCons (tLst (tCons (tLc (iStr (tVar 0)) (gName 2) tYes (tC (.int 0)) [2]) tNil)) (tCons (tLst (tCons (tLc (iStr (tVar 0)) (gName 2) tYes (tC (.int 0)) [2]) tNil)) (tCons (tLst (tCons (tLst (tCons (tVar 0) tNil)) tNil)) tNil))))))) tNext)
      (tSeq (tAsg (tCall (sp_law_least c) [] E0 (tCons (tOp (rIxL c.K) (tVar 1) (tC (.int 0))) tNil)) (gName 3))
      (tSeq (tFor (iList c.K (tSl (rSlL c.K) (tVar 1) (tPart (tC (.int 1))) tNoPart)) (gName 4)
      (tIfS (tTest (tOp rNotNn (tVar 3) (tC .non))) (tAsg (tCall (sp_law_composed c) [] E0 (tCons (tVar 3) (tCons (tVar 4) tNil))) (gName 3)) tNext))
      (tRet (tVar 3)))))
theorem p_law_whole (hr : Room 5 (A.deeper (envOfC "_law_whole" (defScope s_law_whole) s.heap.objs.size f cdv))) (T : Top K mg) (C_law_least : Cal P w K mg base CX0 4 "_law_least" ["_law_m"] (sp_law_least (ct P w K tabs ad))) (C_law_composed : Cal P w K mg base CX0 5 "_law_composed" ["_law_first", "_law_second"] (sp_law_composed (ct P w K tabs ad))) :
    PSs (cxOf CX0 P w K mg base N_law_whole "_law_whole" (defScope s_law_whole) f cdv A outer s H E).nox (defBody s_law_whole) (t_law_whole (ct P w K tabs ad)) :=
    have scN := sc_law_whole
    (pss_cons (ps_if (pt_cmpR op_eq (pe_callB call_lenF rfl T.n_len boot_len (pa_cons (pv 1) pa_nil)) pe_int (nomark _)) (pss_one (ps_ret (pe_lst (pa_cons (pv 0) (pa_cons (pv 0) (pa_cons (pe_lst (pa_cons (pe_lc (own := [("_law_letter", 2)]) (g := (gName 2)) rfl scN.nd (pi_str (pv 0)) (blkOk_by (own := [("_law_letter", 2)]) (N := N_law_whole) (sc := defScope s_law_whole) (by decide +kernel)) (fun _ _ _ _ _ => (pg_name (i := 2) scN.nd rfl (Or.inl rfl))) (fun _ _ _ _ _ => pts_nil) (fun _ _ _ _ _ => pe_int)) pa_nil)) (pa_cons (pe_lst (pa_cons (pe_lc (own := [("_law_letter", 2)]) (g := (gName 2)) rfl scN.nd (pi_str (pv 0)) (blkOk_by (own := [("_law_letter", 2)]) (N := N_law_whole) (sc := defScope s_law_whole) (by decide +kernel)) (fun _ _ _ _ _ => (pg_name (i := 2) scN.nd rfl (Or.inl rfl))) (fun _ _ _ _ _ => pts_nil) (fun _ _ _ _ _ => pe_int)) pa_nil)) (pa_cons (pe_lst (pa_cons (pe_lst (pa_cons (pv 0) pa_nil)) pa_nil)) pa_nil)))))))) pss_nil)
      (pss_cons (ps_set (i := 3) scN.nd rfl (Or.inl rfl) (pe_cal C_law_least (hr.mono (by decide)) rfl pass0 (pa_cons (pe_ix ix_list (pv 1) pe_int (fun _ _ => rfl)) pa_nil)))
      (pss_cons (ps_for PassesOwn.never rfl (pi_list (pe_slice sl_list (pv 1) (po_some pe_int) po_none)) (pg_name (i := 4) scN.nd rfl (Or.inl rfl))
      (pss_one (ps_if (pt_cmpR op_notNn (pv 3) pe_non (nomark _)) (pss_one (ps_set (i := 3) scN.nd rfl (Or.inl rfl) (pe_cal C_law_composed (hr.mono (by decide)) rfl pass0 (pa_cons (pv 3) (pa_cons (pv 4) pa_nil))))) pss_nil)))
      (pss_one (ps_ret (pv 3))))))
/-! ### _law_due_swap -/
abbrev s_law_due_swap : Stmt := topS 63
abbrev N_law_due_swap : List Str := ["_law_rows", "_law_index", "_law_here", "_law_there"]
theorem sc_law_due_swap : FnScope N_law_due_swap ["_law_rows", "_law_index"] (defScope s_law_due_swap) := ⟨rfl, rfl, rfl, by decide +kernel, rfl, by decide +kernel, by decide +kernel⟩
def t_law_due_swap (c : Ct) : TS :=
      (tSeq (tIfS (tTest (tOp (rI0 fun i j => .bl (decide (j ≤ i))) (tOp (rI0 fun i j => .int (i + j)) (tVar 1) (tC (.int 1))) (tCB (rLenF c.K) (tCons (tVar 0) tNil)))) (tRet (tC (.str "no such pass"))) tNext)
      (tSeq (tAsg (tCall (sp_law_composed c) [] E0 (tCons (tOp (rIxL c.K) (tVar 0) (tVar 1)) (tCons (tOp (rIxL c.K) (tVar 0) (tOp (rI0 fun i j => .int (i + j)) (tVar 1) (tC (.int 1)))) tNil))) (gName 2))
      (tSeq (tAsg (tCall (sp_law_composed c) [] E0 (tCons (tOp (rIxL c.K) (tVar 0) (tOp (rI0 fun i j => .int (i + j)) (tVar 1) (tC (.int 1)))) (tCons (tOp (rIxL c.K) (tVar 0) (tVar 1)) tNil))) (gName 3))
      (tSeq (tIfS (tOr (tTest (tOp rIsNn (tVar 2) (tC .non))) (tTest (tOp rIsNn (tVar 3) (tC .non)))) (tRet (tC (.str "too many states"))) tNext)
      (tRet (tOp (rEqD c.K) (tVar 2) (tVar 3)))))))
theorem p_law_due_swap (hr : Room 5 (A.deeper (envOfC "_law_due_swap" (defScope s_law_due_swap) s.heap.objs.size f cdv))) (T : Top K mg) (C_law_composed : Cal P w K mg base CX0 5 "_law_composed" ["_law_first", "_law_second"] (sp_law_composed (ct P w K tabs ad))) :
    PSs (cxOf CX0 P w K mg base N_law_due_swap "_law_due_swap" (defScope s_law_due_swap) f cdv A outer s H E).nox (defBody s_law_due_swap) (t_law_due_swap (ct P w K tabs ad)) :=
    have scN := sc_law_due_swap
    (pss_cons (ps_if (pt_cmpR op_ge (pe_op op_add (pv 1) pe_int) (pe_callB call_lenF rfl T.n_len boot_len (pa_cons (pv 0) pa_nil)) (nomark _)) (pss_one (ps_ret pe_str)) pss_nil)
      (pss_cons (ps_set (i := 2) scN.nd rfl (Or.inl rfl) (pe_cal C_law_composed (hr.mono (by decide)) rfl pass0 (pa_cons (pe_ix ix_list (pv 0) (pv 1) (fun _ _ => rfl)) (pa_cons (pe_ix ix_list (pv 0) (pe_op op_add (pv 1) pe_int) (fun _ _ => rfl)) pa_nil))))
      (pss_cons (ps_set (i := 3) scN.nd rfl (Or.inl rfl) (pe_cal C_law_composed (hr.mono (by decide)) rfl pass0 (pa_cons (pe_ix ix_list (pv 0) (pe_op op_add (pv 1) pe_int) (fun _ _ => rfl)) (pa_cons (pe_ix ix_list (pv 0) (pv 1) (fun _ _ => rfl)) pa_nil))))
      (pss_cons (ps_if (PW.pt (pw_or (pt_cmpR op_isNn (pv 2) pe_non (nomark _)) (pw_or1 (pt_cmpR op_isNn (pv 3) pe_non (nomark _))))) (pss_one (ps_ret pe_str)) pss_nil)
      (pss_one (ps_ret (pe_cmpR (op_eqD hr.units) (pv 2) (pv 3) (nomark _))))))))
/-! ### _law_due_idle -/
abbrev s_law_due_idle : Stmt := topS 64
abbrev N_law_due_idle : List Str := ["_law_alphabet_here", "_law_rows", "_law_whole_here", "_law_idle", "_law_k", "_law_rest"]
theorem sc_law_due_idle : FnScope N_law_due_idle ["_law_alphabet_here", "_law_rows"] (defScope s_law_due_idle) := ⟨rfl, rfl, rfl, by decide +kernel, rfl, by decide +kernel, by decide +kernel⟩
def t_law_due_idle (c : Ct) : TS :=
      (tSeq (tAsg (tCall (sp_law_whole c) [] E0 (tCons (tVar 0) (tCons (tVar 1) tNil))) (gName 2))
      (tSeq (tIfS (tTest (tOp rIsNn (tVar 2) (tC .non))) (tRet (tC (.str "too many states"))) tNext)
      (tSeq (tAsg (tLst tNil) (gName 3))
      (tSeq (tFor (iRng1 (tCons (tCB (rLenF c.K) (tCons (tVar 1) tNil)) tNil)) (gName 4)
      (tSeq (tAsg (tCall (sp_law_whole c) [] E0 (tCons (tVar 0) (tCons (tOp rCat (tSl (rSlL c.K) (tVar 1) tNoPart (tPart (tVar 4))) (tSl (rSlL c.K) (tVar 1) (tPart (tOp (rI0 fun i j => .int (i + j)) (tVar 4) (tC (.int 1)))) tNoPart)) tNil))) (gName 5))
      (tSeq (tIfS (tTest (tOp rIsNn (tVar 5) (tC .non))) (tRet (tC (.str "too many states"))) tNext)
      (tIfS (tTest (tOp (rEqD c.K) (tVar 5) (tVar 2))) (tDrop (tBM c.K "list" rAppend (tVar 3) (tCons (tVar 4) tNil))) tNext))))
      (tRet (tVar 3))))))
theorem p_law_due_idle (hr : Room 6 (A.deeper (envOfC "_law_due_idle" (defScope s_law_due_idle) s.heap.objs.size f cdv))) (T : Top K mg) (C_law_whole : Cal P w K mg base CX0 6 "_law_whole" ["_law_alphabet_here", "_law_rows"] (sp_law_whole (ct P w K tabs ad))) :
    PSs (cxOf CX0 P w K mg base N_law_due_idle "_law_due_idle" (defScope s_law_due_idle) f cdv A outer s H E).nox (defBody s_law_due_idle) (t_law_due_idle (ct P w K tabs ad)) :=
    have scN := sc_law_due_idle
    (pss_cons (ps_set (i := 2) scN.nd rfl (Or.inl rfl) (pe_cal C_law_whole (hr.mono (by decide)) rfl pass0 (pa_cons (pv 0) (pa_cons (pv 1) pa_nil))))
      (pss_cons (ps_if (pt_cmpR op_isNn (pv 2) pe_non (nomark _)) (pss_one (ps_ret pe_str)) pss_nil)
      (pss_cons (ps_set (i := 3) scN.nd rfl (Or.inl rfl) (pe_lst pa_nil))
      (pss_cons (ps_for PassesOwn.never rfl (pi_range1 rfl T.n_range (pa_cons (pe_callB call_lenF rfl T.n_len boot_len (pa_cons (pv 1) pa_nil)) pa_nil)) (pg_name (i := 4) scN.nd rfl (Or.inl rfl))
      (pss_cons (ps_set (i := 5) scN.nd rfl (Or.inl rfl) (pe_cal C_law_whole (hr.mono (by decide)) rfl pass0 (pa_cons (pv 0) (pa_cons (pe_op op_cat (pe_slice sl_list (pv 1) po_none (po_some (pv 4))) (pe_slice sl_list (pv 1) (po_some (pe_op op_add (pv 4) pe_int)) po_none)) pa_nil))))
      (pss_cons (ps_if (pt_cmpR op_isNn (pv 5) pe_non (nomark _)) (pss_one (ps_ret pe_str)) pss_nil)
      (pss_one (ps_if (pt_cmpR (op_eqD hr.units) (pv 5) (pv 2) (nomark _)) (pss_one (ps_expr (pe_bm PySem.F.plainAttrs_list PySem.F.slot_list_append PySem.F.type_list_append mt_append (pv 3) (pa_cons (pv 4) pa_nil)))) pss_nil)))))
      (pss_one (ps_ret (pv 3)))))))
end
end Fx
/-! text PsA -/
namespace Fx
open PySem L2 Evl PyProof.Rows Mir
section
variable {P : Program} {w : World} {K : PySem.W.Frag} {mg : Str → Option Value} {base : Heap} {tabs : List NdefX.NTab} {ad : Ads} {cdv : Value} {A : Around} {outer : List PySem.Env} {s : Shared} {H : Hp} {E : XK} {f : Addr}
/-! ### reached_behind -/
abbrev s_reached_behind : Stmt := topS 2
abbrev N_reached_behind : List Str := ["rows", "start", "found", "order", "at", "state", "k", "other"]
theorem sc_reached_behind : FnScope N_reached_behind ["rows", "start"] (defScope s_reached_behind) := ⟨rfl, rfl, rfl, by decide +kernel, rfl, by decide +kernel, by decide +kernel⟩
def t_reached_behind (c : Ct) : TS :=
      (tSeq (tAsg (tDisp [((tVar 1), (tTup tNil))]) (gName 2))
      (tSeq (tAsg (tLst (tCons (tVar 1) tNil)) (gName 3))
      (tSeq (tAsg (tC (.int 0)) (gName 4))
      (tSeq (tWhile (tTest (tOp (rI0 fun i j => .bl (decide (i < j))) (tVar 4) (tCB (rLenF c.K) (tCons (tVar 3) tNil))))
      (tSeq (tAsg (tOp (rIxL c.K) (tVar 3) (tVar 4)) (gName 5))
      (tSeq (tFor (iEnum c.K (tCons (tOp (rIxL c.K) (tVar 0) (tVar 5)) tNil)) (gTup c.K 2 (gCons (gName 6) (gCons (gName 7) gNil)))
      (tIfS (tB (tDNotIn (tVar 7) (tVar 2))) (tSeq (sDPut (tVar 2) (tVar 7) (tOp (rCatA c.K) (tDGet (tVar 2) (tVar 5)) (tTup (tCons (tVar 6) tNil))))
      (tDrop (tBM c.K "list" rAppend (tVar 3) (tCons (tVar 7) tNil)))) tNext))
      (tAug 4 (tC (.int 1)) (ipI fun i j => i + j)))))
      (tRet (tLc (iList c.K (tVar 3)) (gName 5) tYes (tTup (tCons (tVar 5) (tCons (tDGet (tVar 2) (tVar 5)) tNil))) [5]))))))
theorem p_reached_behind (hr : Room 0 (A.deeper (envOfC "reached_behind" (defScope s_reached_behind) s.heap.objs.size f cdv))) (T : Top K mg) :
    PSs (cxOf CX0 P w K mg base N_reached_behind "reached_behind" (defScope s_reached_behind) f cdv A outer s H E).nox (defBody s_reached_behind) (t_reached_behind (ct P w K tabs ad)) :=
    have scN := sc_reached_behind
    (pss_cons (ps_set (i := 2) scN.nd rfl (Or.inr rfl) (pe_disp (pps_cons (pv 1) (pe_tup pa_nil) pps_nil) rfl rfl (fun z => by cases z) (by decide)))
      (pss_cons (ps_set (i := 3) scN.nd rfl (Or.inl rfl) (pe_lst (pa_cons (pv 1) pa_nil)))
      (pss_cons (ps_set (i := 4) scN.nd rfl (Or.inl rfl) pe_int)
      (pss_cons (ps_while PassesOwn.never (pt_cmpR op_lt (pv 4) (pe_callB call_lenF rfl T.n_len boot_len (pa_cons (pv 3) pa_nil)) (nomark _))
      (pss_cons (ps_set (i := 5) scN.nd rfl (Or.inl rfl) (pe_ix ix_list (pv 3) (pv 4) (fun _ _ => rfl)))
      (pss_cons (ps_for PassesOwn.never rfl (pi_enum rfl T.n_enumerate (pa_cons (pe_ix ix_list (pv 0) (pv 5) (fun _ _ => rfl)) pa_nil)) (pg_tup rfl (pgs_cons (pg_name (i := 6) scN.nd rfl (Or.inl rfl)) (pgs_cons (pg_name (i := 7) scN.nd rfl (Or.inl rfl)) pgs_nil)))
      (pss_one (ps_if (pt_cmp (pc_dnotin (hu_of hr) (pv 7) (pv 2)) rfl) (pss_cons (ps_dput (hu_of hr) (pv 2) (pv 7) (pe_op op_catA (pe_dget (hu_of hr) (pv 2) (pv 5) (fun _ _ => rfl)) (pe_tup (pa_cons (pv 6) pa_nil))) rfl)
      (pss_one (ps_expr (pe_bm PySem.F.plainAttrs_list PySem.F.slot_list_append PySem.F.type_list_append mt_append (pv 3) (pa_cons (pv 7) pa_nil))))) pss_nil)))
      (pss_one (ps_aug (i := 4) scN.nd rfl (Or.inl rfl) pe_int ip_add)))))
      (pss_one (ps_ret (pe_lc (own := [("state", 5)]) (g := (gName 5)) rfl scN.nd (pi_list (pv 3)) (blkOk_by (own := [("state", 5)]) (N := N_reached_behind) (sc := defScope s_reached_behind) (by decide +kernel)) (fun _ _ _ _ _ => (pg_name (i := 5) scN.nd rfl (Or.inl rfl))) (fun _ _ _ _ _ => pts_nil) (fun _ _ _ _ _ => (pe_tup (pa_cons (pv 5) (pa_cons (pe_dget (hu_of hr) (pv 2) (pv 5) (fun _ _ => rfl)) pa_nil)))))))))))
/-! ### reached_in_front -/
abbrev s_reached_in_front : Stmt := topS 3
abbrev N_reached_in_front : List Str := ["rows", "start", "letters", "found", "order", "level", "fresh", "k", "state", "other"]
theorem sc_reached_in_front : FnScope N_reached_in_front ["rows", "start", "letters"] (defScope s_reached_in_front) := ⟨rfl, rfl, rfl, by decide +kernel, rfl, by decide +kernel, by decide +kernel⟩
def t_reached_in_front (c : Ct) : TS :=
      (tSeq (tAsg (tDisp [((tVar 1), (tTup tNil))]) (gName 3))
      (tSeq (tAsg (tLst (tCons (tVar 1) tNil)) (gName 4))
      (tSeq (tAsg (tLst (tCons (tVar 1) tNil)) (gName 5))
      (tSeq (tWhile (tTr c.K (tVar 5))
      (tSeq (tAsg (tLst tNil) (gName 6))
      (tSeq (tFor (iRng1 (tCons (tVar 2) tNil)) (gName 7)
      (tFor (iList c.K (tVar 5)) (gName 8)
      (tSeq (tAsg (tOp (rIxL c.K) (tOp (rIxL c.K) (tVar 0) (tVar 8)) (tVar 7)) (gName 9))
      (tIfS (tB (tDNotIn (tVar 9) (tVar 3))) (tSeq (sDPut (tVar 3) (tVar 9) (tOp (rCatA c.K) (tTup (tCons (tVar 7) tNil)) (tDGet (tVar 3) (tVar 8))))
      (tDrop (tBM c.K "list" rAppend (tVar 6) (tCons (tVar 9) tNil)))) tNext))))
      (tSeq (tDrop (tBM c.K "list" rExtend (tVar 4) (tCons (tVar 6) tNil)))
      (tAsg (tVar 6) (gName 5))))))
      (tRet (tLc (iList c.K (tVar 4)) (gName 8) tYes (tTup (tCons (tVar 8) (tCons (tDGet (tVar 3) (tVar 8)) tNil))) [8]))))))
theorem p_reached_in_front (hr : Room 0 (A.deeper (envOfC "reached_in_front" (defScope s_reached_in_front) s.heap.objs.size f cdv))) (T : Top K mg) :
    PSs (cxOf CX0 P w K mg base N_reached_in_front "reached_in_front" (defScope s_reached_in_front) f cdv A outer s H E).nox (defBody s_reached_in_front) (t_reached_in_front (ct P w K tabs ad)) :=
    have scN := sc_reached_in_front
    (pss_cons (ps_set (i := 3) scN.nd rfl (Or.inr rfl) (pe_disp (pps_cons (pv 1) (pe_tup pa_nil) pps_nil) rfl rfl (fun z => by cases z) (by decide)))
      (pss_cons (ps_set (i := 4) scN.nd rfl (Or.inl rfl) (pe_lst (pa_cons (pv 1) pa_nil)))
      (pss_cons (ps_set (i := 5) scN.nd rfl (Or.inl rfl) (pe_lst (pa_cons (pv 1) pa_nil)))
      (pss_cons (ps_while PassesOwn.never (pt_truth (pv 5) (fun _ => rfl))
      (pss_cons (ps_set (i := 6) scN.nd rfl (Or.inl rfl) (pe_lst pa_nil))
      (pss_cons (ps_for PassesOwn.never rfl (pi_range1 rfl T.n_range (pa_cons (pv 2) pa_nil)) (pg_name (i := 7) scN.nd rfl (Or.inl rfl))
      (pss_one (ps_for PassesOwn.never rfl (pi_list (pv 5)) (pg_name (i := 8) scN.nd rfl (Or.inl rfl))
      (pss_cons (ps_set (i := 9) scN.nd rfl (Or.inl rfl) (pe_ix ix_list (pe_ix ix_list (pv 0) (pv 8) (fun _ _ => rfl)) (pv 7) (fun _ _ => rfl)))
      (pss_one (ps_if (pt_cmp (pc_dnotin (hu_of hr) (pv 9) (pv 3)) rfl) (pss_cons (ps_dput (hu_of hr) (pv 3) (pv 9) (pe_op op_catA (pe_tup (pa_cons (pv 7) pa_nil)) (pe_dget (hu_of hr) (pv 3) (pv 8) (fun _ _ => rfl))) rfl)
      (pss_one (ps_expr (pe_bm PySem.F.plainAttrs_list PySem.F.slot_list_append PySem.F.type_list_append mt_append (pv 6) (pa_cons (pv 9) pa_nil))))) pss_nil))))))
      (pss_cons (ps_expr (pe_bm PySem.F.plainAttrs_list PySem.F.slot_list_extend PySem.F.type_list_extend mt_extend (pv 4) (pa_cons (pv 6) pa_nil)))
      (pss_one (ps_set (i := 5) scN.nd rfl (Or.inl rfl) (pv 6)))))))
      (pss_one (ps_ret (pe_lc (own := [("state", 8)]) (g := (gName 8)) rfl scN.nd (pi_list (pv 4)) (blkOk_by (own := [("state", 8)]) (N := N_reached_in_front) (sc := defScope s_reached_in_front) (by decide +kernel)) (fun _ _ _ _ _ => (pg_name (i := 8) scN.nd rfl (Or.inl rfl))) (fun _ _ _ _ _ => pts_nil) (fun _ _ _ _ _ => (pe_tup (pa_cons (pv 8) (pa_cons (pe_dget (hu_of hr) (pv 3) (pv 8) (fun _ _ => rfl)) pa_nil)))))))))))
/-! ### kept_rows -/
abbrev s_kept_rows : Stmt := topS 4
abbrev N_kept_rows : List Str := ["rows", "order", "place", "at", "state", "other"]
theorem sc_kept_rows : FnScope N_kept_rows ["rows", "order"] (defScope s_kept_rows) := ⟨rfl, rfl, rfl, by decide +kernel, rfl, by decide +kernel, by decide +kernel⟩
def t_kept_rows (c : Ct) : TS :=
      (tSeq (tAsg (tDc (iEnum c.K (tCons (tVar 1) tNil)) (gTup c.K 2 (gCons (gName 3) (gCons (gName 4) gNil))) tYes (tVar 4) (tVar 3) [3, 4]) (gName 2))
      (tRet (tLc (iList c.K (tVar 1)) (gName 4) tYes (tLc (iList c.K (tOp (rIxL c.K) (tVar 0) (tVar 4))) (gName 5) tYes (tDGet (tVar 2) (tVar 5)) [5]) [4])))
theorem p_kept_rows (hr : Room 0 (A.deeper (envOfC "kept_rows" (defScope s_kept_rows) s.heap.objs.size f cdv))) (T : Top K mg) :
    PSs (cxOf CX0 P w K mg base N_kept_rows "kept_rows" (defScope s_kept_rows) f cdv A outer s H E).nox (defBody s_kept_rows) (t_kept_rows (ct P w K tabs ad)) :=
    have scN := sc_kept_rows
    (pss_cons (ps_set (i := 2) scN.nd rfl (Or.inr rfl) (pe_dc (own := [("at", 3), ("state", 4)]) (g := (gTup K 2 (gCons (gName 3) (gCons (gName 4) gNil)))) rfl scN.nd (pi_enum rfl T.n_enumerate (pa_cons (pv 1) pa_nil)) (blkOk_by (own := [("at", 3), ("state", 4)]) (N := N_kept_rows) (sc := defScope s_kept_rows) (by decide +kernel)) (fun _ _ _ _ _ => (pg_tup rfl (pgs_cons (pg_name (i := 3) scN.nd rfl (Or.inl rfl)) (pgs_cons (pg_name (i := 4) scN.nd rfl (Or.inl rfl)) pgs_nil)))) (fun _ _ _ _ _ => pts_nil) (fun _ _ _ _ _ => (pv 4)) (fun _ _ _ _ _ => (pv 3))))
      (pss_one (ps_ret (pe_lc (own := [("state", 4)]) (g := (gName 4)) rfl scN.nd (pi_list (pv 1)) (blkOk_by (own := [("state", 4)]) (N := N_kept_rows) (sc := defScope s_kept_rows) (by decide +kernel)) (fun _ _ _ _ _ => (pg_name (i := 4) scN.nd rfl (Or.inl rfl))) (fun _ _ _ _ _ => pts_nil) (fun _ _ _ _ _ => (pe_lc (own := [("other", 5)]) (g := (gName 5)) rfl scN.nd (pi_list (pe_ix ix_list (pv 0) (pv 4) (fun _ _ => rfl))) (blkOk_by (own := [("other", 5)]) (N := N_kept_rows) rfl) (fun _ _ _ _ _ => (pg_name (i := 5) scN.nd rfl (Or.inl rfl))) (fun _ _ _ _ _ => pts_nil) (fun _ _ _ _ _ => (pe_dget (hu_of hr) (pv 2) (pv 5) (fun _ _ => rfl)))))))))
/-! ### _numbered -/
abbrev s_numbered : Stmt := topS 6
abbrev N_numbered : List Str := ["keys", "numbers", "out", "key"]
theorem sc_numbered : FnScope N_numbered ["keys"] (defScope s_numbered) := ⟨rfl, rfl, rfl, by decide +kernel, rfl, by decide +kernel, by decide +kernel⟩
def t_numbered (c : Ct) : TS :=
      (tSeq (tAsg (tDNewN c.P c.w) (gName 1))
      (tSeq (tAsg (tLst tNil) (gName 2))
      (tSeq (tFor (iList c.K (tVar 0)) (gName 3)
      (tSeq (tIfS (tTest (tOp (rNNotIn c.P c.w) (tVar 3) (tVar 1))) (sNPut c.P c.w (tVar 1) (tVar 3) (tCB (rLenN c.P c.w) (tCons (tVar 1) tNil))) tNext)
      (tDrop (tBM c.K "list" rAppend (tVar 2) (tCons (tNGet c.P c.w (tVar 1) (tVar 3)) tNil)))))
      (tRet (tVar 2)))))
theorem p_numbered (hr : Room 0 (A.deeper (envOfC "_numbered" (defScope s_numbered) s.heap.objs.size f cdv))) (T : Top K mg) :
    PSs (cxOf CX0 P w K mg base N_numbered "_numbered" (defScope s_numbered) f cdv A outer s H E).nox (defBody s_numbered) (t_numbered (ct P w K tabs ad)) :=
    have scN := sc_numbered
    (pss_cons (ps_set (i := 1) scN.nd rfl (Or.inl rfl) pe_dnewN)
      (pss_cons (ps_set (i := 2) scN.nd rfl (Or.inl rfl) (pe_lst pa_nil))
      (pss_cons (ps_for PassesOwn.never rfl (pi_list (pv 0)) (pg_name (i := 3) scN.nd rfl (Or.inl rfl))
      (pss_cons (ps_if (pt_cmpR (op_nnotin (hu9 hr)) (pv 3) (pv 1) rfl) (pss_one (ps_nput (hu9 hr) (pv 1) (pv 3) (pe_callB call_lenN rfl T.n_len boot_len (pa_cons (pv 1) pa_nil)) rfl)) pss_nil)
      (pss_one (ps_expr (pe_bm PySem.F.plainAttrs_list PySem.F.slot_list_append PySem.F.type_list_append mt_append (pv 2) (pa_cons (pe_nget (hu9 hr) (pv 1) (pv 3) (fun _ _ => rfl)) pa_nil))))))
      (pss_one (ps_ret (pv 2))))))
/-! ### classes -/
abbrev s_classes : Stmt := topS 7
abbrev N_classes : List Str := ["rows", "marks", "parts", "count", "keys", "other", "state", "row"]
theorem sc_classes : FnScope N_classes ["rows", "marks"] (defScope s_classes) := ⟨rfl, rfl, rfl, by decide +kernel, rfl, by decide +kernel, by decide +kernel⟩
def t_classes (c : Ct) : TS :=
      (tSeq (tAsg (tCall (sp_numbered c) [] E0 (tCons (tVar 1) tNil)) (gName 2))
      (tSeq (tAsg (tUn (rU fun i => .int (-i)) (tC (.int 1))) (gName 3))
      (tSeq (tWhile (tTest (tOp rNe (tVar 3) (tCB (rMax c.K) (tCons (tVar 2) tNil))))
      (tSeq (tAsg (tCB (rMax c.K) (tCons (tVar 2) tNil)) (gName 3))
      (tSeq (tAsg (tLc (iEnum c.K (tCons (tVar 0) tNil)) (gTup c.K 2 (gCons (gName 6) (gCons (gName 7) gNil))) tYes (tTup (tCons (tOp (rIxL c.K) (tVar 2) (tVar 6)) (tCons (tCB (rTupF c.K) (tCons (tLc (iList c.K (tVar 7)) (gName 5) tYes (tOp (rIxL c.K) (tVar 2) (tVar 5)) [5]) tNil)) tNil))) [6, 7]) (gName 4))
      (tAsg (tCall (sp_numbered c) [] E0 (tCons (tVar 4) tNil)) (gName 2)))))
      (tRet (tVar 2)))))
theorem p_classes (hr : Room 1 (A.deeper (envOfC "classes" (defScope s_classes) s.heap.objs.size f cdv))) (T : Top K mg) (C_numbered : Cal P w K mg base CX0 1 "_numbered" ["keys"] (sp_numbered (ct P w K tabs ad))) :
    PSs (cxOf CX0 P w K mg base N_classes "classes" (defScope s_classes) f cdv A outer s H E).nox (defBody s_classes) (t_classes (ct P w K tabs ad)) :=
    have scN := sc_classes
    (pss_cons (ps_set (i := 2) scN.nd rfl (Or.inr rfl) (pe_cal C_numbered (hr.mono (by decide)) rfl pass0 (pa_cons (pv 1) pa_nil)))
      (pss_cons (ps_set (i := 3) scN.nd rfl (Or.inl rfl) (pe_un un_neg pe_int))
      (pss_cons (ps_while PassesOwn.never (pt_cmpR op_ne (pv 3) (pe_callB (cr_max rfl) rfl T.n_max boot_max (pa_cons (pv 2) pa_nil)) (nomark _))
      (pss_cons (ps_set (i := 3) scN.nd rfl (Or.inl rfl) (pe_callB (cr_max rfl) rfl T.n_max boot_max (pa_cons (pv 2) pa_nil)))
      (pss_cons (ps_setLc (i := 4) (own := [("state", 6), ("row", 7)]) (g := (gTup K 2 (gCons (gName 6) (gCons (gName 7) gNil)))) rfl scN.nd rfl rfl (sw_true rfl rfl rfl (by decide +kernel)) (pi_enum rfl T.n_enumerate (pa_cons (pv 0) pa_nil)) (blkOk_by (own := [("state", 6), ("row", 7)]) (N := N_classes) (sc := defScope s_classes) (by decide +kernel)) (fun _ _ _ _ _ => (pg_tup rfl (pgs_cons (pg_name (i := 6) scN.nd rfl (Or.inl rfl)) (pgs_cons (pg_name (i := 7) scN.nd rfl (Or.inl rfl)) pgs_nil)))) (fun _ _ _ _ _ => pts_nil) (fun _ _ _ _ _ => (pe_tup (pa_cons (pe_ix ix_list (pv 2) (pv 6) (fun _ _ => rfl)) (pa_cons (pe_callTy call_tupF rfl T.n_tuple boot_tuple (pa_cons (pe_lc (own := [("other", 5)]) (g := (gName 5)) rfl scN.nd (pi_list (pv 7)) (blkOk_by (own := [("other", 5)]) (N := N_classes) rfl) (fun _ _ _ _ _ => (pg_name (i := 5) scN.nd rfl (Or.inl rfl))) (fun _ _ _ _ _ => pts_nil) (fun _ _ _ _ _ => (pe_ix ix_list (pv 2) (pv 5) (fun _ _ => rfl)))) pa_nil)) pa_nil)))))
      (pss_one (ps_set (i := 2) scN.nd rfl (Or.inr rfl) (pe_cal C_numbered (hr.mono (by decide)) rfl pass0 (pa_cons (pv 4) pa_nil)))))))
      (pss_one (ps_ret (pv 2))))))
/-! ### _chosen -/
abbrev s_chosen : Stmt := topS 8
abbrev N_chosen : List Str := ["rows", "parts", "firsts", "part", "other", "state"]
theorem sc_chosen : FnScope N_chosen ["rows", "parts"] (defScope s_chosen) := ⟨rfl, rfl, rfl, by decide +kernel, rfl, by decide +kernel, by decide +kernel⟩
def t_chosen (c : Ct) : TS :=
      (tSeq (tAsg (tLc (iRng1 (tCons (tOp (rI0 fun i j => .int (i + j)) (tCB (rMax c.K) (tCons (tVar 1) tNil)) (tC (.int 1))) tNil)) (gName 3) tYes (tBM c.K "list" (rIndexD c.K) (tVar 1) (tCons (tVar 3) tNil)) [3]) (gName 2))
      (tRet (tTup (tCons (tVar 2) (tCons (tLc (iList c.K (tVar 2)) (gName 5) tYes (tLc (iList c.K (tOp (rIxL c.K) (tVar 0) (tVar 5))) (gName 4) tYes (tOp (rIxL c.K) (tVar 1) (tVar 4)) [4]) [5]) tNil)))))
theorem p_chosen (hr : Room 0 (A.deeper (envOfC "_chosen" (defScope s_chosen) s.heap.objs.size f cdv))) (T : Top K mg) :
    PSs (cxOf CX0 P w K mg base N_chosen "_chosen" (defScope s_chosen) f cdv A outer s H E).nox (defBody s_chosen) (t_chosen (ct P w K tabs ad)) :=
    have scN := sc_chosen
    (pss_cons (ps_setLc (i := 2) (own := [("part", 3)]) (g := (gName 3)) rfl scN.nd rfl rfl (sw_true rfl rfl rfl (by decide +kernel)) (pi_range1 rfl T.n_range (pa_cons (pe_op op_add (pe_callB (cr_max rfl) rfl T.n_max boot_max (pa_cons (pv 1) pa_nil)) pe_int) pa_nil)) (blkOk_by (own := [("part", 3)]) (N := N_chosen) (sc := defScope s_chosen) (by decide +kernel)) (fun _ _ _ _ _ => (pg_name (i := 3) scN.nd rfl (Or.inl rfl))) (fun _ _ _ _ _ => pts_nil) (fun _ _ _ _ _ => (pe_bm PySem.F.plainAttrs_list PySem.F.slot_list_index PySem.F.type_list_index (mt_indexD (hu65 hr)) (pv 1) (pa_cons (pv 3) pa_nil))))
      (pss_one (ps_ret (pe_tup (pa_cons (pv 2) (pa_cons (pe_lc (own := [("state", 5)]) (g := (gName 5)) rfl scN.nd (pi_list (pv 2)) (blkOk_by (own := [("state", 5)]) (N := N_chosen) (sc := defScope s_chosen) (by decide +kernel)) (fun _ _ _ _ _ => (pg_name (i := 5) scN.nd rfl (Or.inl rfl))) (fun _ _ _ _ _ => pts_nil) (fun _ _ _ _ _ => (pe_lc (own := [("other", 4)]) (g := (gName 4)) rfl scN.nd (pi_list (pe_ix ix_list (pv 0) (pv 5) (fun _ _ => rfl))) (blkOk_by (own := [("other", 4)]) (N := N_chosen) rfl) (fun _ _ _ _ _ => (pg_name (i := 4) scN.nd rfl (Or.inl rfl))) (fun _ _ _ _ _ => pts_nil) (fun _ _ _ _ _ => (pe_ix ix_list (pv 1) (pv 4) (fun _ _ => rfl)))))) pa_nil))))))
/-! ### least_parts -/
abbrev s_least_parts : Stmt := topS 9
abbrev N_least_parts : List Str := ["left", "right", "table", "letters", "lefts", "state", "word", "rights", "rows", "others", "small", "j", "i", "front", "new_left", "told", "columns", "behind", "new_right"]
theorem sc_least_parts : FnScope N_least_parts ["left", "right", "table", "letters"] (defScope s_least_parts) := ⟨rfl, rfl, rfl, by decide +kernel, rfl, by decide +kernel, by decide +kernel⟩
def t_least_parts (c : Ct) : TS :=
      (tSeq (tAsg (tLc (iList c.K (tCall (sp_reached_behind c) [] E0 (tCons (tVar 0) (tCons (tC (.int 0)) tNil)))) (gTup c.K 2 (gCons (gName 5) (gCons (gName 6) gNil))) tYes (tVar 5) [5, 6]) (gName 4))
      (tSeq (tAsg (tLc (iList c.K (tCall (sp_reached_in_front c) [] E0 (tCons (tVar 1) (tCons (tC (.int 0)) (tCons (tVar 3) tNil))))) (gTup c.K 2 (gCons (gName 5) (gCons (gName 6) gNil))) tYes (tVar 5) [5, 6]) (gName 7))
      (tSeq (tAsg (tCall (sp_kept_rows c) [] E0 (tCons (tVar 0) (tCons (tVar 4) tNil))) (gName 8))
      (tSeq (tAsg (tCall (sp_kept_rows c) [] E0 (tCons (tVar 1) (tCons (tVar 7) tNil))) (gName 9))
      (tSeq (tAsg (tLc (iList c.K (tVar 4)) (gName 12) tYes (tLc (iList c.K (tVar 7)) (gName 11) tYes (tOp (rIxL c.K) (tOp (rIxL c.K) (tVar 2) (tVar 12)) (tVar 11)) [11]) [12]) (gName 10))
      (tSeq (tAsg (tCall (sp_chosen c) [] E0 (tCons (tVar 8) (tCons (tCall (sp_classes c) [] E0 (tCons (tVar 8) (tCons (tLc (iList c.K (tVar 10)) (gName 15) tYes (tCB (rTupF c.K) (tCons (tVar 15) tNil)) [15]) tNil))) tNil))) (gTup c.K 2 (gCons (gName 13) (gCons (gName 14) gNil))))
      (tSeq (tAsg (tLc (iRng1 (tCons (tCB (rLenF c.K) (tCons (tVar 7) tNil)) tNil)) (gName 11) tYes (tCB (rTupF c.K) (tCons (tLc (iList c.K (tVar 10)) (gName 15) tYes (tOp (rIxL c.K) (tVar 15) (tVar 11)) [15]) tNil)) [11]) (gName 16))
      (tSeq (tAsg (tCall (sp_chosen c) [] E0 (tCons (tVar 9) (tCons (tCall (sp_classes c) [] E0 (tCons (tVar 9) (tCons (tVar 16) tNil))) tNil))) (gTup c.K 2 (gCons (gName 17) (gCons (gName 18) gNil))))
      (tRet (tTup (tCons (tVar 14) (tCons (tVar 18) (tCons (tLc (iList c.K (tVar 13)) (gName 12) tYes (tLc (iList c.K (tVar 17)) (gName 11) tYes (tOp (rIxL c.K) (tOp (rIxL c.K) (tVar 10) (tVar 12)) (tVar 11)) [11]) [12]) tNil)))))))))))))
theorem p_least_parts (hr : Room 2 (A.deeper (envOfC "least_parts" (defScope s_least_parts) s.heap.objs.size f cdv))) (T : Top K mg) (C_reached_behind : Cal P w K mg base CX0 1 "reached_behind" ["rows", "start"] (sp_reached_behind (ct P w K tabs ad))) (C_reached_in_front : Cal P w K mg base CX0 1 "reached_in_front" ["rows", "start", "letters"] (sp_reached_in_front (ct P w K tabs ad))) (C_kept_rows : Cal P w K mg base CX0 1 "kept_rows" ["rows", "order"] (sp_kept_rows (ct P w K tabs ad))) (C_chosen : Cal P w K mg base CX0 1 "_chosen" ["rows", "parts"] (sp_chosen (ct P w K tabs ad))) (C_classes : Cal P w K mg base CX0 2 "classes" ["rows", "marks"] (sp_classes (ct P w K tabs ad))) :
    PSs (cxOf CX0 P w K mg base N_least_parts "least_parts" (defScope s_least_parts) f cdv A outer s H E).nox (defBody s_least_parts) (t_least_parts (ct P w K tabs ad)) :=
    have scN := sc_least_parts
    (pss_cons (ps_setLc (i := 4) (own := [("state", 5), ("word", 6)]) (g := (gTup K 2 (gCons (gName 5) (gCons (gName 6) gNil)))) rfl scN.nd rfl rfl (sw_true rfl rfl rfl (by decide +kernel)) (pi_list (pe_cal C_reached_behind (hr.mono (by decide)) rfl pass0 (pa_cons (pv 0) (pa_cons pe_int pa_nil)))) (blkOk_by (own := [("state", 5), ("word", 6)]) (N := N_least_parts) (sc := defScope s_least_parts) (by decide +kernel)) (fun _ _ _ _ _ => (pg_tup rfl (pgs_cons (pg_name (i := 5) scN.nd rfl (Or.inl rfl)) (pgs_cons (pg_name (i := 6) scN.nd rfl (Or.inl rfl)) pgs_nil)))) (fun _ _ _ _ _ => pts_nil) (fun _ _ _ _ _ => (pv 5)))
      (pss_cons (ps_set (i := 7) scN.nd rfl (Or.inr rfl) (pe_lc (own := [("state", 5), ("word", 6)]) (g := (gTup K 2 (gCons (gName 5) (gCons (gName 6) gNil)))) rfl scN.nd (pi_list (pe_cal C_reached_in_front (hr.mono (by decide)) rfl pass0 (pa_cons (pv 1) (pa_cons pe_int (pa_cons (pv 3) pa_nil))))) (blkOk_by (own := [("state", 5), ("word", 6)]) (N := N_least_parts) (sc := defScope s_least_parts) (by decide +kernel)) (fun _ _ _ _ _ => (pg_tup rfl (pgs_cons (pg_name (i := 5) scN.nd rfl (Or.inl rfl)) (pgs_cons (pg_name (i := 6) scN.nd rfl (Or.inl rfl)) pgs_nil)))) (fun _ _ _ _ _ => pts_nil) (fun _ _ _ _ _ => (pv 5))))
      (pss_cons (ps_set (i := 8) scN.nd rfl (Or.inl rfl) (pe_cal C_kept_rows (hr.mono (by decide)) rfl pass0 (pa_cons (pv 0) (pa_cons (pv 4) pa_nil))))
      (pss_cons (ps_set (i := 9) scN.nd rfl (Or.inl rfl) (pe_cal C_kept_rows (hr.mono (by decide)) rfl pass0 (pa_cons (pv 1) (pa_cons (pv 7) pa_nil))))
      (pss_cons (ps_set (i := 10) scN.nd rfl (Or.inr rfl) (pe_lc (own := [("i", 12)]) (g := (gName 12)) rfl scN.nd (pi_list (pv 4)) (blkOk_by (own := [("i", 12)]) (N := N_least_parts) (sc := defScope s_least_parts) (by decide +kernel)) (fun _ _ _ _ _ => (pg_name (i := 12) scN.nd rfl (Or.inr rfl))) (fun _ _ _ _ _ => pts_nil) (fun _ _ _ _ _ => (pe_lc (own := [("j", 11)]) (g := (gName 11)) rfl scN.nd (pi_list (pv 7)) (blkOk_by (own := [("j", 11)]) (N := N_least_parts) rfl) (fun _ _ _ _ _ => (pg_name (i := 11) scN.nd rfl (Or.inl rfl))) (fun _ _ _ _ _ => pts_nil) (fun _ _ _ _ _ => (pe_ix ix_list (pe_ix ix_list (pv 2) (pv 12) (fun _ _ => rfl)) (pv 11) (fun _ _ => rfl)))))))
      (pss_cons (ps_asg (pe_cal C_chosen (hr.mono (by decide)) rfl pass0 (pa_cons (pv 8) (pa_cons (pe_cal C_classes (hr.mono (by decide)) rfl pass0 (pa_cons (pv 8) (pa_cons (pe_lc (own := [("told", 15)]) (g := (gName 15)) rfl scN.nd (pi_list (pv 10)) (blkOk_by (own := [("told", 15)]) (N := N_least_parts) (sc := defScope s_least_parts) (by decide +kernel)) (fun _ _ _ _ _ => (pg_name (i := 15) scN.nd rfl (Or.inl rfl))) (fun _ _ _ _ _ => pts_nil) (fun _ _ _ _ _ => (pe_callTy call_tupF rfl T.n_tuple boot_tuple (pa_cons (pv 15) pa_nil)))) pa_nil))) pa_nil))) (pg_tup rfl (pgs_cons (pg_name (i := 13) scN.nd rfl (Or.inl rfl)) (pgs_cons (pg_name (i := 14) scN.nd rfl (Or.inl rfl)) pgs_nil))))
      (pss_cons (ps_setLc (i := 16) (own := [("j", 11)]) (g := (gName 11)) rfl scN.nd rfl rfl (sw_true rfl rfl rfl (by decide +kernel)) (pi_range1 rfl T.n_range (pa_cons (pe_callB call_lenF rfl T.n_len boot_len (pa_cons (pv 7) pa_nil)) pa_nil)) (blkOk_by (own := [("j", 11)]) (N := N_least_parts) (sc := defScope s_least_parts) (by decide +kernel)) (fun _ _ _ _ _ => (pg_name (i := 11) scN.nd rfl (Or.inr rfl))) (fun _ _ _ _ _ => pts_nil) (fun _ _ _ _ _ => (pe_callTy call_tupF rfl T.n_tuple boot_tuple (pa_cons (pe_lc (own := [("told", 15)]) (g := (gName 15)) rfl scN.nd (pi_list (pv 10)) (blkOk_by (own := [("told", 15)]) (N := N_least_parts) rfl) (fun _ _ _ _ _ => (pg_name (i := 15) scN.nd rfl (Or.inl rfl))) (fun _ _ _ _ _ => pts_nil) (fun _ _ _ _ _ => (pe_ix ix_list (pv 15) (pv 11) (fun _ _ => rfl)))) pa_nil))))
      (pss_cons (ps_asg (pe_cal C_chosen (hr.mono (by decide)) rfl pass0 (pa_cons (pv 9) (pa_cons (pe_cal C_classes (hr.mono (by decide)) rfl pass0 (pa_cons (pv 9) (pa_cons (pv 16) pa_nil))) pa_nil))) (pg_tup rfl (pgs_cons (pg_name (i := 17) scN.nd rfl (Or.inr rfl)) (pgs_cons (pg_name (i := 18) scN.nd rfl (Or.inl rfl)) pgs_nil))))
      (pss_one (ps_ret (pe_tup (pa_cons (pv 14) (pa_cons (pv 18) (pa_cons (pe_lc (own := [("i", 12)]) (g := (gName 12)) rfl scN.nd (pi_list (pv 13)) (blkOk_by (own := [("i", 12)]) (N := N_least_parts) (sc := defScope s_least_parts) (by decide +kernel)) (fun _ _ _ _ _ => (pg_name (i := 12) scN.nd rfl (Or.inr rfl))) (fun _ _ _ _ _ => pts_nil) (fun _ _ _ _ _ => (pe_lc (own := [("j", 11)]) (g := (gName 11)) rfl scN.nd (pi_list (pv 17)) (blkOk_by (own := [("j", 11)]) (N := N_least_parts) rfl) (fun _ _ _ _ _ => (pg_name (i := 11) scN.nd rfl (Or.inl rfl))) (fun _ _ _ _ _ => pts_nil) (fun _ _ _ _ _ => (pe_ix ix_list (pe_ix ix_list (pv 10) (pv 12) (fun _ _ => rfl)) (pv 11) (fun _ _ => rfl)))))) pa_nil))))))))))))))
/-! ### is_alphabet -/
abbrev s_is_alphabet : Stmt := topS 17
abbrev N_is_alphabet : List Str := ["thing", "letter"]
theorem sc_is_alphabet : FnScope N_is_alphabet ["thing"] (defScope s_is_alphabet) := ⟨rfl, rfl, rfl, by decide +kernel, rfl, by decide +kernel, by decide +kernel⟩
def t_is_alphabet (c : Ct) : TS :=
      (tSeq (tIfS (tOr (tNot (tB (tCB (rIsi c.K) (tCons (tVar 0) (tCons (tC (.ty "str")) tNil))))) (tNot (tTest (tChain (rI0 fun i j => .bl (decide (i ≤ j))) (rI0 fun i j => .bl (decide (i ≤ j))) (tC (.int 1)) (tCB (rLenF c.K) (tCons (tVar 0) tNil)) (tC (.int 5)))))) (tRet (tC (.bl false))) tNext)
      (tRet (tCB (rAll c.K) (tCons (tLc (iStr (tVar 0)) (gName 1) tYes (tAndV (tOp rInC (tVar 1) (tC (.str LETTERS))) (tOp rEq (tM1 rCountS (tVar 0) (tVar 1)) (tC (.int 1)))) [1]) tNil))))
theorem p_is_alphabet (hr : Room 0 (A.deeper (envOfC "is_alphabet" (defScope s_is_alphabet) s.heap.objs.size f cdv))) (T : Top K mg) :
    PSs (cxOf CX0 P w K mg base N_is_alphabet "is_alphabet" (defScope s_is_alphabet) f cdv A outer s H E).nox (defBody s_is_alphabet) (t_is_alphabet (ct P w K tabs ad)) :=
    have scN := sc_is_alphabet
    (pss_cons (ps_if (PW.pt (pw_or (pt_not (pt_val (pe_callB call_isi rfl T.n_isinstance boot_isinstance (pa_cons (pv 0) (pa_cons (pe_bltn rfl T.n_str boot_str rfl) pa_nil))))) (pw_or1 (pt_not (pt_chain op_le op_le pe_int (pe_callB call_lenF rfl T.n_len boot_len (pa_cons (pv 0) pa_nil)) (pe_gi rfl T.g_MOST_LETTERS)))))) (pss_one (ps_ret pe_bl)) pss_nil)
      (pss_one (ps_ret (pe_callB (cr_all rfl) rfl T.n_all boot_all (pa_cons (pe_lc (own := [("letter", 1)]) (g := (gName 1)) rfl scN.nd (pi_str (pv 0)) (blkOk_by (own := [("letter", 1)]) (N := N_is_alphabet) (sc := defScope s_is_alphabet) (by decide +kernel)) (fun _ _ _ _ _ => (pg_name (i := 1) scN.nd rfl (Or.inl rfl))) (fun _ _ _ _ _ => pts_nil) (fun _ _ _ _ _ => (pe_and (pe_cmpR op_inC (pv 1) (pe_gs rfl T.g_LETTERS) rfl) (pe_one (pe_cmpR op_eq (pe_m1 PySem.F.slot_str_count PySem.F.type_str_count mt_countS (pv 0) (pv 1)) pe_int (nomark _)))))) pa_nil)))))
/-! ### is_word -/
abbrev s_is_word : Stmt := topS 18
abbrev N_is_word : List Str := ["alphabet", "thing", "letter"]
theorem sc_is_word : FnScope N_is_word ["alphabet", "thing"] (defScope s_is_word) := ⟨rfl, rfl, rfl, by decide +kernel, rfl, by decide +kernel, by decide +kernel⟩
def t_is_word (c : Ct) : TS :=
      (tRet (tAndV (tCB (rIsi c.K) (tCons (tVar 1) (tCons (tC (.ty "str")) tNil))) (tCB (rAll c.K) (tCons (tLc (iStr (tVar 1)) (gName 2) tYes (tOp rInC (tVar 2) (tVar 0)) [2]) tNil))))
theorem p_is_word (hr : Room 0 (A.deeper (envOfC "is_word" (defScope s_is_word) s.heap.objs.size f cdv))) (T : Top K mg) :
    PSs (cxOf CX0 P w K mg base N_is_word "is_word" (defScope s_is_word) f cdv A outer s H E).nox (defBody s_is_word) (t_is_word (ct P w K tabs ad)) :=
    have scN := sc_is_word
    (pss_one (ps_ret (pe_and (pe_callB call_isi rfl T.n_isinstance boot_isinstance (pa_cons (pv 1) (pa_cons (pe_bltn rfl T.n_str boot_str rfl) pa_nil))) (pe_one (pe_callB (cr_all rfl) rfl T.n_all boot_all (pa_cons (pe_lc (own := [("letter", 2)]) (g := (gName 2)) rfl scN.nd (pi_str (pv 1)) (blkOk_by (own := [("letter", 2)]) (N := N_is_word) (sc := defScope s_is_word) (by decide +kernel)) (fun _ _ _ _ _ => (pg_name (i := 2) scN.nd rfl (Or.inl rfl))) (fun _ _ _ _ _ => pts_nil) (fun _ _ _ _ _ => (pe_cmpR op_inC (pv 2) (pv 0) rfl))) pa_nil))))))
/-! ### _are_rows -/
abbrev s_are_rows : Stmt := topS 21
abbrev N_are_rows : List Str := ["thing", "letters", "row", "state"]
theorem sc_are_rows : FnScope N_are_rows ["thing", "letters"] (defScope s_are_rows) := ⟨rfl, rfl, rfl, by decide +kernel, rfl, by decide +kernel, by decide +kernel⟩
def t_are_rows (c : Ct) : TS :=
      (tSeq (tIfS (tOr (tNot (tB (tCB (rIsi c.K) (tCons (tVar 0) (tCons (tC (.ty "list")) tNil))))) (tNot (tTest (tChain (rI0 fun i j => .bl (decide (i ≤ j))) (rI0 fun i j => .bl (decide (i ≤ j))) (tC (.int 1)) (tCB (rLenF c.K) (tCons (tVar 0) tNil)) (tC (.int 40)))))) (tRet (tC (.bl false))) tNext)
      (tSeq (tFor (iList c.K (tVar 0)) (gName 2)
      (tSeq (tIfS (tOr (tNot (tB (tCB (rIsi c.K) (tCons (tVar 2) (tCons (tC (.ty "list")) tNil))))) (tTest (tOp rNe (tCB (rLenF c.K) (tCons (tVar 2) tNil)) (tVar 1)))) (tRet (tC (.bl false))) tNext)
      (tFor (iList c.K (tVar 2)) (gName 3)
      (tIfS (tOr (tNot (tB (tCB (rIsi c.K) (tCons (tVar 3) (tCons (tC (.ty "int")) tNil))))) (tOr (tB (tCB (rIsi c.K) (tCons (tVar 3) (tCons (tC (.ty "bool")) tNil)))) (tNot (tTest (tChain (rI0 fun i j => .bl (decide (i ≤ j))) (rI0 fun i j => .bl (decide (i < j))) (tC (.int 0)) (tVar 3) (tCB (rLenF c.K) (tCons (tVar 0) tNil))))))) (tRet (tC (.bl false))) tNext))))
      (tRet (tC (.bl true)))))
theorem p_are_rows (hr : Room 0 (A.deeper (envOfC "_are_rows" (defScope s_are_rows) s.heap.objs.size f cdv))) (T : Top K mg) :
    PSs (cxOf CX0 P w K mg base N_are_rows "_are_rows" (defScope s_are_rows) f cdv A outer s H E).nox (defBody s_are_rows) (t_are_rows (ct P w K tabs ad)) :=
    have scN := sc_are_rows
    (pss_cons (ps_if (PW.pt (pw_or (pt_not (pt_val (pe_callB call_isi rfl T.n_isinstance boot_isinstance (pa_cons (pv 0) (pa_cons (pe_bltn rfl T.n_list boot_list rfl) pa_nil))))) (pw_or1 (pt_not (pt_chain op_le op_le pe_int (pe_callB call_lenF rfl T.n_len boot_len (pa_cons (pv 0) pa_nil)) (pe_gi rfl T.g_MOST_STATES)))))) (pss_one (ps_ret pe_bl)) pss_nil)
      (pss_cons (ps_for PassesOwn.never rfl (pi_list (pv 0)) (pg_name (i := 2) scN.nd rfl (Or.inl rfl))
      (pss_cons (ps_if (PW.pt (pw_or (pt_not (pt_val (pe_callB call_isi rfl T.n_isinstance boot_isinstance (pa_cons (pv 2) (pa_cons (pe_bltn rfl T.n_list boot_list rfl) pa_nil))))) (pw_or1 (pt_cmpR op_ne (pe_callB call_lenF rfl T.n_len boot_len (pa_cons (pv 2) pa_nil)) (pv 1) (nomark _))))) (pss_one (ps_ret pe_bl)) pss_nil)
      (pss_one (ps_for PassesOwn.never rfl (pi_list (pv 2)) (pg_name (i := 3) scN.nd rfl (Or.inl rfl))
      (pss_one (ps_if (PW.pt (pw_or (pt_not (pt_val (pe_callB call_isi rfl T.n_isinstance boot_isinstance (pa_cons (pv 3) (pa_cons (pe_bltn rfl T.n_int boot_int rfl) pa_nil))))) (pw_or (pt_val (pe_callB call_isi rfl T.n_isinstance boot_isinstance (pa_cons (pv 3) (pa_cons (pe_bltn rfl T.n_bool boot_bool rfl) pa_nil)))) (pw_or1 (pt_not (pt_chain op_le op_lt pe_int (pv 3) (pe_callB call_lenF rfl T.n_len boot_len (pa_cons (pv 0) pa_nil)))))))) (pss_one (ps_ret pe_bl)) pss_nil))))))
      (pss_one (ps_ret pe_bl))))
/-! ### _is_table -/
abbrev s_is_table : Stmt := topS 22
abbrev N_is_table : List Str := ["thing", "left", "right", "letters", "writes", "row", "told"]
theorem sc_is_table : FnScope N_is_table ["thing", "left", "right", "letters", "writes"] (defScope s_is_table) := ⟨rfl, rfl, rfl, by decide +kernel, rfl, by decide +kernel, by decide +kernel⟩
def t_is_table (c : Ct) : TS :=
      (tSeq (tIfS (tOr (tNot (tB (tCB (rIsi c.K) (tCons (tVar 0) (tCons (tC (.ty "list")) tNil))))) (tTest (tOp rNe (tCB (rLenF c.K) (tCons (tVar 0) tNil)) (tVar 1)))) (tRet (tC (.bl false))) tNext)
      (tSeq (tFor (iList c.K (tVar 0)) (gName 5)
      (tSeq (tIfS (tOr (tNot (tB (tCB (rIsi c.K) (tCons (tVar 5) (tCons (tC (.ty "list")) tNil))))) (tTest (tOp rNe (tCB (rLenF c.K) (tCons (tVar 5) tNil)) (tVar 2)))) (tRet (tC (.bl false))) tNext)
      (tFor (iList c.K (tVar 5)) (gName 6)
      (tIfS (tOr (tNot (tB (tCall (sp_is_word c) [] E0 (tCons (tVar 4) (tCons (tVar 6) tNil))))) (tTest (tOp rNe (tCB (rLenF c.K) (tCons (tVar 6) tNil)) (tVar 3)))) (tRet (tC (.bl false))) tNext))))
      (tRet (tC (.bl true)))))
theorem p_is_table (hr : Room 1 (A.deeper (envOfC "_is_table" (defScope s_is_table) s.heap.objs.size f cdv))) (T : Top K mg) (C_is_word : Cal P w K mg base CX0 1 "is_word" ["alphabet", "thing"] (sp_is_word (ct P w K tabs ad))) :
    PSs (cxOf CX0 P w K mg base N_is_table "_is_table" (defScope s_is_table) f cdv A outer s H E).nox (defBody s_is_table) (t_is_table (ct P w K tabs ad)) :=
    have scN := sc_is_table
    (pss_cons (ps_if (PW.pt (pw_or (pt_not (pt_val (pe_callB call_isi rfl T.n_isinstance boot_isinstance (pa_cons (pv 0) (pa_cons (pe_bltn rfl T.n_list boot_list rfl) pa_nil))))) (pw_or1 (pt_cmpR op_ne (pe_callB call_lenF rfl T.n_len boot_len (pa_cons (pv 0) pa_nil)) (pv 1) (nomark _))))) (pss_one (ps_ret pe_bl)) pss_nil)
      (pss_cons (ps_for PassesOwn.never rfl (pi_list (pv 0)) (pg_name (i := 5) scN.nd rfl (Or.inl rfl))
      (pss_cons (ps_if (PW.pt (pw_or (pt_not (pt_val (pe_callB call_isi rfl T.n_isinstance boot_isinstance (pa_cons (pv 5) (pa_cons (pe_bltn rfl T.n_list boot_list rfl) pa_nil))))) (pw_or1 (pt_cmpR op_ne (pe_callB call_lenF rfl T.n_len boot_len (pa_cons (pv 5) pa_nil)) (pv 2) (nomark _))))) (pss_one (ps_ret pe_bl)) pss_nil)
      (pss_one (ps_for PassesOwn.never rfl (pi_list (pv 5)) (pg_name (i := 6) scN.nd rfl (Or.inl rfl))
      (pss_one (ps_if (PW.pt (pw_or (pt_not (pt_val (pe_cal C_is_word (hr.mono (by decide)) rfl pass0 (pa_cons (pv 4) (pa_cons (pv 6) pa_nil))))) (pw_or1 (pt_cmpR op_ne (pe_callB call_lenF rfl T.n_len boot_len (pa_cons (pv 6) pa_nil)) (pv 3) (nomark _))))) (pss_one (ps_ret pe_bl)) pss_nil))))))
      (pss_one (ps_ret pe_bl))))
end
end Fx
/-! text FxA -/
namespace Fx
open PySem L2 Evl PyProof.Rows Mir

/-! ### little facts about the lists -/
theorem eIs_get {ns : List Nat} {i : Nat} {x : D} (h : (ns.map eI)[i]? = some x) : ∃ n, ns[i]? = some n ∧ x = eI n := by
  rw [List.getElem?_map] at h
  cases e : ns[i]? with
  | none => rw [e] at h; cases h
  | some n => rw [e] at h; exact ⟨n, rfl, (Option.some.inj h).symm⟩
theorem row_eq {rows : List (List Nat)} {s : Nat} (h : s < rows.length) : rows[s]? = some (row rows s) := by
  unfold row
  rw [List.getD_eq_getElem?_getD, List.getElem?_eq_getElem h]
  rfl
theorem row_mem {rows : List (List Nat)} {s : Nat} (h : s < rows.length) : row rows s ∈ rows := List.mem_of_getElem? (row_eq h)
theorem at_rows {rows : List (List Nat)} {s : Nat} (h : s < rows.length) : L2.atI (rows.map eIs) (s : Int) = some (eIs (row rows s)) := by
  refine at_nat ?_
  rw [List.getElem?_map, row_eq h]
  rfl
theorem at_ints {ns : List Nat} {i : Nat} (h : i < ns.length) : L2.atI (ns.map eI) (i : Int) = some (eI (ns.getD i 0)) := by
  refine at_nat ?_
  rw [List.getElem?_map, List.getD_eq_getElem?_getD, List.getElem?_eq_getElem h]
  rfl
/-- a dict from states -/
def fnd (order : List Nat) (f : Nat → D) : List (Key × D) := order.map fun (s : Nat) => ((Sum.inl (s : Int) : Key), f s)
theorem fnd_val (order : List Nat) (f : Nat → D) (s : Nat) : valD (fnd order f) (Sum.inl (s : Int)) = if s ∈ order then some (f s) else none := by
  induction order with
  | nil => rfl
  | cons a r ih =>
    by_cases h : a = s
    · subst h
      simp [fnd, valD]
    · have h1 : ¬ ((a : Int) = (s : Int)) := by omega
      have h2 : ¬ s = a := fun e => h e.symm
      have e : valD (fnd (a :: r) f) (Sum.inl (s : Int)) = valD (fnd r f) (Sum.inl (s : Int)) := by
        simp [fnd, valD, List.find?_cons, h1]
      rw [e, ih]
      simp [h2]
theorem fnd_put (order : List Nat) (f : Nat → D) (s : Nat) (d : D) (h : s ∉ order) : putD (fnd order f) (Sum.inl (s : Int)) d = fnd (order ++ [s]) (fun x => if x = s then d else f x) := by
  unfold putD
  rw [fnd_val, if_neg h]
  show fnd order f ++ [(Sum.inl (s : Int), d)] = _
  unfold fnd
  rw [List.map_append]
  congr 1
  · refine List.map_congr_left fun x hx => ?_
    have : x ≠ s := fun e => h (e ▸ hx)
    show _ = (Sum.inl (x : Int), if x = s then d else f x)
    rw [if_neg this]
  · simp
theorem fnd_len (order : List Nat) (f : Nat → D) : (fnd order f).length = order.length := by simp [fnd]
theorem nodup_le : ∀ {n : Nat} {order : List Nat}, order.Nodup → (∀ s ∈ order, s < n) → order.length ≤ n
  | 0, [], _, _ => Nat.le_refl _
  | 0, a :: r, _, h => absurd (h a List.mem_cons_self) (Nat.not_lt_zero _)
  | n + 1, order, hn, h => by
    have h1 := nodup_le (n := n) (hn.erase n) fun s hs => by
      obtain ⟨a, b⟩ := (hn.mem_erase_iff).mp hs
      have := h s b
      omega
    rw [List.length_erase] at h1
    split at h1 <;> omega

/-! ### the mirror's queue -/
theorem addRow_nil (o : List Nat) : addRow o [] = o := rfl
theorem addRow_snoc (o r : List Nat) (x : Nat) : addRow o (r ++ [x]) = if x ∈ addRow o r then addRow o r else addRow o r ++ [x] := by
  unfold addRow
  rw [List.foldl_append]
  rfl
theorem numd_get {xs : List D} {i : Nat} {x : D} (h : (numd xs)[i]? = some x) : ∃ y, xs[i]? = some y ∧ x = .tup [.int (i : Nat), y] := by
  unfold numd at h
  rw [List.getElem?_mapIdx] at h
  cases e : xs[i]? with
  | none => rw [e] at h; cases h
  | some y => rw [e] at h; exact ⟨y, rfl, (Option.some.inj h).symm⟩
theorem numd_length (xs : List D) : (numd xs).length = xs.length := by simp [numd]
theorem take_snoc {α : Type} {xs : List α} {i : Nat} {x : α} (h : xs[i]? = some x) : xs.take (i + 1) = xs.take i ++ [x] := by
  rw [List.take_add_one, h]
  rfl

/-- what the queue keeps -/
structure QOk (rows : List (List Nat)) (at_ : Nat) (order : List Nat) (f : Nat → List D) : Prop where
  nd : order.Nodup
  lt : ∀ s ∈ order, s < rows.length
  len : ∀ (j : Nat) s, order[j]? = some s → (f s).length ≤ j
  le : at_ ≤ order.length
theorem QOk.add {rows : List (List Nat)} {at_ : Nat} {order : List Nat} {f : Nat → List D} {s : Nat} {ds : List D} (q : QOk rows at_ order f) (hs : s < rows.length) (hn : s ∉ order) (hd : ds.length ≤ order.length) :
    QOk rows at_ (order ++ [s]) (fun x => if x = s then ds else f x) := by
  refine ⟨?_, fun x hx => ?_, fun j x hx => ?_, by rw [List.length_append]; have := q.le; omega⟩
  · rw [List.nodup_append]
    exact ⟨q.nd, by simp, fun a ha b hb e => by simp at hb; subst hb; exact hn (e ▸ ha)⟩
  · rcases List.mem_append.mp hx with h | h
    · exact q.lt x h
    · simp at h; subst h; exact hs
  · by_cases hj : j < order.length
    · rw [List.getElem?_append_left hj] at hx
      have : x ≠ s := fun e => hn (e ▸ List.mem_of_getElem? hx)
      show (if x = s then ds else f x).length ≤ j
      rw [if_neg this]
      exact q.len j x hx
    · rw [List.getElem?_append_right (by omega)] at hx
      have hj2 : j - order.length = 0 := by
        cases e : j - order.length with
        | zero => rfl
        | succ m => rw [e] at hx; simp at hx
      rw [hj2] at hx
      simp at hx
      subst hx
      show (if s = s then ds else f s).length ≤ j
      rw [if_pos rfl]
      omega

section
variable {c : Ct} {E : XK}
theorem as_reached_behind (rows : List (List Nat)) (h : RowsOk rows.length rows ∧ 1 ≤ rows.length ∧ rows.length ≤ 100) :
    AS c E (t_reached_behind c) (entry N_reached_behind [eRows rows, .int 0]) { nx := fun _ => False, rt := fun d => ∃ f : Nat → List D, d = .lst ((behind rows).map fun s => .tup [eI s, .tup (f s)]) } := by
  obtain ⟨ok, n1, nN⟩ := h
  show AS c E _ [some (.dat (eRows rows)), some (.dat (.int 0)), none, none, none, none, none, none] _
  refine as_seq (as_disp1 (key := .inl 0) (ev_var rfl) (ev_tup ea_nil) ?_)
  refine as_seq (as_new (ea_cons (ev_var rfl) ea_nil) (by simp) ?_)
  refine as_seq (as_setE ev_int ?_)
  show AS c E _ [some (.dat (eRows rows)), some (.dat (.int 0)), some (.mk (fnd [0] fun _ => .tup [])), some (.ml ([0].map eI)), some (.dat (eI 0)), none, none, none] _
  refine as_seq (as_while (fun m ρ => ∃ at_ order f, m = rows.length - at_ ∧ QOk rows at_ order f ∧ queue rows (rows.length + 1 - at_) at_ order = behind rows ∧
    ρ = [some (.dat (eRows rows)), some (.dat (.int 0)), some (.mk (fnd order fun s => .tup (f s))), some (.ml (order.map eI)), some (.dat (eI at_)), none, none, none]) rows.length ?_ ?_)
  · exact ⟨0, [0], fun _ => [], rfl, ⟨by simp, by simp; omega, fun j s _ => Nat.zero_le _, Nat.zero_le _⟩, rfl, rfl⟩
  · rintro m ρ ⟨at_, order, f, rfl, q, hq, rfl⟩
    refine ⟨decide ((at_ : Int) < ((order.map eI).length : Int)), et_test (ev_opE (ev_var rfl) (ev_lenM rfl) rop_B0), fun hb => ?_, fun hb => ?_⟩
    · have hlt : at_ < order.length := by simpa using hb
      have hN : order.length ≤ rows.length := nodup_le q.nd q.lt
      have hs : order.getD at_ 0 < rows.length := by
        refine q.lt _ ?_
        rw [List.getD_eq_getElem?_getD, List.getElem?_eq_getElem hlt]
        exact List.getElem_mem hlt
      generalize hst : order.getD at_ 0 = st at hs
      refine as_seq (as_setE (ev_ixM rfl (ev_var rfl) (at_ints hlt)) ?_)
      rw [hst]
      show AS c E _ [some (.dat (eRows rows)), some (.dat (.int 0)), some (.mk (fnd order fun s => .tup (f s))), some (.ml (order.map eI)), some (.dat (eI at_)), some (.dat (eI st)), none, none] _
      have hr : (row rows st).length = 2 ∧ ∀ s ∈ row rows st, s < rows.length := ok.2 _ (row_mem hs)
      refine as_seq (as_for (ei_enum (xs := (row rows st).map eI) (ea_cons (ev_opE (ev_var rfl) (ev_var rfl) (rop_ixL (at_rows hs))) ea_nil))
        (fun i ρ => ∃ f', QOk rows at_ (addRow order ((row rows st).take i)) f' ∧ st ∈ addRow order ((row rows st).take i) ∧ (f' st).length ≤ at_ ∧ order.length ≤ (addRow order ((row rows st).take i)).length ∧
          ρ = [some (.dat (eRows rows)), some (.dat (.int 0)), some (.mk (fnd (addRow order ((row rows st).take i)) fun s => .tup (f' s))), some (.ml ((addRow order ((row rows st).take i)).map eI)), some (.dat (eI at_)), some (.dat (eI st)), none, none]) ?_ ?_ ?_)
      · have hst' : order[at_]? = some st := by rw [← hst, List.getD_eq_getElem?_getD, List.getElem?_eq_getElem hlt]; rfl
        exact ⟨f, q, List.mem_of_getElem? hst', q.len at_ st hst', Nat.le_refl _, rfl⟩
      · rintro i x ρ hx ⟨f', q', hm, hl, hle, rfl⟩
        obtain ⟨y, hy, rfl⟩ := numd_get hx
        obtain ⟨o, ho, rfl⟩ := eIs_get hy
        have hon : o < rows.length := hr.2 o (List.mem_of_getElem? ho)
        refine ⟨_, _, eg_tup2, ?_⟩
        rw [take_snoc ho, addRow_snoc]
        generalize addRow order ((row rows st).take i) = od at q' hm hle ⊢
        have hN' : od.length ≤ rows.length := nodup_le q'.nd q'.lt
        refine as_ifT (et_B (ev_notInK (key := .inl (o : Int)) (ev_var rfl) rfl)) (fun hb2 => ?_) (fun hb2 => ?_)
        · rw [fnd_val] at hb2
          have hno : o ∉ od := fun z => by rw [if_pos z] at hb2; cases hb2
          refine as_seq (as_putK (key := .inl (o : Int)) rfl (ev_opE (ev_getK (key := .inl (st : Int)) rfl (ev_var rfl) (by rw [fnd_val, if_pos hm])) (ev_tup (ea_cons (ev_var rfl) ea_nil)) (rop_catT (by show (f' st).length + 1 ≤ 100000; omega))) (ev_var rfl) (by rw [fnd_len]; omega) ?_)
          refine as_appE rfl (ev_var rfl) (by rw [List.length_map]; omega) ?_
          rw [fnd_put _ _ _ _ hno, if_neg hno]
          have e : ∀ s, (if s = o then D.tup (f' st ++ [D.int (i : Nat)]) else D.tup (f' s)) = D.tup (if s = o then f' st ++ [D.int (i : Nat)] else f' s) := fun s => by split <;> rfl
          simp only [e]
          refine ⟨_, .keep (.keep (.keep (.keep (.keep (.keep (.drop (.drop .nil))))))), fun x => if x = o then f' st ++ [D.int (i : Nat)] else f' x, q'.add hon hno (by rw [List.length_append]; show _ + 1 ≤ _; omega), List.mem_append_left _ hm, ?_, by rw [List.length_append]; omega, ?_⟩
          · have : st ≠ o := fun z => hno (z ▸ hm)
            show (if st = o then _ else f' st).length ≤ at_
            rw [if_neg this]
            exact hl
          · rw [List.map_append]
            rfl
        · rw [fnd_val] at hb2
          have hno : o ∈ od := Classical.byContradiction fun z => by rw [if_neg z] at hb2; cases hb2
          rw [if_pos hno]
          exact as_next ⟨_, .keep (.keep (.keep (.keep (.keep (.keep (.drop (.drop .nil))))))), f', q', hm, hl, hle, rfl⟩
      · rintro ρ ⟨f', q', hm, hl, hle, rfl⟩
        have hfull : (row rows st).take (numd ((row rows st).map eI)).length = row rows st := by
          rw [numd_length, List.length_map, List.take_length]
        rw [hfull] at q' hm hle ⊢
        refine as_aug rfl ev_int ?_
        refine ⟨_, rows.length - (at_ + 1), .keep (.keep (.keep (.keep (.keep (.drop (.drop (.drop .nil))))))), by omega, at_ + 1, addRow order (row rows st), f', rfl, ⟨q'.nd, q'.lt, q'.len, by omega⟩, ?_, rfl⟩
        have e1 : rows.length + 1 - at_ = (rows.length + 1 - (at_ + 1)) + 1 := by omega
        rw [e1, queue, if_pos hlt, hst] at hq
        exact hq
    · have hge : ¬ at_ < order.length := by simpa using hb
      have hN : order.length ≤ rows.length := nodup_le q.nd q.lt
      have hle := q.le
      have e1 : rows.length + 1 - at_ = (rows.length - at_) + 1 := by omega
      rw [e1, queue, if_neg hge] at hq
      refine as_frz (i := 3) rfl ?_
      refine as_retE (ev_lcE (ei_list (ev_var rfl)) (by rw [List.length_map]; omega) (fun d => match d with | .int n => .tup [.int n, .tup (f n.toNat)] | d => d) fun i x hx => ?_) ⟨f, ?_⟩
      · obtain ⟨s, hs, rfl⟩ := eIs_get hx
        exact ⟨_, _, eg_name, by simp, ev_tup (ea_cons (ev_var rfl) (ea_cons (ev_getK (key := .inl (s : Int)) rfl (ev_var rfl) (by rw [fnd_val, if_pos (List.mem_of_getElem? hs)]; rfl)) ea_nil))⟩
      · rw [List.map_map, ← hq]
        congr 1
end
end Fx
/-! text FxB -/
namespace Fx
open PySem L2 Evl PyProof.Rows Mir

/-- one letter's turn over a level -/
def inner (rows : List (List Nat)) (k : Nat) (o lv : List Nat) : List Nat := lv.foldl (fun o s => if (row rows s).getD k 0 ∈ o then o else o ++ [(row rows s).getD k 0]) o
theorem inner_snoc (rows : List (List Nat)) (k : Nat) (o lv : List Nat) (s : Nat) : inner rows k o (lv ++ [s]) = if (row rows s).getD k 0 ∈ inner rows k o lv then inner rows k o lv else inner rows k o lv ++ [(row rows s).getD k 0] := by
  unfold inner
  rw [List.foldl_append]
  rfl
theorem addLevel_eq (rows : List (List Nat)) (o lv : List Nat) : addLevel rows 2 o lv = inner rows 1 (inner rows 0 o lv) lv := rfl
def lev2 (rows : List (List Nat)) (o lv : List Nat) (i : Nat) : List Nat := (List.range i).foldl (fun o k => inner rows k o lv) o
theorem lev2_succ (rows : List (List Nat)) (o lv : List Nat) (i : Nat) : lev2 rows o lv (i + 1) = inner rows i (lev2 rows o lv i) lv := by
  unfold lev2
  rw [List.range_succ, List.foldl_append]
  rfl
theorem at_rows2 {rows : List (List Nat)} {s k : Nat} (h : s < rows.length) (hk : k < (row rows s).length) : L2.atI ((row rows s).map eI) (k : Int) = some (eI ((row rows s).getD k 0)) := at_ints hk

section
variable {c : Ct} {E : XK}
theorem as_reached_in_front (rows : List (List Nat)) (h : RowsOk rows.length rows ∧ 1 ≤ rows.length ∧ rows.length ≤ 100) :
    AS c E (t_reached_in_front c) (entry N_reached_in_front [eRows rows, .int 0, .int 2]) { nx := fun _ => False, rt := fun d => ∃ f : Nat → List D, d = .lst ((front rows).map fun s => .tup [eI s, .tup (f s)]) } := by
  obtain ⟨ok, n1, nN⟩ := h
  refine as_seq (as_disp1 (key := .inl 0) (ev_var rfl) (ev_tup ea_nil) ?_)
  refine as_seq (as_new (ea_cons (ev_var rfl) ea_nil) (by simp) ?_)
  refine as_seq (as_setE (ev_lst (ea_cons (ev_var rfl) ea_nil)) ?_)
  refine as_seq (as_while (fun m ρ => ∃ order level f fuel, m = (rows.length - order.length) + (if level.isEmpty then 0 else 1) ∧ QOk rows 0 order f ∧ (∀ s ∈ level, s ∈ order) ∧ levels rows 2 fuel order level = front rows ∧
    (level.isEmpty = false → rows.length - order.length + 2 ≤ fuel) ∧
    ρ = [some (.dat (eRows rows)), some (.dat (.int 0)), some (.dat (.int 2)), some (.mk (fnd order fun s => .tup (f s))), some (.ml (order.map eI)), some (.dat (eIs level)), none, none, none, none]) (rows.length - 1 + 1) ?_ ?_)
  · refine ⟨[0], [0], fun _ => [], rows.length + 1, rfl, ⟨by simp, by simp; omega, fun j s _ => Nat.zero_le _, Nat.zero_le _⟩, by simp, rfl, fun _ => ?_, rfl⟩
    show rows.length - 1 + 2 ≤ _
    omega
  · rintro m ρ ⟨order, level, f, fuel, rfl, q, hsub, hlv, hfu, rfl⟩
    have hN : order.length ≤ rows.length := nodup_le q.nd q.lt
    refine ⟨!(level.map eI).isEmpty, et_trL (ev_var rfl), fun hb => ?_, fun hb => ?_⟩
    · have hne : level.isEmpty = false := by simpa using hb
      obtain ⟨fuel', rfl⟩ : ∃ k, fuel = k + 1 := ⟨fuel - 1, by have := hfu hne; omega⟩
      rw [levels, hne] at hlv
      refine as_seq (as_new ea_nil (by simp) ?_)
      have hlen : ∀ s ∈ order, (f s).length < order.length := fun s hs => by
        obtain ⟨j, hj, e⟩ := List.mem_iff_getElem.mp hs
        have := q.len j s (by rw [List.getElem?_eq_getElem hj, e])
        omega
      refine as_seq (as_for (ei_rng1 (ea_cons (ev_var rfl) ea_nil) (by omega))
        (fun i ρ => i ≤ 2 ∧ ∃ fresh f', lev2 rows order level i = order ++ fresh ∧ QOk rows 0 (order ++ fresh) f' ∧ (∀ s ∈ order, (f' s).length < order.length) ∧
          ρ = [some (.dat (eRows rows)), some (.dat (.int 0)), some (.dat (.int 2)), some (.mk (fnd (order ++ fresh) fun s => .tup (f' s))), some (.ml (order.map eI)), some (.dat (eIs level)), some (.ml (fresh.map eI)), none, none, none]) ?_ ?_ ?_)
      · refine ⟨by omega, [], f, by simp [lev2], by rw [List.append_nil]; exact q, hlen, ?_⟩
        rw [List.append_nil]
        rfl
      · rintro k x ρ hx ⟨_, fresh, f', hfo, q', hl', rfl⟩
        obtain ⟨hk, rfl⟩ := upTo_get hx
        have hk2 : k < 2 := hk
        refine ⟨_, _, eg_name, ?_⟩
        have e0 : (0 : Int) + (k : Nat) = (k : Nat) := by omega
        rw [e0]
        refine as_for (ei_list (xs := level.map eI) (ev_var rfl))
          (fun i ρ => ∃ fresh f', inner rows k (lev2 rows order level k) (level.take i) = order ++ fresh ∧ QOk rows 0 (order ++ fresh) f' ∧ (∀ s ∈ order, (f' s).length < order.length) ∧
            ρ = [some (.dat (eRows rows)), some (.dat (.int 0)), some (.dat (.int 2)), some (.mk (fnd (order ++ fresh) fun s => .tup (f' s))), some (.ml (order.map eI)), some (.dat (eIs level)), some (.ml (fresh.map eI)), some (.dat (eI k)), none, none]) ?_ ?_ ?_
        · exact ⟨fresh, f', by rw [hfo]; rfl, q', hl', rfl⟩
        · clear fresh f' hfo q' hl'
          rintro i x ρ hx ⟨fresh, f', hfo, q', hl', rfl⟩
          obtain ⟨st, hst, rfl⟩ := eIs_get hx
          have hm : st ∈ order := hsub _ (List.mem_of_getElem? hst)
          have hs : st < rows.length := q.lt _ hm
          have hr : (row rows st).length = 2 ∧ ∀ s ∈ row rows st, s < rows.length := ok.2 _ (row_mem hs)
          refine ⟨_, _, eg_name, ?_⟩
          refine as_seq (as_setE (ev_opE (ev_opE (ev_var rfl) (ev_var rfl) (rop_ixL (at_rows hs))) (ev_var rfl) (rop_ixL (at_ints (by omega)))) ?_)
          rw [take_snoc hst, inner_snoc, hfo]
          generalize ho : (row rows st).getD k 0 = o
          have hon : o < rows.length := by
            rw [← ho, List.getD_eq_getElem?_getD, List.getElem?_eq_getElem (by omega)]
            exact hr.2 _ (List.getElem_mem _)
          have hN' : (order ++ fresh).length ≤ rows.length := nodup_le q'.nd q'.lt
          rw [List.length_append] at hN'
          refine as_ifT (et_B (ev_notInK (key := .inl (o : Int)) (ev_var rfl) rfl)) (fun hb2 => ?_) (fun hb2 => ?_)
          · rw [fnd_val] at hb2
            have hno : o ∉ order ++ fresh := fun z => by rw [if_pos z] at hb2; cases hb2
            have hm' : st ∈ order ++ fresh := List.mem_append_left _ hm
            have hln := hl' st hm
            refine as_seq (as_putK (key := .inl (o : Int)) rfl (ev_opE (ev_tup (ea_cons (ev_var rfl) ea_nil)) (ev_getK (key := .inl (st : Int)) rfl (ev_var rfl) (by rw [fnd_val, if_pos hm'])) (rop_catT (by show 1 + (f' st).length ≤ 100000; omega))) (ev_var rfl) (by rw [fnd_len, List.length_append]; omega) ?_)
            refine as_appE rfl (ev_var rfl) (by rw [List.length_map]; omega) ?_
            rw [fnd_put _ _ _ _ hno, if_neg hno]
            have e : ∀ s, (if s = o then D.tup ([eI k] ++ f' st) else D.tup (f' s)) = D.tup (if s = o then [eI k] ++ f' st else f' s) := fun s => by split <;> rfl
            simp only [e]
            refine ⟨_, .keep (.keep (.keep (.keep (.keep (.keep (.keep (.keep (.drop (.drop .nil))))))))), fresh ++ [o], fun x => if x = o then [eI k] ++ f' st else f' x, by rw [List.append_assoc], ?_, fun s hs' => ?_, ?_⟩
            · rw [← List.append_assoc]
              refine q'.add hon hno ?_
              rw [List.length_append, List.length_append]
              show 1 + _ ≤ _
              omega
            · have : s ≠ o := fun z => hno (z ▸ List.mem_append_left _ hs')
              show (if s = o then _ else f' s).length < _
              rw [if_neg this]
              exact hl' s hs'
            · rw [List.map_append, List.append_assoc]
              rfl
          · rw [fnd_val] at hb2
            have hno : o ∈ order ++ fresh := Classical.byContradiction fun z => by rw [if_neg z] at hb2; cases hb2
            rw [if_pos hno]
            exact as_next ⟨_, .keep (.keep (.keep (.keep (.keep (.keep (.keep (.keep (.drop (.drop .nil))))))))), fresh, f', rfl, q', hl', rfl⟩
        · clear fresh f' hfo q' hl'
          rintro ρ ⟨fresh, f', hfo, q', hl', rfl⟩
          rw [List.length_map, List.take_length] at hfo
          exact ⟨_, .keep (.keep (.keep (.keep (.keep (.keep (.keep (.drop (.keep (.keep .nil))))))))), by omega, fresh, f', by rw [lev2_succ]; exact hfo, q', hl', rfl⟩
      · rintro ρ ⟨_, fresh, f', hfo, q', hl', rfl⟩
        rw [upTo_length] at hfo
        have hfo2 : addLevel rows 2 order level = order ++ fresh := hfo
        have hN' : (order ++ fresh).length ≤ rows.length := nodup_le q'.nd q'.lt
        rw [List.length_append] at hN'
        refine as_frz (i := 6) rfl ?_
        refine as_seq (as_ext rfl (ev_var rfl) (by rw [List.length_map, List.length_map]; omega) ?_)
        refine as_setE (ev_var rfl) ?_
        refine ⟨_, (rows.length - (order ++ fresh).length) + (if fresh.isEmpty then 0 else 1), .keep (.keep (.keep (.keep (.keep (.keep (.drop (.keep (.keep (.keep .nil))))))))), ?_, order ++ fresh, fresh, f', fuel', rfl, q', fun s hs => List.mem_append_right _ hs, ?_, fun hf => ?_, ?_⟩
        · rw [List.length_append, hne]
          cases fresh with
          | nil => simp
          | cons a r => simp only [List.length_cons] at hN' ⊢; simp; omega
        · rw [hfo2] at hlv
          simpa using hlv
        · have := hfu hne
          have h1 : 1 ≤ fresh.length := by
            cases fresh with
            | nil => cases hf
            | cons a r => simp
          rw [List.length_append]
          omega
        · rw [List.map_append]
          rfl
    · have hne : level = [] := by
        cases level with
        | nil => rfl
        | cons a r => cases hb
      subst hne
      have ho : order = front rows := by
        rw [← hlv]
        cases fuel <;> rfl
      subst ho
      refine as_frz (i := 4) rfl ?_
      refine as_retE (ev_lcE (ei_list (ev_var rfl)) (by rw [List.length_map]; omega) (fun d => match d with | .int n => .tup [.int n, .tup (f n.toNat)] | d => d) fun i x hx => ?_) ⟨f, ?_⟩
      · obtain ⟨s, hs, rfl⟩ := eIs_get hx
        exact ⟨_, _, eg_name, by simp, ev_tup (ea_cons (ev_var rfl) (ea_cons (ev_getK (key := .inl (s : Int)) rfl (ev_var rfl) (by rw [fnd_val, if_pos (List.mem_of_getElem? hs)]; rfl)) ea_nil))⟩
      · rw [List.map_map]
        congr 1
end
end Fx
/-! text FxC -/
namespace Fx
open PySem L2 Evl PyProof.Rows Mir

section
variable {c : Ct} {ρ : Env} {te tl : TE} {wi : TI} {tg : TG} {vs : List Nat}
theorem map_get {α : Type} {e : α → D} {xs : List α} {i : Nat} {x : D} (h : (xs.map e)[i]? = some x) : ∃ y, xs[i]? = some y ∧ x = e y := by
  rw [List.getElem?_map] at h
  cases q : xs[i]? with
  | none => rw [q] at h; cases h
  | some n => rw [q] at h; exact ⟨n, rfl, (Option.some.inj h).symm⟩
/-- a comprehension over data that stand for xs -/
theorem ev_lcM {α : Type} {xs : List α} {e g : α → D} (h : EvI c wi ρ (xs.map e)) (hz : xs.length ≤ 100000)
    (ht : ∀ (i : Nat) x, xs[i]? = some x → ∃ ρ' js, EvG c tg (wipeE ρ vs) (e x) ρ' js ∧ (∀ j, j ∈ js → j ∈ vs) ∧ EvE c te ρ' (g x)) : EvE c (tLc wi tg tYes te vs) ρ (.lst (xs.map g)) := by
  refine (ev_lcP h (by rw [List.length_map]; exact hz) (fun i ds => ds = (xs.take i).map g) rfl fun i x hx => ?_).imp ?_
  · obtain ⟨y, hy, rfl⟩ := map_get hx
    obtain ⟨ρ', js, h1, h2, h3⟩ := ht i y hy
    refine ⟨ρ', js, h1, h2, true, fun G0 H0 σ G H r Q q => q true G H rfl (.refl r.ok), fun _ => h3.imp ?_, fun z => by cases z⟩
    rintro y' rfl ds rfl
    rw [List.take_add_one, hy]
    simp
  · rintro d ⟨ds, rfl, rfl⟩
    rw [List.length_map, List.take_length]
/-- .. with one name -/
theorem ev_lc1 {α : Type} {xs : List α} {e g : α → D} {j : Nat} (h : EvI c wi ρ (xs.map e)) (hz : xs.length ≤ 100000)
    (ht : ∀ (i : Nat) x, xs[i]? = some x → EvE c te ((wipeE ρ [j]).set j (some (.dat (e x)))) (g x)) : EvE c (tLc wi (gName j) tYes te [j]) ρ (.lst (xs.map g)) :=
  ev_lcM h hz fun i x hx => ⟨_, _, eg_name, fun _ h => h, ht i x hx⟩
/-- .. with two, over pairs -/
theorem ev_lc2 {α : Type} {xs : List α} {e1 e2 g : α → D} {i j : Nat} (h : EvI c wi ρ (xs.map fun x => .tup [e1 x, e2 x])) (hz : xs.length ≤ 100000)
    (ht : ∀ (n : Nat) x, xs[n]? = some x → EvE c te (((wipeE ρ [i, j]).set i (some (.dat (e1 x)))).set j (some (.dat (e2 x)))) (g x)) : EvE c (tLc wi (gTup c.K 2 (gCons (gName i) (gCons (gName j) gNil))) tYes te [i, j]) ρ (.lst (xs.map g)) :=
  ev_lcM h hz fun i x hx => ⟨_, _, eg_tup2, fun _ h => h, ht i x hx⟩
theorem upTo_map (n : Nat) : upTo 0 n = (List.range n).map eI := by
  unfold upTo
  refine List.map_congr_left fun x _ => ?_
  show D.int _ = D.int _
  congr 1
  omega
theorem numd_map {α : Type} (e : α → D) (xs : List α) : numd (xs.map e) = (xs.zipIdx).map fun p => .tup [eI p.2, e p.1] := by
  unfold numd
  rw [List.mapIdx_eq_zipIdx_map, List.zipIdx_map, List.map_map]
  rfl
theorem lst_of {xs ys : List D} (e : xs = ys) {te : TE} (h : EvE c te ρ (.lst xs)) : EvE c te ρ (.lst ys) := e ▸ h
end

/-! ### kept_rows -/
def fkP : D → Key
  | .tup [_, .int s] => .inl s
  | _ => .inl 0
def fdP : D → D
  | .tup [v, _] => v
  | d => d
theorem numd_snoc (xs : List D) (x : D) : numd (xs ++ [x]) = numd xs ++ [.tup [.int (xs.length : Nat), x]] := by
  unfold numd
  rw [List.mapIdx_append]
  simp
theorem place_eq : ∀ (order : List Nat), order.Nodup → (numd (order.map eI)).foldl (fun kds x => putD kds (fkP x) (fdP x)) [] = fnd order (fun s => eI (order.idxOf s)) := by
  have aux : ∀ (n : Nat) (order : List Nat), order.length = n → order.Nodup → (numd (order.map eI)).foldl (fun kds x => putD kds (fkP x) (fdP x)) [] = fnd order (fun s => eI (order.idxOf s)) := by
    intro n
    induction n with
    | zero =>
      intro order hl _
      obtain rfl := List.eq_nil_of_length_eq_zero hl
      rfl
    | succ n ih =>
      intro order hl hn
      have hne : order ≠ [] := fun z => by subst z; cases hl
      obtain ⟨o, s, rfl⟩ : ∃ o s, order = o ++ [s] := ⟨_, _, (List.dropLast_concat_getLast hne).symm⟩
      have ho : o.length = n := by simpa using hl
      rw [List.nodup_append] at hn
      obtain ⟨h1, _, h3⟩ := hn
      have hs : s ∉ o := fun z => h3 s z s (by simp) rfl
      rw [List.map_append, List.map_singleton, numd_snoc, List.foldl_append, ih o ho h1]
      show putD (fnd o fun x => eI (o.idxOf x)) (.inl (s : Int)) (.int _) = _
      rw [fnd_put _ _ _ _ hs]
      unfold fnd
      refine List.map_congr_left fun x hx => ?_
      show (Sum.inl (x : Int), if x = s then D.int _ else eI (o.idxOf x)) = (Sum.inl (x : Int), eI ((o ++ [s]).idxOf x))
      congr 1
      by_cases e : x = s
      · subst e
        rw [if_pos rfl, List.idxOf_append, if_neg hs, List.length_map]
        simp
      · have hx' : x ∈ o := by
          rcases List.mem_append.mp hx with z | z
          · exact z
          · exact absurd (by simpa using z) e
        rw [if_neg e, List.idxOf_append, if_pos hx']
  exact fun order hn => aux _ order rfl hn
section
variable {c : Ct} {E : XK}
theorem as_kept_rows (i : List (List Nat) × List Nat) (h : RowsOk i.1.length i.1 ∧ i.1.length ≤ 100 ∧ i.2.Nodup ∧ (∀ s ∈ i.2, s < i.1.length) ∧ ∀ s ∈ i.2, ∀ o ∈ row i.1 s, o ∈ i.2) :
    AS c E (t_kept_rows c) (entry N_kept_rows [eRows i.1, eIs i.2]) { nx := fun _ => False, rt := fun d => d = eRows (kept i.1 i.2) } := by
  obtain ⟨rows, order⟩ := i
  obtain ⟨ok, nN, nd, lt, cl⟩ := h
  have hN : order.length ≤ rows.length := nodup_le nd lt
  refine as_seq (as_dc (ei_enum (xs := order.map eI) (ea_cons (ev_var rfl) ea_nil)) (by rw [numd_length, List.length_map]; show order.length ≤ _; have : rows.length ≤ 100 := nN; omega) fkP fdP (fun i x hx => ?_) ?_)
  · obtain ⟨y, hy, rfl⟩ := numd_get hx
    obtain ⟨s, hs, rfl⟩ := map_get hy
    exact ⟨_, _, eg_tup2, fun _ h => h, ev_var rfl, ev_var rfl⟩
  · rw [place_eq order nd]
    refine as_retE (ev_lc1 (xs := order) (e := eI) (g := fun s => eIs ((row rows s).map fun o => order.idxOf o)) (ei_list (ev_var rfl)) (by have : rows.length ≤ 100 := nN; omega) fun i s hs => ?_) ?_
    · have hm : s ∈ order := List.mem_of_getElem? hs
      have hr := ok.2 _ (row_mem (lt s hm))
      refine lst_of (List.map_map).symm (ev_lc1 (xs := row rows s) (e := eI) (g := fun o => eI (order.idxOf o)) (ei_list (ev_opE (ev_var rfl) (ev_var rfl) (rop_ixL (at_rows (lt s hm))))) (by rw [hr.1]; decide) fun j o ho => ?_)
      refine ev_getK (key := .inl (o : Int)) rfl (ev_var rfl) ?_
      rw [fnd_val, if_pos (cl s hm o (List.mem_of_getElem? ho))]
    · show D.lst _ = D.lst _
      unfold kept
      rw [List.map_map]
      rfl
end

/-! ### _numbered -/
theorem firsts_nil {α : Type} [DecidableEq α] : firsts ([] : List α) = [] := rfl
theorem firsts_snoc {α : Type} [DecidableEq α] (xs : List α) (x : α) : firsts (xs ++ [x]) = if x ∈ firsts xs then firsts xs else firsts xs ++ [x] := by
  unfold firsts
  rw [List.foldl_append]
  rfl
theorem mem_firsts {α : Type} [DecidableEq α] {x : α} (xs : List α) : x ∈ firsts xs ↔ x ∈ xs := by
  have aux : ∀ (xs o : List α), x ∈ xs.foldl (fun o x => if x ∈ o then o else o ++ [x]) o ↔ x ∈ o ∨ x ∈ xs := by
    intro xs
    induction xs with
    | nil => intro o; simp
    | cons a r ih =>
      intro o
      rw [List.foldl_cons, ih]
      by_cases h : a ∈ o
      · rw [if_pos h, List.mem_cons]
        constructor
        · rintro (z | z)
          · exact .inl z
          · exact .inr (.inr z)
        · rintro (z | z | z)
          · exact .inl z
          · subst z; exact .inl h
          · exact .inr z
      · rw [if_neg h, List.mem_cons, List.mem_append, List.mem_singleton]
        constructor
        · rintro ((z | z) | z)
          · exact .inl z
          · exact .inr (.inl z)
          · exact .inr (.inr z)
        · rintro (z | z | z)
          · exact .inl (.inl z)
          · exact .inl (.inr z)
          · exact .inr z
  have := aux xs []
  simpa [firsts] using this
theorem firsts_nodup {α : Type} [DecidableEq α] (xs : List α) : (firsts xs).Nodup := by
  have aux : ∀ (xs o : List α), o.Nodup → (xs.foldl (fun o x => if x ∈ o then o else o ++ [x]) o).Nodup := by
    intro xs
    induction xs with
    | nil => exact fun o h => h
    | cons a r ih =>
      intro o h
      rw [List.foldl_cons]
      refine ih _ ?_
      split
      · exact h
      · rename_i hn
        rw [List.nodup_append]
        exact ⟨h, by simp, fun x hx y hy e => hn (by have : y = a := by simpa using hy
                                                     rw [← this, ← e]; exact hx)⟩
  exact aux xs [] List.nodup_nil
/-- the prefix stays -/
theorem firsts_pre {α : Type} [DecidableEq α] (xs ys : List α) : ∃ zs, firsts (xs ++ ys) = firsts xs ++ zs := by
  unfold firsts
  rw [List.foldl_append]
  generalize xs.foldl (fun o x => if x ∈ o then o else o ++ [x]) [] = o
  induction ys generalizing o with
  | nil => exact ⟨[], by simp⟩
  | cons a r ih =>
    rw [List.foldl_cons]
    split
    · exact ih o
    · obtain ⟨zs, e⟩ := ih (o ++ [a])
      exact ⟨a :: zs, by rw [e, List.append_assoc]; rfl⟩
theorem idxOf_pre {α : Type} [BEq α] [LawfulBEq α] {x : α} {o zs : List α} (h : x ∈ o) : (o ++ zs).idxOf x = o.idxOf x := by
  rw [List.idxOf_append, if_pos h]
def nmb (order : List D) : List (D × D) := order.mapIdx fun i d => (d, eI i)
theorem nmb_snoc (order : List D) (d : D) : nmb (order ++ [d]) = nmb order ++ [(d, eI order.length)] := by
  unfold nmb
  rw [List.mapIdx_append]
  simp
theorem nmb_length (order : List D) : (nmb order).length = order.length := by simp [nmb]
theorem nmb_val (order : List D) (k : NestedKey) : keyV (nmb order) k = if k ∈ order.map D.key then some (eI ((order.map D.key).idxOf k)) else none := by
  have aux : ∀ (n : Nat) (order : List D), order.length = n → keyV (nmb order) k = if k ∈ order.map D.key then some (eI ((order.map D.key).idxOf k)) else none := by
    intro n
    induction n with
    | zero =>
      intro order hl
      obtain rfl := List.eq_nil_of_length_eq_zero hl
      simp [nmb, keyV]
    | succ n ih =>
      intro order hl
      have hne : order ≠ [] := fun z => by subst z; cases hl
      obtain ⟨o, s, rfl⟩ : ∃ o s, order = o ++ [s] := ⟨_, _, (List.dropLast_concat_getLast hne).symm⟩
      have ho : o.length = n := by simpa using hl
      have ih' := ih o ho
      rw [nmb_snoc]
      unfold keyV at ih' ⊢
      rw [List.find?_append, List.map_append, List.map_singleton]
      by_cases h : k ∈ o.map D.key
      · rw [if_pos h] at ih'
        rw [if_pos (List.mem_append_left _ h), idxOf_pre h]
        cases q : (nmb o).find? fun p => decide (p.1.key = k) with
        | none => rw [q] at ih'; cases ih'
        | some p => rw [q] at ih'; exact ih'
      · rw [if_neg h] at ih'
        have q : ((nmb o).find? fun p => decide (p.1.key = k)) = none := by
          cases q : (nmb o).find? fun p => decide (p.1.key = k) with
          | none => rfl
          | some p => rw [q] at ih'; cases ih'
        rw [q]
        by_cases e : s.key = k
        · rw [if_pos (by rw [List.mem_append]; right; simp [e])]
          rw [List.idxOf_append, if_neg h]
          simp [e, List.length_map]
        · rw [if_neg (by rw [List.mem_append]; rintro (z | z); exact h z; exact e (List.mem_singleton.mp z).symm)]
          simp [e]
  exact aux _ order rfl
section
variable {c : Ct} {E : XK}
theorem as_numbered (keys : List D) (h : keys.length ≤ 100 ∧ ∀ k ∈ keys, KeyOk k) :
    AS c E (t_numbered c) (entry N_numbered [.lst keys]) { nx := fun _ => False, rt := fun d => d = eIs (numb (keys.map D.key)) } := by
  obtain ⟨hl, hk⟩ := h
  refine as_seq (as_newN ?_)
  refine as_seq (as_new ea_nil (by simp) ?_)
  refine as_seq (as_for (ei_list (xs := keys) (ev_var rfl))
    (fun i ρ => ∃ order : List D, order.map D.key = firsts ((keys.map D.key).take i) ∧ order.length ≤ i ∧
      ρ = [some (.dat (.lst keys)), some (.mn (nmb order)), some (.ml (((keys.map D.key).take i).map fun k => eI ((firsts ((keys.map D.key).take i)).idxOf k))), none]) ⟨[], rfl, Nat.le_refl _, rfl⟩ ?_ ?_)
  · rintro i x ρ hx ⟨order, ho, hol, rfl⟩
    have hi : i < keys.length := (List.getElem?_eq_some_iff.mp hx).1
    have hxk : (keys.map D.key)[i]? = some x.key := by rw [List.getElem?_map, hx]; rfl
    have kx := hk x (List.mem_of_getElem? hx)
    refine ⟨_, _, eg_name, ?_⟩
    rw [take_snoc hxk, firsts_snoc]
    have hlen : (((keys.map D.key).take i).map fun k => eI ((firsts ((keys.map D.key).take i)).idxOf k)).length ≤ i := by rw [List.length_map]; exact List.length_take_le _ _
    refine as_seq (as_ifT (b := !decide (x.key ∈ firsts ((keys.map D.key).take i))) ((et_test (ev_nnotinN (ev_var rfl) rfl kx)).to ?_) (fun hb => ?_) (fun hb => ?_))
    · rw [nmb_val, ho]
      split <;> rename_i hz <;> simp [hz]
    · have hno : x.key ∉ firsts ((keys.map D.key).take i) := by simpa using hb
      have hv0 : keyV (nmb order) x.key = none := by rw [nmb_val, ho, if_neg hno]
      refine as_putN (x := x) rfl (ev_lenN rfl) (ev_var rfl) kx hv0 (by rw [nmb_length]; omega) ?_
      rw [if_neg hno, nmb_length, ← nmb_snoc]
      have hm : (order ++ [x]).map D.key = firsts ((keys.map D.key).take i) ++ [x.key] := by rw [List.map_append, ho]; rfl
      refine as_appE rfl (ev_getN (x := x) rfl (ev_var rfl) kx (by rw [nmb_val, hm, if_pos (by simp)])) (by rw [List.length_map] at hlen; rw [List.length_map]; omega) ?_
      refine ⟨_, .keep (.keep (.keep (.drop .nil))), order ++ [x], hm, by rw [List.length_append]; show _ + 1 ≤ _; omega, ?_⟩
      rw [List.map_append]
      show [_, _, some (Cell.ml _), none] = [_, _, some (Cell.ml _), none]
      have e : ∀ k ∈ (keys.map D.key).take i, eI ((firsts ((keys.map D.key).take i)).idxOf k) = eI ((firsts ((keys.map D.key).take i) ++ [x.key]).idxOf k) := fun k hk' => by
        rw [idxOf_pre ((mem_firsts _).mpr hk')]
      rw [List.map_congr_left e]
      rfl
    · have hno : x.key ∈ firsts ((keys.map D.key).take i) := by simpa using hb
      rw [if_pos hno]
      refine as_next ?_
      refine as_appE rfl (ev_getN (x := x) rfl (ev_var rfl) kx (by rw [nmb_val, ho, if_pos hno])) (by rw [List.length_map] at hlen; rw [List.length_map]; omega) ?_
      refine ⟨_, .keep (.keep (.keep (.drop .nil))), order, ho, by omega, ?_⟩
      rw [List.map_append]
      rfl
  · rintro ρ ⟨order, ho, hol, rfl⟩
    refine as_frz (i := 2) rfl ?_
    refine as_retE (ev_var rfl) ?_
    have : (keys.map D.key).take keys.length = keys.map D.key := by
      rw [← List.length_map (f := D.key)]
      exact List.take_length
    rw [this]
    unfold numb
    show D.lst _ = D.lst (List.map eI (List.map _ _))
    rw [List.map_map (g := eI)]
    rfl
end
end Fx
/-! text FxD -/
namespace Fx
open PySem L2 Evl PyProof.Rows Mir

/-! ### plain facts -/
theorem nodup_sub {α : Type} [DecidableEq α] : ∀ {xs ys : List α}, xs.Nodup → (∀ x ∈ xs, x ∈ ys) → xs.length ≤ ys.length
  | [], _, _, _ => Nat.zero_le _
  | a :: xs, ys, h, s => by
    rw [List.nodup_cons] at h
    have ha := s a List.mem_cons_self
    have := nodup_sub (xs := xs) (ys := ys.erase a) h.2 fun x hx => (List.mem_erase_of_ne (fun e => h.1 (by rw [← e]; exact hx))).mpr (s x (List.mem_cons_of_mem _ hx))
    rw [List.length_erase_of_mem ha] at this
    have h1 : 0 < ys.length := List.length_pos_of_mem ha
    rw [List.length_cons]
    omega
theorem le_foldl_max : ∀ (ns : List Nat) (a : Nat), a ≤ ns.foldl max a ∧ ∀ p ∈ ns, p ≤ ns.foldl max a
  | [], a => ⟨Nat.le_refl _, by simp⟩
  | n :: ns, a => by
    obtain ⟨h1, h2⟩ := le_foldl_max ns (max a n)
    rw [List.foldl_cons]
    refine ⟨by omega, fun p hp => ?_⟩
    rcases List.mem_cons.mp hp with e | hp
    · subst e; omega
    · exact h2 p hp
theorem le_maxL {ns : List Nat} {p : Nat} (h : p ∈ ns) : p ≤ maxL ns := (le_foldl_max ns 0).2 p h
theorem foldl_max_mem : ∀ (ns : List Nat) (a : Nat), ns.foldl max a = a ∨ ns.foldl max a ∈ ns
  | [], a => .inl rfl
  | n :: ns, a => by
    rw [List.foldl_cons]
    rcases foldl_max_mem ns (max a n) with h | h
    · rw [h]
      rcases Nat.le_total a n with z | z
      · rw [Nat.max_eq_right z]; exact .inr List.mem_cons_self
      · rw [Nat.max_eq_left z]; exact .inl rfl
    · exact .inr (List.mem_cons_of_mem _ h)
theorem maxL_mem {ns : List Nat} (h : ns ≠ []) : maxL ns ∈ ns := by
  rcases foldl_max_mem ns 0 with e | e
  · cases ns with
    | nil => exact absurd rfl h
    | cons a r =>
      have h1 := le_maxL (ns := a :: r) (p := a) List.mem_cons_self
      have e' : maxL (a :: r) = 0 := e
      rw [e'] at h1
      rw [e']
      have : a = 0 := by omega
      subst this
      exact List.mem_cons_self
  · exact e
section
variable {α β : Type} [DecidableEq α] [DecidableEq β]
theorem numb_length (xs : List α) : (numb xs).length = xs.length := by simp [numb]
theorem numb_lt {xs : List α} {p : Nat} (h : p ∈ numb xs) : p < (firsts xs).length := by
  obtain ⟨x, hx, rfl⟩ := List.mem_map.mp h
  exact List.idxOf_lt_length_of_mem ((mem_firsts xs).mpr hx)
theorem numb_mem {xs : List α} {p : Nat} (h : p < (firsts xs).length) : p ∈ numb xs := by
  refine List.mem_map.mpr ⟨(firsts xs)[p], (mem_firsts xs).mp (List.getElem_mem h), ?_⟩
  exact (firsts_nodup xs).idxOf_getElem p h
theorem firsts_pos {xs : List α} (h : xs ≠ []) : 0 < (firsts xs).length := by
  obtain ⟨x, r, rfl⟩ := List.exists_cons_of_ne_nil h
  exact List.length_pos_of_mem ((mem_firsts (x :: r)).mpr List.mem_cons_self)
theorem numb_max {xs : List α} (h : xs ≠ []) : maxL (numb xs) + 1 = (firsts xs).length := by
  have h0 := firsts_pos h
  have hne : numb xs ≠ [] := fun z => h (by rw [← List.length_eq_zero_iff, ← numb_length, z]; rfl)
  have h1 := numb_lt (maxL_mem hne)
  have h2 := le_maxL (numb_mem (xs := xs) (p := (firsts xs).length - 1) (by omega))
  omega
theorem firsts_map {f : α → β} : ∀ {xs : List α}, (∀ x ∈ xs, ∀ y ∈ xs, f x = f y → x = y) → firsts (xs.map f) = (firsts xs).map f := by
  have aux : ∀ (xs o : List α), (∀ x, x ∈ xs ∨ x ∈ o → ∀ y, y ∈ xs ∨ y ∈ o → f x = f y → x = y) →
      (xs.map f).foldl (fun o x => if x ∈ o then o else o ++ [x]) (o.map f) = (xs.foldl (fun o x => if x ∈ o then o else o ++ [x]) o).map f := by
    intro xs
    induction xs with
    | nil => intro o _; rfl
    | cons a r ih =>
      intro o hi
      rw [List.map_cons, List.foldl_cons, List.foldl_cons]
      by_cases h : a ∈ o
      · rw [if_pos h, if_pos (List.mem_map.mpr ⟨a, h, rfl⟩)]
        exact ih o fun x hx y hy => hi x (hx.imp (List.mem_cons_of_mem _) id) y (hy.imp (List.mem_cons_of_mem _) id)
      · have h' : ¬ f a ∈ o.map f := fun z => by
          obtain ⟨b, hb, e⟩ := List.mem_map.mp z
          exact h (by rw [← hi b (.inr hb) a (.inl List.mem_cons_self) e]; exact hb)
        rw [if_neg h, if_neg h']
        have := ih (o ++ [a]) fun x hx y hy => hi x (by
          rcases hx with z | z
          · exact .inl (List.mem_cons_of_mem _ z)
          · rcases List.mem_append.mp z with z | z
            · exact .inr z
            · exact .inl (by rw [List.mem_singleton.mp z]; exact List.mem_cons_self)) y (by
          rcases hy with z | z
          · exact .inl (List.mem_cons_of_mem _ z)
          · rcases List.mem_append.mp z with z | z
            · exact .inr z
            · exact .inl (by rw [List.mem_singleton.mp z]; exact List.mem_cons_self))
        rw [List.map_append] at this
        exact this
  intro xs hi
  exact aux xs [] fun x hx y hy => hi x (by simpa using hx) y (by simpa using hy)
theorem idxOf_map {α β : Type} [BEq α] [LawfulBEq α] [BEq β] [LawfulBEq β] {f : α → β} {x : α} : ∀ {o : List α}, (∀ y ∈ o, f y = f x → y = x) → (o.map f).idxOf (f x) = o.idxOf x
  | [], _ => rfl
  | a :: o, h => by
    rw [List.map_cons, List.idxOf_cons, List.idxOf_cons]
    by_cases e : a = x
    · subst e; rw [beq_self_eq_true, beq_self_eq_true]; rfl
    · have e' : ¬ f a = f x := fun z => e (h a List.mem_cons_self z)
      rw [idxOf_map fun y hy => h y (List.mem_cons_of_mem _ hy)]
      rw [show (f a == f x) = false from beq_eq_false_iff_ne.mpr e', show (a == x) = false from beq_eq_false_iff_ne.mpr e]
theorem numb_map {f : α → β} {xs : List α} (hi : ∀ x ∈ xs, ∀ y ∈ xs, f x = f y → x = y) : numb (xs.map f) = numb xs := by
  unfold numb
  rw [firsts_map hi, List.map_map]
  refine List.map_congr_left fun x hx => ?_
  exact idxOf_map fun y hy e => hi y ((mem_firsts xs).mp hy) x hx e
end
/-- every number to the greatest is there -/
def Dense (ps : List Nat) : Prop := ∀ p, p ≤ maxL ps → p ∈ ps
theorem numb_dense {α : Type} [DecidableEq α] {xs : List α} (h : xs ≠ []) : Dense (numb xs) := fun p hp => numb_mem (by have := numb_max h; omega)
abbrev rkeys (rows : List (List Nat)) (parts : List Nat) : List (Nat × List Nat) := (List.range rows.length).map fun s => (parts.getD s 0, (row rows s).map fun o => parts.getD o 0)
theorem range_getD (parts : List Nat) : (List.range parts.length).map (fun s => parts.getD s 0) = parts := by
  refine List.ext_getElem (by simp) fun i h1 h2 => ?_
  rw [List.getElem_map, List.getElem_range, List.getD_eq_getElem?_getD, List.getElem?_eq_getElem h2]
  rfl
theorem refine_length (rows : List (List Nat)) (parts : List Nat) : (refine rows parts).length = rows.length := by
  unfold refine
  rw [numb_length, List.length_map, List.length_range]
theorem refine_ge {rows : List (List Nat)} {parts : List Nat} (hl : parts.length = rows.length) (h1 : 1 ≤ rows.length) (hd : Dense parts) : maxL parts ≤ maxL (refine rows parts) := by
  have hne : rkeys rows parts ≠ [] := fun z => by
    have := congrArg List.length z
    rw [List.length_map, List.length_range] at this
    rw [this] at h1
    exact absurd h1 (by decide)
  have e1 := numb_max hne
  have hs : (List.range (maxL parts + 1)).length ≤ ((firsts (rkeys rows parts)).map Prod.fst).length := by
    refine nodup_sub List.nodup_range fun p hp => ?_
    have hp' : p ∈ parts := hd p (by have := List.mem_range.mp hp; omega)
    obtain ⟨s, hs, e⟩ := List.mem_iff_getElem.mp hp'
    refine List.mem_map.mpr ⟨(parts.getD s 0, (row rows s).map fun o => parts.getD o 0), (mem_firsts _).mpr (List.mem_map.mpr ⟨s, List.mem_range.mpr (by omega), rfl⟩), ?_⟩
    show parts.getD s 0 = p
    rw [List.getD_eq_getElem?_getD, List.getElem?_eq_getElem hs]
    exact e
  rw [List.length_range, List.length_map] at hs
  show _ ≤ maxL (numb (rkeys rows parts))
  omega
theorem dense_refine {rows : List (List Nat)} {parts : List Nat} (h1 : 1 ≤ rows.length) : Dense (refine rows parts) := numb_dense fun z => by
  have := congrArg List.length z
  rw [List.length_map, List.length_range] at this
  rw [this] at h1
  exact absurd h1 (by decide)
theorem maxL_lt {ps : List Nat} (h1 : ps ≠ []) (hd : Dense ps) : maxL ps < ps.length := by
  have : (List.range (maxL ps + 1)).length ≤ ps.length := nodup_sub List.nodup_range fun p hp => hd p (by have := List.mem_range.mp hp; omega)
  rw [List.length_range] at this
  omega
theorem settle_ok {rows : List (List Nat)} (h1 : 1 ≤ rows.length) : ∀ (n : Nat) (count : Int) (parts : List Nat), parts.length = rows.length → Dense parts → (Mir.settle rows n count parts).length = rows.length ∧ Dense (Mir.settle rows n count parts)
  | 0, _, parts, hl, hd => ⟨hl, hd⟩
  | n + 1, count, parts, hl, hd => by
    rw [Mir.settle]
    split
    · exact settle_ok h1 n _ _ (refine_length _ _) (dense_refine h1)
    · exact ⟨hl, hd⟩
theorem classesP_ok {α : Type} [DecidableEq α] {rows : List (List Nat)} {marks : List α} (h1 : 1 ≤ rows.length) (hm : marks.length = rows.length) : (classesP rows marks).length = rows.length ∧ Dense (classesP rows marks) :=
  settle_ok h1 _ _ _ (by rw [numb_length, hm]) (numb_dense fun z => by rw [z] at hm; rw [← hm] at h1; simp at h1)

/-! ### classes -/
theorem ints_eq (ns : List Nat) : ns.map eI = (ns.map fun n : Nat => (n : Int)).map D.int := by rw [List.map_map]; rfl
theorem hashys_ints : ∀ ns : List Nat, D.hashys (ns.map eI) = true
  | [] => by simp [D.hashys]
  | n :: ns => by rw [List.map_cons, D.hashys, hashys_ints ns]; simp [D.hashy]
theorem keys_ints : ∀ ns : List Nat, D.keys (ns.map eI) = ns.map fun n : Nat => NestedKey.num (n : Int)
  | [] => by simp [D.keys]
  | n :: ns => by rw [List.map_cons, D.keys, keys_ints ns, D.key]; rfl
theorem depth_ints : ∀ ns : List Nat, NestedKey.depthAll (ns.map fun n : Nat => NestedKey.num (n : Int)) = 0
  | [] => rfl
  | n :: ns => by rw [List.map_cons, NestedKey.depthAll, depth_ints ns]; rfl
/-- a state with its others -/
abbrev eK (p : Nat × List Nat) : D := .tup [eI p.1, .tup (p.2.map eI)]
theorem eK_hashy (p : Nat × List Nat) : (eK p).hashy = true := by
  rw [D.hashy, D.hashys, D.hashys, D.hashys, D.hashy, D.hashy, hashys_ints]
  rfl
theorem eK_key (p : Nat × List Nat) : (eK p).key = .tup [.num p.1, .tup (p.2.map fun n : Nat => NestedKey.num (n : Int))] := by
  rw [D.key, D.keys, D.keys, D.keys, D.key, D.key, keys_ints]
theorem eK_ok (p : Nat × List Nat) : KeyOk (eK p) := ⟨⟨_, rfl⟩, eK_hashy p, by
  rw [eK_key, NestedKey.depth, NestedKey.depthAll, NestedKey.depthAll, NestedKey.depthAll, NestedKey.depth, NestedKey.depth, depth_ints]
  decide⟩
theorem ints_inj : ∀ {ns ms : List Nat}, ns.map eI = ms.map eI → ns = ms
  | [], [], _ => rfl
  | [], _ :: _, h => by cases h
  | _ :: _, [], h => by cases h
  | n :: ns, m :: ms, h => by
    injection h with h1 h2
    injection h1 with h1
    rw [ints_inj h2, Int.ofNat.inj h1]
theorem eK_inj {p q : Nat × List Nat} (h : (eK p).key = (eK q).key) : p = q := by
  have h := key_inj _ _ (eK_hashy p) (eK_hashy q) h
  injection h with h
  injection h with h1 h2
  injection h1 with h1
  injection h2 with h2 _
  injection h2 with h2
  obtain ⟨a, b⟩ := p
  obtain ⟨a', b'⟩ := q
  have e1 : a = a' := Int.ofNat.inj h1
  have e2 : b = b' := ints_inj h2
  rw [e1, e2]
theorem numb_eK (ps : List (Nat × List Nat)) : numb ((ps.map eK).map D.key) = numb ps := by
  rw [List.map_map]
  exact numb_map fun x _ y _ e => eK_inj e
section
variable {c : Ct} {E : XK} {ρ : Env} {te : TE}
theorem rcl_maxN {ns : List Nat} (h : ns ≠ []) : RClE c (rMax c.K) [eIs ns] (eI (maxL ns)) := by
  show RClE c (rMax c.K) [.lst (ns.map eI)] _
  rw [ints_eq]
  refine rcl_max (by rw [List.length_map]; exact List.length_pos_iff.mpr h) fun y hy hle => ?_
  obtain ⟨p, hp, rfl⟩ := List.mem_map.mp hy
  have h1 := le_maxL hp
  have h2 := hle _ (List.mem_map.mpr ⟨_, maxL_mem h, rfl⟩)
  have : ((maxL ns : Nat) : Int) ≤ (p : Nat) := h2
  omega
theorem as_classes (i : List (List Nat) × List D) (h : RowsOk i.1.length i.1 ∧ 1 ≤ i.1.length ∧ i.1.length ≤ 100 ∧ i.2.length = i.1.length ∧ ∀ k ∈ i.2, KeyOk k) :
    AS c E (t_classes c) (entry N_classes [eRows i.1, .lst i.2]) { nx := fun _ => False, rt := fun d => d = eIs (classesP i.1 (i.2.map D.key)) } := by
  obtain ⟨rows, marks⟩ := i
  obtain ⟨ok, n1, nN, ml, mk⟩ := h
  have n1 : 1 ≤ rows.length := n1
  have nN : rows.length ≤ 100 := nN
  have ml : marks.length = rows.length := ml
  refine as_seq (as_setE (ev_callE marks (ea_cons (ev_var rfl) ea_nil) ⟨by omega, mk⟩) ?_)
  refine as_seq (as_set (ev_un ev_int run_neg) fun d e => ?_)
  subst e
  refine as_seq (as_while (fun m ρ => ∃ (parts : List Nat) (count : Int) (fuel : Nat) (z : Option Cell), Mir.settle rows fuel count parts = classesP rows (marks.map D.key) ∧ parts.length = rows.length ∧ Dense parts ∧ -1 ≤ count ∧ count ≤ maxL parts ∧
      (rows.length : Int) - count + 1 ≤ fuel ∧ m = ((rows.length : Int) - count).toNat ∧
      ρ = [some (.dat (eRows rows)), some (.dat (.lst marks)), some (.dat (eIs parts)), some (.dat (.int count)), z, none, none, none]) ((rows.length : Int) - (-1)).toNat ?_ ?_)
  · refine ⟨numb (marks.map D.key), -1, rows.length + 2, none, rfl, by rw [numb_length, List.length_map, ml], numb_dense fun z => ?_, by omega, by omega, by omega, rfl, rfl⟩
    have := congrArg List.length z
    rw [List.length_map] at this
    rw [this] at ml
    rw [← ml] at n1
    exact absurd n1 (by decide)
  · rintro m ρ ⟨parts, count, fuel, z, hs, hl, hd, c1, c2, hf, rfl, rfl⟩
    have hne : parts ≠ [] := fun z => by rw [z] at hl; rw [← hl] at n1; simp at n1
    have hmx := maxL_lt hne hd
    refine ⟨!decide (count = ((maxL parts : Nat) : Int)), et_test (ev_opE (ev_var rfl) (ev_cbE (ea_cons (ev_var rfl) ea_nil) (rcl_maxN hne)) rop_neI), fun hb => ?_, fun hb => ?_⟩
    · have hc : count ≠ (maxL parts : Int) := by simpa using hb
      obtain ⟨fu, rfl⟩ : ∃ k, fuel = k + 1 := ⟨fuel - 1, by omega⟩
      rw [Mir.settle, if_pos hc] at hs
      refine as_seq (as_setE (ev_cbE (ea_cons (ev_var rfl) ea_nil) (rcl_maxN hne)) ?_)
      refine as_seq (as_setE (d := .lst ((rkeys rows parts).map eK)) ?_ ?_)
      · refine lst_of (xs := (rows.zipIdx).map fun p => eK (parts.getD p.2 0, p.1.map fun o => parts.getD o 0)) ?_ ?_
        · unfold rkeys
          rw [List.map_map]
          refine List.ext_getElem (by simp) fun i h1 h2 => ?_
          rw [List.getElem_map, List.getElem_map, List.getElem_range, List.getElem_zipIdx]
          have hi : i < rows.length := by simpa using h1
          have : rows[i] = row rows i := Option.some.inj ((List.getElem?_eq_getElem hi).symm.trans (row_eq hi))
          simp only [Function.comp, this, Nat.zero_add]
        · refine ev_lc2 (e1 := fun p => eI p.2) (e2 := fun p => eIs p.1) (by rw [← numd_map]; exact ei_enum (ea_cons (ev_var rfl) ea_nil)) (by rw [List.length_zipIdx]; omega) fun j p hp => ?_
          obtain ⟨r, s⟩ := p
          have hs' : s < rows.length ∧ rows[s]? = some r := by
            rw [List.getElem?_zipIdx] at hp
            cases q : rows[j]? with
            | none => rw [q] at hp; cases hp
            | some r' =>
              rw [q] at hp
              cases hp
              refine ⟨by have := (List.getElem?_eq_some_iff.mp q).1; omega, ?_⟩
              rw [Nat.zero_add]
              exact q
          have hr := ok.2 r (List.mem_of_getElem? hs'.2)
          refine ev_tup (ea_cons (ev_opE (ev_var rfl) (ev_var rfl) (rop_ixL (at_ints (by rw [hl]; exact hs'.1)))) (ea_cons (ev_cbE (ea_cons (ev_lc1 (xs := r) (e := eI) (g := fun o => eI (parts.getD o 0)) (ei_list (ev_var rfl)) (by rw [hr.1]; decide) fun k o ho => ?_) ea_nil) ?_) ea_nil))
          · exact ev_opE (ev_var rfl) (ev_var rfl) (rop_ixL (at_ints (by rw [hl]; exact hr.2 o (List.mem_of_getElem? ho))))
          · show RClE c (rTupF c.K) [.lst (r.map fun o => eI (parts.getD o 0))] (.tup ((r.map fun o => parts.getD o 0).map eI))
            rw [List.map_map]
            exact rcl_tupL
      · refine as_setE (ev_callE ((rkeys rows parts).map eK) (ea_cons (ev_var rfl) ea_nil) ⟨by rw [List.length_map, List.length_map, List.length_range]; omega, fun k hk => ?_⟩) ?_
        · obtain ⟨p, _, rfl⟩ := List.mem_map.mp hk
          exact eK_ok p
        · rw [numb_eK]
          have hge := refine_ge hl n1 hd
          refine ⟨_, ((rows.length : Int) - (maxL parts : Int)).toNat, .keep (.keep (.keep (.keep (.keep (.keep (.keep (.keep .nil))))))), by omega, refine rows parts, maxL parts, fu, _, hs, refine_length _ _, dense_refine n1, by omega, by omega, by omega, rfl, rfl⟩
    · have hc : count = (maxL parts : Int) := by simpa using hb
      obtain ⟨fu, rfl⟩ : ∃ k, fuel = k + 1 := ⟨fuel - 1, by omega⟩
      rw [Mir.settle, if_neg (by simpa using hc)] at hs
      refine as_retE (ev_var rfl) ?_
      rw [hs]

/-! ### _chosen -/
theorem pl_int {n : Nat} {i : Int} : Pl n (.int i) := by cases n <;> exact True.intro
theorem as_chosen (i : List (List Nat) × List Nat) (h : RowsOk i.1.length i.1 ∧ 1 ≤ i.1.length ∧ i.1.length ≤ 100 ∧ i.2.length = i.1.length ∧ ∀ p, p ≤ maxL i.2 → p ∈ i.2) :
    AS c E (t_chosen c) (entry N_chosen [eRows i.1, eIs i.2]) { nx := fun _ => False, rt := fun d => d = .tup [eIs (chosen i.2), eRows (chosenRows i.1 i.2)] } := by
  obtain ⟨rows, parts⟩ := i
  obtain ⟨ok, n1, nN, hl, hd⟩ := h
  have n1 : 1 ≤ rows.length := n1
  have nN : rows.length ≤ 100 := nN
  have hl : parts.length = rows.length := hl
  have hd : Dense parts := hd
  have hne : parts ≠ [] := fun z => by rw [z] at hl; rw [← hl] at n1; simp at n1
  have hmx := maxL_lt hne hd
  refine as_seq (as_setE (d := .lst ((List.range (maxL parts + 1)).map fun p => eI (parts.idxOf p))) (ev_lc1 (e := eI) ?_ (by rw [List.length_range]; omega) fun j p hp => ?_) ?_)
  · rw [← upTo_map]
    have := ei_rng1 (c := c) (ρ := entry N_chosen [eRows rows, eIs parts]) (n := (maxL parts : Int) + 1) (ea_cons (ev_opE (ev_cbE (ea_cons (ev_var (i := 1) (d := eIs parts) rfl) ea_nil) (rcl_maxN hne)) ev_int rop_I0) ea_nil) (by omega)
    exact this
  · have hp' : p ∈ parts := hd p (by have := List.mem_range.mp (List.mem_of_getElem? hp); omega)
    refine ev_index (n := 0) (m := 0) (ds := parts.map eI) (ev_var rfl) (ev_var rfl) pl_int (fun d hd => ?_) ?_ (fun l y hl' hy => ?_)
    · obtain ⟨q, _, rfl⟩ := List.mem_map.mp hd
      exact pl_int
    · rw [List.getElem?_map, List.getElem?_eq_getElem (List.idxOf_lt_length_of_mem hp'), List.getElem_idxOf]
      rfl
    · obtain ⟨q, hq, rfl⟩ := map_get hy
      intro e
      have e2 : q = p := by
        have : (q : Int) = (p : Int) := by injection e
        omega
      subst e2
      have := List.not_of_lt_findIdx (p := (· == q)) (xs := parts) (i := l) hl'
      have hq2 : parts[l]'(Nat.lt_trans hl' (List.idxOf_lt_length_of_mem hp')) = q := by
        have := List.getElem?_eq_getElem (Nat.lt_trans hl' (List.idxOf_lt_length_of_mem hp'))
        exact Option.some.inj (this.symm.trans hq)
      rw [hq2] at this
      simp at this
  · have hlt : ∀ s ∈ chosen parts, s < rows.length := fun s hs => by
      obtain ⟨p, hp, rfl⟩ := List.mem_map.mp hs
      rw [← hl]
      exact List.idxOf_lt_length_of_mem (hd p (by have := List.mem_range.mp hp; omega))
    have e0 : (List.range (maxL parts + 1)).map (fun p => eI (parts.idxOf p)) = (chosen parts).map eI := by
      unfold chosen
      rw [List.map_map]
      rfl
    rw [e0]
    refine as_retE (ev_tup (ea_cons (ev_var rfl) (ea_cons (lst_of ?_ (ev_lc1 (xs := chosen parts) (e := eI) (g := fun s => eIs ((row rows s).map fun o => parts.getD o 0)) (ei_list (ev_var rfl)) (by unfold chosen; rw [List.length_map, List.length_range]; omega) fun j s hs => ?_)) ea_nil))) rfl
    · unfold chosenRows
      rw [List.map_map]
      rfl
    · have hs' := hlt s (List.mem_of_getElem? hs)
      have hr := ok.2 _ (row_mem hs')
      refine lst_of (List.map_map).symm (ev_lc1 (xs := row rows s) (e := eI) (g := fun o => eI (parts.getD o 0)) (ei_list (ev_opE (ev_var rfl) (ev_var rfl) (rop_ixL (at_rows hs')))) (by rw [hr.1]; decide) fun k o ho => ?_)
      exact ev_opE (ev_var rfl) (ev_var rfl) (rop_ixL (at_ints (by rw [hl]; exact hr.2 o (List.mem_of_getElem? ho))))
end
end Fx
/-! text FxE -/
namespace Fx
open PySem L2 Evl PyProof.Rows Mir

/-! ### what is reached -/
theorem addRow_append (o xs ys : List Nat) : addRow o (xs ++ ys) = addRow (addRow o xs) ys := by unfold addRow; rw [List.foldl_append]
theorem addRow_pre : ∀ (xs o : List Nat), ∃ zs, addRow o xs = o ++ zs
  | [], o => ⟨[], by simp [addRow]⟩
  | x :: xs, o => by
    show ∃ zs, addRow (if x ∈ o then o else o ++ [x]) xs = o ++ zs
    split
    · exact addRow_pre xs o
    · obtain ⟨zs, e⟩ := addRow_pre xs (o ++ [x])
      exact ⟨x :: zs, by rw [e, List.append_assoc]; rfl⟩
theorem addRow_mem {x : Nat} : ∀ {xs o : List Nat}, x ∈ addRow o xs ↔ x ∈ o ∨ x ∈ xs
  | [], o => by simp [addRow]
  | a :: xs, o => by
    show x ∈ addRow (if a ∈ o then o else o ++ [a]) xs ↔ _
    rw [addRow_mem (xs := xs)]
    by_cases h : a ∈ o
    · rw [if_pos h, List.mem_cons]
      constructor
      · rintro (z | z)
        · exact .inl z
        · exact .inr (.inr z)
      · rintro (z | z | z)
        · exact .inl z
        · subst z; exact .inl h
        · exact .inr z
    · rw [if_neg h, List.mem_cons, List.mem_append, List.mem_singleton]
      constructor
      · rintro ((z | z) | z)
        · exact .inl z
        · exact .inr (.inl z)
        · exact .inr (.inr z)
      · rintro (z | z | z)
        · exact .inl (.inl z)
        · exact .inl (.inr z)
        · exact .inr z
theorem addRow_nodup : ∀ {xs o : List Nat}, o.Nodup → (addRow o xs).Nodup
  | [], o, h => h
  | a :: xs, o, h => by
    show (addRow (if a ∈ o then o else o ++ [a]) xs).Nodup
    refine addRow_nodup ?_
    split
    · exact h
    · rename_i hn
      rw [List.nodup_append]
      refine ⟨h, by simp, fun x hx y hy e => hn ?_⟩
      rw [← List.mem_singleton.mp hy, ← e]
      exact hx
/-- an order of states: each once, each a state, closed -/
structure OrdOk (rows : List (List Nat)) (o : List Nat) : Prop where
  nd : o.Nodup
  lt : ∀ s ∈ o, s < rows.length
  cl : ∀ s ∈ o, ∀ x ∈ row rows s, x ∈ o
  hd : ∃ zs, o = 0 :: zs
theorem OrdOk.le {rows : List (List Nat)} {o : List Nat} (h : OrdOk rows o) : o.length ≤ rows.length := nodup_le h.nd h.lt
theorem OrdOk.pos {rows : List (List Nat)} {o : List Nat} (h : OrdOk rows o) : 1 ≤ o.length := by
  obtain ⟨zs, e⟩ := h.hd
  rw [e, List.length_cons]
  omega
theorem queue_ok {rows : List (List Nat)} (ok : ∀ r ∈ rows, ∀ s ∈ r, s < rows.length) : ∀ (fuel at_ : Nat) (order : List Nat), order.Nodup → (∀ s ∈ order, s < rows.length) → at_ ≤ order.length → rows.length + 1 ≤ at_ + fuel →
    (∀ (j : Nat) s, j < at_ → order[j]? = some s → ∀ x ∈ row rows s, x ∈ order) → (∃ zs, order = 0 :: zs) → OrdOk rows (queue rows fuel at_ order)
  | 0, at_, order, nd, lt, le, hf, _, _ => by
    have := nodup_le nd lt
    omega
  | fuel + 1, at_, order, nd, lt, le, hf, cl, hd => by
    rw [queue]
    split
    · rename_i hlt
      have hs := lt _ (show order.getD at_ 0 ∈ order by rw [List.getD_eq_getElem?_getD, List.getElem?_eq_getElem hlt]; exact List.getElem_mem hlt)
      obtain ⟨zs, e⟩ := addRow_pre (row rows (order.getD at_ 0)) order
      refine queue_ok ok fuel (at_ + 1) _ (addRow_nodup nd) (fun s hs' => ?_) (by rw [e, List.length_append]; omega) (by omega) (fun j s hj hjs x hx => ?_) ?_
      · rcases addRow_mem.mp hs' with z | z
        · exact lt s z
        · exact ok _ (row_mem hs) s z
      · rw [e, List.getElem?_append_left (by omega)] at hjs
        by_cases h : j = at_
        · subst h
          have e2 : order.getD j 0 = s := by rw [List.getD_eq_getElem?_getD, hjs]; rfl
          rw [e2]
          exact addRow_mem.mpr (.inr hx)
        · exact addRow_mem.mpr (.inl (cl j s (by omega) hjs x hx))
      · obtain ⟨ys, rfl⟩ := hd
        exact ⟨ys ++ zs, by rw [e]; rfl⟩
    · rename_i hge
      refine ⟨nd, lt, fun s hs x hx => ?_, hd⟩
      obtain ⟨j, hj, e⟩ := List.mem_iff_getElem.mp hs
      exact cl j s (by omega) (by rw [List.getElem?_eq_getElem hj, e]) x hx
theorem behind_ok {rows : List (List Nat)} (ok : RowsOk rows.length rows) (h1 : 1 ≤ rows.length) : OrdOk rows (behind rows) :=
  queue_ok (fun r hr s hs => (ok.2 r hr).2 s hs) _ 0 [0] (by simp) (by simp; omega) (Nat.zero_le _) (by omega) (fun j s hj => by omega) ⟨[], rfl⟩
abbrev nth (rows : List (List Nat)) (k s : Nat) : Nat := (row rows s).getD k 0
theorem inner_eq (rows : List (List Nat)) (k : Nat) (o lv : List Nat) : inner rows k o lv = addRow o (lv.map (nth rows k)) := by
  unfold inner addRow
  rw [List.foldl_map]
theorem addLevel_addRow (rows : List (List Nat)) (o lv : List Nat) : addLevel rows 2 o lv = addRow o (lv.map (nth rows 0) ++ lv.map (nth rows 1)) := by
  rw [addLevel_eq, inner_eq, inner_eq, addRow_append]
theorem row_two {rows : List (List Nat)} {n s : Nat} (ok : RowsOk n rows) (h : s < rows.length) : row rows s = [nth rows 0 s, nth rows 1 s] := by
  have := (ok.2 _ (row_mem h)).1
  match hr : row rows s, this with
  | [a, b], _ => simp [nth, hr]
theorem nth_lt {rows : List (List Nat)} {n s : Nat} (ok : RowsOk n rows) (h : s < rows.length) (k : Nat) (hk : k < 2) : nth rows k s < n := by
  have hr := ok.2 _ (row_mem h)
  refine hr.2 _ ?_
  show (row rows s).getD k 0 ∈ _
  rw [List.getD_eq_getElem?_getD, List.getElem?_eq_getElem (by omega)]
  exact List.getElem_mem _
theorem levels_ok {rows : List (List Nat)} (ok : RowsOk rows.length rows) : ∀ (fuel : Nat) (order level : List Nat), order.Nodup → (∀ s ∈ order, s < rows.length) → (∀ s ∈ level, s ∈ order) → (level.isEmpty = false → rows.length - order.length + 2 ≤ fuel) →
    (∀ s ∈ order, s ∉ level → ∀ x ∈ row rows s, x ∈ order) → (∃ zs, order = 0 :: zs) → OrdOk rows (levels rows 2 fuel order level)
  | fuel, order, [], nd, lt, sub, hf, cl, hd => by
    have e : levels rows 2 fuel order [] = order := by cases fuel <;> rfl
    rw [e]
    exact ⟨nd, lt, fun s hs => cl s hs (by simp), hd⟩
  | 0, order, a :: level, nd, lt, sub, hf, cl, hd => by
    have := hf rfl
    omega
  | fuel + 1, order, a :: level, nd, lt, sub, hf, cl, hd => by
    have e0 : levels rows 2 (fuel + 1) order (a :: level) = levels rows 2 fuel (addLevel rows 2 order (a :: level)) ((addLevel rows 2 order (a :: level)).drop order.length) := rfl
    rw [e0, addLevel_addRow]
    obtain ⟨zs, e⟩ := addRow_pre ((a :: level).map (nth rows 0) ++ (a :: level).map (nth rows 1)) order
    have hnd := addRow_nodup (xs := (a :: level).map (nth rows 0) ++ (a :: level).map (nth rows 1)) nd
    have hlt : ∀ s ∈ addRow order ((a :: level).map (nth rows 0) ++ (a :: level).map (nth rows 1)), s < rows.length := fun s hs => by
      rcases addRow_mem.mp hs with z | z
      · exact lt s z
      · rcases List.mem_append.mp z with z | z
        · obtain ⟨t, ht, rfl⟩ := List.mem_map.mp z
          exact nth_lt ok (lt _ (sub t ht)) 0 (by decide)
        · obtain ⟨t, ht, rfl⟩ := List.mem_map.mp z
          exact nth_lt ok (lt _ (sub t ht)) 1 (by decide)
    refine levels_ok ok fuel _ _ hnd hlt (fun s hs => List.mem_of_mem_drop hs) (fun hne => ?_) (fun s hs hns x hx => ?_) ?_
    · have := hf rfl
      rw [e] at hne ⊢
      rw [List.drop_left] at hne
      have hz : 1 ≤ zs.length := by
        cases zs with
        | nil => cases hne
        | cons _ _ => simp
      have h2 := nodup_le hnd hlt
      rw [e] at h2
      rw [List.length_append] at h2 ⊢
      omega
    · rw [e, List.drop_left] at hns
      rw [e] at hs
      have hso : s ∈ order := by
        rcases List.mem_append.mp hs with z | z
        · exact z
        · exact absurd z hns
      by_cases hl : s ∈ a :: level
      · rw [row_two ok (lt s hso)] at hx
        refine addRow_mem.mpr (.inr (List.mem_append.mpr ?_))
        rcases List.mem_cons.mp hx with z | z
        · exact .inl (List.mem_map.mpr ⟨s, hl, z.symm⟩)
        · exact .inr (List.mem_map.mpr ⟨s, hl, (List.mem_singleton.mp z).symm⟩)
      · exact addRow_mem.mpr (.inl (cl s hso hl x hx))
    · obtain ⟨ys, rfl⟩ := hd
      exact ⟨ys ++ zs, by rw [e]; rfl⟩
theorem front_ok {rows : List (List Nat)} (ok : RowsOk rows.length rows) (h1 : 1 ≤ rows.length) : OrdOk rows (front rows) :=
  levels_ok ok _ [0] [0] (by simp) (by simp; omega) (by simp) (fun _ => by simp; omega) (fun s hs hns => absurd hs hns) ⟨[], rfl⟩
theorem kept_ok {rows : List (List Nat)} {o : List Nat} (ok : RowsOk rows.length rows) (h : OrdOk rows o) : RowsOk o.length (kept rows o) := by
  refine ⟨by simp [kept], fun r hr => ?_⟩
  obtain ⟨s, hs, rfl⟩ := List.mem_map.mp hr
  refine ⟨by rw [List.length_map]; exact (ok.2 _ (row_mem (h.lt s hs))).1, fun x hx => ?_⟩
  obtain ⟨y, hy, rfl⟩ := List.mem_map.mp hx
  exact List.idxOf_lt_length_of_mem (h.cl s hs y hy)
theorem kept_length (rows : List (List Nat)) (o : List Nat) : (kept rows o).length = o.length := by simp [kept]

/-! ### words -/
def WOk (w : List Nat) : Prop := w.length = 2 ∧ ∀ k ∈ w, k < 2
theorem al_ne {al : Al} (h : al ∈ Als) : al.1 ≠ al.2 := by
  have : ∀ a ∈ Als, a.1 ≠ a.2 := by decide
  exact this al h
theorem lt_inj {al : Al} (h : al ∈ Als) {a b : Nat} (ha : a < 2) (hb : b < 2) (e : lt al a = lt al b) : a = b := by
  have hn := al_ne h
  have h1 : a = 0 ∨ a = 1 := by omega
  have h2 : b = 0 ∨ b = 1 := by omega
  rcases h1 with rfl | rfl <;> rcases h2 with rfl | rfl
  · rfl
  · exact absurd e hn
  · exact absurd e.symm hn
  · rfl
theorem map_inj_on {α β : Type} {f : α → β} : ∀ {xs ys : List α}, (∀ x ∈ xs, ∀ y ∈ ys, f x = f y → x = y) → xs.map f = ys.map f → xs = ys
  | [], [], _, _ => rfl
  | [], _ :: _, _, h => by cases h
  | _ :: _, [], _, h => by cases h
  | x :: xs, y :: ys, hi, h => by
    rw [List.map_cons, List.map_cons] at h
    injection h with h1 h2
    rw [hi x List.mem_cons_self y List.mem_cons_self h1, map_inj_on (fun a ha b hb => hi a (List.mem_cons_of_mem _ ha) b (List.mem_cons_of_mem _ hb)) h2]
theorem wS_inj {al : Al} (h : al ∈ Als) {u v : List Nat} (hu : ∀ k ∈ u, k < 2) (hv : ∀ k ∈ v, k < 2) (e : wS al u = wS al v) : u = v := by
  unfold wS at e
  injection e with e
  have e := congrArg Array.toList e
  simp only at e
  exact map_inj_on (fun a ha b hb z => lt_inj h (hu a ha) (hv b hb) z) e
theorem eW_inj {al : Al} (h : al ∈ Als) {u v : List Nat} (hu : WOk u) (hv : WOk v) (e : eW al u = eW al v) : u = v := by
  injection e with e
  exact wS_inj h hu.2 hv.2 e
theorem wS_length (al : Al) (w : List Nat) : (wS al w).length = w.length := by
  show (wS al w).cps.size = _
  simp [wS]
/-- a row of words, as a tuple -/
abbrev eT (al : Al) (ws : List (List Nat)) : D := .tup (ws.map (eW al))
theorem hashys_words (al : Al) : ∀ ws : List (List Nat), D.hashys (ws.map (eW al)) = true
  | [] => by simp [D.hashys]
  | n :: ns => by rw [List.map_cons, D.hashys, hashys_words al ns, show (eW al n).hashy = true from by show (D.str _).hashy = true; rw [D.hashy]]; rfl
theorem depth_words (al : Al) : ∀ ws : List (List Nat), NestedKey.depthAll (D.keys (ws.map (eW al))) = 0
  | [] => by simp [D.keys, NestedKey.depthAll]
  | n :: ns => by rw [List.map_cons, D.keys, NestedKey.depthAll, depth_words al ns, show (eW al n).key = .text (wS al n) from by show (D.str _).key = _; rw [D.key]]; rfl
theorem eT_ok (al : Al) (ws : List (List Nat)) : KeyOk (eT al ws) := ⟨⟨_, rfl⟩, by rw [D.hashy, hashys_words], by rw [D.key, NestedKey.depth, depth_words]; decide⟩
theorem eT_inj {al : Al} (h : al ∈ Als) {us vs : List (List Nat)} (hu : ∀ u ∈ us, WOk u) (hv : ∀ v ∈ vs, WOk v) (e : (eT al us).key = (eT al vs).key) : us = vs := by
  have e := key_inj _ _ (eT_ok al us).2.1 (eT_ok al vs).2.1 e
  injection e with e
  exact map_inj_on (fun a ha b hb z => eW_inj h (hu a ha) (hv b hb) z) e
theorem classes_eT {al : Al} (h : al ∈ Als) (rows : List (List Nat)) {ms : List (List (List Nat))} (hm : ∀ us ∈ ms, ∀ u ∈ us, WOk u) : classesP rows ((ms.map (eT al)).map D.key) = classesP rows ms := by
  unfold classesP
  rw [List.map_map, numb_map (f := D.key ∘ eT al) fun x hx y hy e => eT_inj h (hm x hx) (hm y hy) e]
theorem cell_get {t : List (List (List Nat))} {i : Nat} (h : i < t.length) : t[i]? = some (t.getD i []) := by
  rw [List.getD_eq_getElem?_getD, List.getElem?_eq_getElem h]
  rfl
/-- a table of n × m words -/
def TabOk (n m : Nat) (t : List (List (List Nat))) : Prop := t.length = n ∧ ∀ row ∈ t, row.length = m ∧ ∀ w ∈ row, WOk w
theorem TabOk.row {n m i : Nat} {t : List (List (List Nat))} (h : TabOk n m t) (hi : i < n) : t[i]? = some (t.getD i []) ∧ (t.getD i []).length = m ∧ ∀ w ∈ t.getD i [], WOk w := by
  have e := cell_get (t := t) (i := i) (by rw [h.1]; exact hi)
  exact ⟨e, h.2 _ (List.mem_of_getElem? e)⟩
theorem TabOk.cell {n m i j : Nat} {t : List (List (List Nat))} (h : TabOk n m t) (hi : i < n) (hj : j < m) : (t.getD i [])[j]? = some (cell t i j) ∧ WOk (cell t i j) := by
  obtain ⟨_, h2, h3⟩ := h.row hi
  have e : (t.getD i [])[j]? = some (Mir.cell t i j) := by
    unfold Mir.cell
    rw [List.getD_eq_getElem?_getD (i := j), List.getElem?_eq_getElem (by rw [h2]; exact hj)]
    rfl
  exact ⟨e, h3 _ (List.mem_of_getElem? e)⟩
theorem McOk.tab {N : Nat} {m : Mc} (h : McOk N m) : TabOk m.l.length m.r.length m.t := ⟨h.t1, h.t2⟩
theorem small_ok {m : Mc} {a b : Nat} {ls rs : List Nat} (h : TabOk a b m.t) (hl : ∀ s ∈ ls, s < a) (hr : ∀ s ∈ rs, s < b) : TabOk ls.length rs.length (small m ls rs) := by
  refine ⟨by simp [small], fun row hrow => ?_⟩
  obtain ⟨i, hi, rfl⟩ := List.mem_map.mp hrow
  refine ⟨by rw [List.length_map], fun w hw => ?_⟩
  obtain ⟨j, hj, rfl⟩ := List.mem_map.mp hw
  exact (h.cell (hl i hi) (hr j hj)).2
theorem chosen_lt {rows : List (List Nat)} {ps : List Nat} (h : Dense ps) (hl : ps.length = rows.length) : ∀ s ∈ chosen ps, s < rows.length := fun s hs => by
  obtain ⟨p, hp, rfl⟩ := List.mem_map.mp hs
  rw [← hl]
  exact List.idxOf_lt_length_of_mem (h p (by have := List.mem_range.mp hp; omega))
section
variable {c : Ct} {E : XK} {ρ : Env} {te tl : TE}
/-- a word of a table -/
theorem ev_cell {al : Al} {t : List (List (List Nat))} {n m i j : Nat} {ta tb tc : TE} (h : TabOk n m t) (ha : EvE c ta ρ (eTab al t)) (hb : EvE c tb ρ (eI i)) (hc : EvE c tc ρ (eI j)) (hi : i < n) (hj : j < m) :
    EvE c (tOp (rIxL c.K) (tOp (rIxL c.K) ta tb) tc) ρ (eW al (cell t i j)) := by
  refine ev_opE (ev_opE ha hb (rop_ixL (d := .lst ((t.getD i []).map (eW al))) (at_nat ?_))) hc (rop_ixL (at_nat ?_))
  · rw [List.getElem?_map, (h.row hi).1]
    rfl
  · rw [List.getElem?_map, (h.cell hi hj).1]
    rfl
/-- a table picked from a table -/
theorem ev_pick {al : Al} {t : List (List (List Nat))} {n m vi vj : Nat} {is js : List Nat} {ta tb tc : TE} (h : TabOk n m t) (hi : ∀ s ∈ is, s < n) (hj : ∀ s ∈ js, s < m) (hz : is.length ≤ 100000 ∧ js.length ≤ 100000) (ha : EvE c ta ρ (eIs is))
    (hb : ∀ s, EvE c tb ((wipeE ρ [vi]).set vi (some (.dat (eI s)))) (eIs js))
    (hc : ∀ s o, EvE c tc ((wipeE ((wipeE ρ [vi]).set vi (some (.dat (eI s)))) [vj]).set vj (some (.dat (eI o)))) (eTab al t))
    (hvi : ∀ s o, EvE c (tVar vi) ((wipeE ((wipeE ρ [vi]).set vi (some (.dat (eI s)))) [vj]).set vj (some (.dat (eI o)))) (eI s))
    (hvj : ∀ s o, EvE c (tVar vj) ((wipeE ((wipeE ρ [vi]).set vi (some (.dat (eI s)))) [vj]).set vj (some (.dat (eI o)))) (eI o)) :
    EvE c (tLc (iList c.K ta) (gName vi) tYes (tLc (iList c.K tb) (gName vj) tYes (tOp (rIxL c.K) (tOp (rIxL c.K) tc (tVar vi)) (tVar vj)) [vj]) [vi]) ρ (eTab al (is.map fun i => js.map fun j => cell t i j)) := by
  refine lst_of (xs := is.map fun i => .lst ((js.map fun j => cell t i j).map (eW al))) (by rw [List.map_map]; rfl) (ev_lc1 (e := eI) (ei_list ha) hz.1 fun n i hn => ?_)
  refine lst_of (List.map_map).symm (ev_lc1 (xs := js) (e := eI) (g := fun j => eW al (cell t i j)) (ei_list (hb i)) hz.2 fun m j hm => ?_)
  exact ev_cell h (hc i j) (hvi i j) (hvj i j) (hi i (List.mem_of_getElem? hn)) (hj j (List.mem_of_getElem? hm))
/-- the states of what is reached -/
theorem ev_states {xs : List Nat} {i j : Nat} (h : Ev c tl ρ (fun d => ∃ f : Nat → List D, d = .lst (xs.map fun s => .tup [eI s, .tup (f s)]))) (hz : xs.length ≤ 100000)
    (hv : ∀ x y, EvE c (tVar i) (((wipeE ρ [i, j]).set i (some (.dat x))).set j (some (.dat y))) x) : EvE c (tLc (iList c.K tl) (gTup c.K 2 (gCons (gName i) (gCons (gName j) gNil))) tYes (tVar i) [i, j]) ρ (eIs xs) := by
  refine (ev_lcPK (ei_listK (h.imp fun d ⟨f, e⟩ => (⟨_, e, f, rfl⟩ : ∃ ys, d = .lst ys ∧ ∃ f : Nat → List D, ys = xs.map fun s => .tup [eI s, .tup (f s)]))) (fun ys ⟨f, e⟩ => by rw [e, List.length_map]; exact hz) (fun ys i ds => ds = (xs.take i).map eI) (fun _ _ => rfl) ?_).imp ?_
  · rintro ys ⟨f, rfl⟩ n x hx
    obtain ⟨s, hs, rfl⟩ := map_get hx
    refine ⟨_, _, eg_tup2, fun _ h => h, true, fun G0 H0 σ G H r Q q => q true G H rfl (.refl r.ok), fun _ => (hv _ _).imp ?_, fun z => by cases z⟩
    rintro y' rfl ds rfl
    rw [List.take_add_one, hs]
    simp
  · rintro d ⟨ys, ds, ⟨f, rfl⟩, rfl, rfl⟩
    rw [List.length_map, List.take_length]
    rfl
end
end Fx
/-! text FxE2 -/
namespace Fx
open PySem L2 Evl PyProof.Rows Mir
section
variable {c : Ct} {E : XK} {ρ : Env} {te tl : TE}
theorem as_least_parts (i : Al × Mc) (h : i.1 ∈ Als ∧ McOk 100 i.2) :
    AS c E (t_least_parts c) (entry N_least_parts [eRows i.2.l, eRows i.2.r, eTab i.1 i.2.t, .int 2]) { nx := fun _ => False, rt := fun d => d = .tup [eRows (leastP i.2).l, eRows (leastP i.2).r, eTab i.1 (leastP i.2).t] } := by
  obtain ⟨al, m⟩ := i
  obtain ⟨hal, ok⟩ := h
  have hal : al ∈ Als := hal
  have ok : McOk 100 m := ok
  have ol := behind_ok ok.lo ok.l1
  have or_ := front_ok ok.ro ok.r1
  have l2 := ok.lN
  have r2 := ok.rN
  have e : leastP m = (⟨chosenRows (kept m.l (behind m.l)) (classesP (kept m.l (behind m.l)) (small m (behind m.l) (front m.r))), chosenRows (kept m.r (front m.r)) (classesP (kept m.r (front m.r)) (columns (small m (behind m.l) (front m.r)) (front m.r).length)), (chosen (classesP (kept m.l (behind m.l)) (small m (behind m.l) (front m.r)))).map fun i => (chosen (classesP (kept m.r (front m.r)) (columns (small m (behind m.l) (front m.r)) (front m.r).length))).map fun j => cell (small m (behind m.l) (front m.r)) i j⟩ : Mc) := rfl
  show AS c E (t_least_parts c) _ { nx := fun _ => False, rt := fun d => d = .tup [eRows (leastP m).l, eRows (leastP m).r, eTab al (leastP m).t] }
  rw [e]
  refine as_seq (as_setE (ev_states (xs := behind m.l) (ev_call m.l (ea_cons (ev_var rfl) (ea_cons ev_int ea_nil)) ⟨ok.lo, ok.l1, ok.lN⟩) (by have := ol.le; omega) fun _ _ => ev_var rfl) ?_)
  refine as_seq (as_setE (ev_states (xs := front m.r) (ev_call m.r (ea_cons (ev_var rfl) (ea_cons ev_int (ea_cons (ev_var rfl) ea_nil))) ⟨ok.ro, ok.r1, ok.rN⟩) (by have := or_.le; omega) fun _ _ => ev_var rfl) ?_)
  generalize behind m.l = ls at ol ⊢
  generalize front m.r = rs at or_ ⊢
  have l1 := ol.le
  have r1 := or_.le
  have lp := ol.pos
  have rp := or_.pos
  refine as_seq (as_setE (ev_callE (m.l, ls) (ea_cons (ev_var rfl) (ea_cons (ev_var rfl) ea_nil)) ⟨ok.lo, l2, ol.nd, ol.lt, ol.cl⟩) ?_)
  refine as_seq (as_setE (ev_callE (m.r, rs) (ea_cons (ev_var rfl) (ea_cons (ev_var rfl) ea_nil)) ⟨ok.ro, r2, or_.nd, or_.lt, or_.cl⟩) ?_)
  refine as_seq (as_setE (d := eTab al (small m ls rs)) (ev_pick ok.tab ol.lt or_.lt ⟨by omega, by omega⟩ (ev_var rfl) (fun _ => ev_var rfl) (fun _ _ => ev_var rfl) (fun _ _ => ev_var rfl) (fun _ _ => ev_var rfl)) ?_)
  have hsm := small_ok ok.tab ol.lt or_.lt
  have hkl := kept_ok ok.lo ol
  have hkr := kept_ok ok.ro or_
  have kl := kept_length m.l ls
  have kr := kept_length m.r rs
  have tn : ∀ (n : Nat), n ≤ 1000000 → EvI c (iRng1 (tCons (tVar 0) tNil)) [some (.dat (eI n))] ((List.range n).map eI) := fun n _ => by rw [← upTo_map]; exact ei_rng1 (n := (n : Int)) (ea_cons (ev_var rfl) ea_nil) (by omega)
  generalize small m ls rs = sm at hsm ⊢
  generalize hk1 : kept m.l ls = rows at hkl kl ⊢
  generalize hk2 : kept m.r rs = others at hkr kr ⊢
  generalize hk3 : m.l = ml
  generalize hk4 : m.r = mr
  generalize hk5 : m.t = mt
  have hmk : ∀ us ∈ sm, ∀ u ∈ us, WOk u := fun us hus => (hsm.2 us hus).2
  have hco : ∀ us ∈ columns sm rs.length, ∀ u ∈ us, WOk u := fun us hus u hu => by
    obtain ⟨j, hj, rfl⟩ := List.mem_map.mp hus
    obtain ⟨row, hrow, rfl⟩ := List.mem_map.mp hu
    have hr := hsm.2 row hrow
    refine hr.2 _ ?_
    have hj' : j < row.length := by rw [hr.1]; exact List.mem_range.mp hj
    rw [List.getD_eq_getElem?_getD, List.getElem?_eq_getElem hj']
    exact List.getElem_mem _
  have hcl := classesP_ok (rows := rows) (marks := sm) (by omega) (by rw [hsm.1, kl])
  have hcr := classesP_ok (rows := others) (marks := columns sm rs.length) (by omega) (by unfold columns; rw [List.length_map, List.length_range, kr])
  have ecl := classes_eT hal rows hmk
  have ecr := classes_eT hal others hco
  have hcc : (columns sm rs.length) = (List.range rs.length).map fun j => sm.map fun row => row.getD j [] := rfl
  generalize hpl : classesP rows sm = pl at hcl ecl ⊢
  generalize hpr : classesP others (columns sm rs.length) = pr at hcr ecr ⊢
  generalize columns sm rs.length = cols at hco ecr hcc ⊢
  rw [← kl] at hkl
  rw [← kr] at hkr
  show AS c E _ ([some (.dat (eRows ml)), some (.dat (eRows mr)), some (.dat (eTab al mt)), some (.dat (.int 2)), some (.dat (eIs ls)), none, none, some (.dat (eIs rs)), some (.dat (eRows rows)), some (.dat (eRows others)), some (.dat (eTab al sm)), none, none, none, none, none, none, none, none] : Env) _
  refine as_seq (as_asg (ev_callE (rows, pl) (ea_cons (ev_var rfl) (ea_cons ((ev_callE (rows, sm.map (eT al)) (ea_cons (ev_var rfl) (ea_cons
      (ev_lc1 (xs := sm) (e := fun row => .lst (row.map (eW al))) (g := eT al) (ei_list (ev_var rfl)) (by rw [hsm.1]; omega) fun _ _ _ => ev_cbE (ea_cons (ev_var rfl) ea_nil) rcl_tupL) ea_nil)) ?_).to ?_) ea_nil)) ?_) eg_tup2 ?_)
  · refine ⟨hkl, by show 1 ≤ rows.length; omega, by show rows.length ≤ 100; omega, by show (sm.map (eT al)).length = rows.length; rw [List.length_map, hsm.1, kl], fun k hk => ?_⟩
    obtain ⟨us, _, rfl⟩ := List.mem_map.mp hk
    exact eT_ok al us
  · show eIs (classesP rows ((sm.map (eT al)).map D.key)) = _
    rw [ecl]
  · exact ⟨hkl, by show 1 ≤ rows.length; omega, by show rows.length ≤ 100; omega, hcl.1, hcl.2⟩
  show AS c E _ ([some (.dat (eRows ml)), some (.dat (eRows mr)), some (.dat (eTab al mt)), some (.dat (.int 2)), some (.dat (eIs ls)), none, none, some (.dat (eIs rs)), some (.dat (eRows rows)), some (.dat (eRows others)), some (.dat (eTab al sm)), none, none, some (.dat (eIs (chosen pl))), some (.dat (eRows (chosenRows rows pl))), none, none, none, none] : Env) _
  have h7 : EvE c (tCB (rLenF c.K) (tCons (tVar 7) tNil)) ([some (.dat (eRows ml)), some (.dat (eRows mr)), some (.dat (eTab al mt)), some (.dat (.int 2)), some (.dat (eIs ls)), none, none, some (.dat (eIs rs)), some (.dat (eRows rows)), some (.dat (eRows others)), some (.dat (eTab al sm)), none, none, some (.dat (eIs (chosen pl))), some (.dat (eRows (chosenRows rows pl))), none, none, none, none] : Env) (.int (rs.length : Nat)) := by
    have h8 : EvE c (tCB (rLenF c.K) (tCons (tVar 7) tNil)) ([some (.dat (eRows ml)), some (.dat (eRows mr)), some (.dat (eTab al mt)), some (.dat (.int 2)), some (.dat (eIs ls)), none, none, some (.dat (eIs rs)), some (.dat (eRows rows)), some (.dat (eRows others)), some (.dat (eTab al sm)), none, none, some (.dat (eIs (chosen pl))), some (.dat (eRows (chosenRows rows pl))), none, none, none, none] : Env) (.int ((rs.map eI).length : Nat)) := ev_cbE (ea_cons (ev_var (d := .lst (rs.map eI)) rfl) ea_nil) rcl_lenL
    rw [List.length_map] at h8
    exact h8
  refine as_seq (as_setE (d := .lst (cols.map (eT al))) (lst_of (xs := (List.range rs.length).map fun j => eT al (sm.map fun row => row.getD j [])) (by rw [hcc, List.map_map]; rfl)
    (ev_lc1 (e := eI) ?_ (by rw [List.length_range]; omega) fun n j hn => ev_cbE (ea_cons (ev_lc1 (xs := sm) (e := fun row => .lst (row.map (eW al))) (g := fun row => eW al (row.getD j [])) (ei_list (ev_var rfl)) (by rw [hsm.1]; omega) fun k row hk => ?_) ea_nil) ?_)) ?_)
  · rw [← upTo_map]
    exact ei_rng1 (n := (rs.length : Int)) (ea_cons h7 ea_nil) (by omega)
  · have hj : j < rs.length := List.mem_range.mp (List.mem_of_getElem? hn)
    have hr := hsm.2 row (List.mem_of_getElem? hk)
    refine ev_opE (ev_var rfl) (ev_var rfl) (rop_ixL (at_nat ?_))
    rw [List.getElem?_map, List.getD_eq_getElem?_getD, List.getElem?_eq_getElem (by rw [hr.1]; exact hj)]
    rfl
  · show RClE c (rTupF c.K) _ (.tup ((sm.map fun row => row.getD j []).map (eW al)))
    rw [List.map_map]
    exact rcl_tupL
  show AS c E _ ([some (.dat (eRows ml)), some (.dat (eRows mr)), some (.dat (eTab al mt)), some (.dat (.int 2)), some (.dat (eIs ls)), none, none, some (.dat (eIs rs)), some (.dat (eRows rows)), some (.dat (eRows others)), some (.dat (eTab al sm)), none, none, some (.dat (eIs (chosen pl))), some (.dat (eRows (chosenRows rows pl))), none, some (.dat (.lst (cols.map (eT al)))), none, none] : Env) _
  refine as_seq (as_asg (ev_callE (others, pr) (ea_cons (ev_var rfl) (ea_cons ((ev_callE (others, cols.map (eT al)) (ea_cons (ev_var rfl) (ea_cons (ev_var rfl) ea_nil)) ?_).to ?_) ea_nil)) ?_) eg_tup2 ?_)
  · refine ⟨hkr, by show 1 ≤ others.length; omega, by show others.length ≤ 100; omega, by show (cols.map (eT al)).length = others.length; rw [hcc, List.length_map, kr]; simp, fun k hk => ?_⟩
    obtain ⟨us, _, rfl⟩ := List.mem_map.mp hk
    exact eT_ok al us
  · show eIs (classesP others ((cols.map (eT al)).map D.key)) = _
    rw [ecr]
  · exact ⟨hkr, by show 1 ≤ others.length; omega, by show others.length ≤ 100; omega, hcr.1, hcr.2⟩
  have cl := chosen_lt hcl.2 hcl.1
  have cr := chosen_lt hcr.2 hcr.1
  rw [kl] at cl
  rw [kr] at cr
  have zl : (chosen pl).length ≤ 100000 := by
    have h1 := maxL_lt (fun z => by have := hcl.1; rw [z] at this; simp at this; omega) hcl.2
    unfold chosen
    rw [List.length_map, List.length_range]
    have := hcl.1
    omega
  have zr : (chosen pr).length ≤ 100000 := by
    have h1 := maxL_lt (fun z => by have := hcr.1; rw [z] at this; simp at this; omega) hcr.2
    unfold chosen
    rw [List.length_map, List.length_range]
    have := hcr.1
    omega
  show AS c E _ ([some (.dat (eRows ml)), some (.dat (eRows mr)), some (.dat (eTab al mt)), some (.dat (.int 2)), some (.dat (eIs ls)), none, none, some (.dat (eIs rs)), some (.dat (eRows rows)), some (.dat (eRows others)), some (.dat (eTab al sm)), none, none, some (.dat (eIs (chosen pl))), some (.dat (eRows (chosenRows rows pl))), none, some (.dat (.lst (cols.map (eT al)))), some (.dat (eIs (chosen pr))), some (.dat (eRows (chosenRows others pr)))] : Env) _
  exact as_retE (ev_tup (ea_cons (ev_var rfl) (ea_cons (ev_var rfl) (ea_cons (ev_pick hsm cl cr ⟨zl, zr⟩ (ev_var rfl) (fun _ => ev_var rfl) (fun _ _ => ev_var rfl) (fun _ _ => ev_var rfl) (fun _ _ => ev_var rfl)) ea_nil)))) rfl
end
end Fx
/-! text FxF -/
namespace Fx
open PySem L2 Evl PyProof.Rows Mir

/-! ### alphabets, words -/
theorem al_ok1 : ∀ al ∈ Als, ∀ k ∈ [0, 1], lt al k ∈ LETTERS.cps.toList ∧ Txt.count (alS al) ⟨#[lt al k]⟩ = 1 ∧ lt al k ∈ (alS al).cps.toList := by decide +kernel
theorem two_mem {k : Nat} (h : k < 2) : k ∈ [0, 1] := by
  have : k = 0 ∨ k = 1 := by omega
  rcases this with rfl | rfl <;> simp
theorem wS_signs (al : Al) (w : List Nat) : signs (wS al w) = w.map fun k => D.str ⟨#[lt al k]⟩ := by
  unfold signs wS
  rw [List.map_map]
  rfl
theorem small_str {al : Al} {w : List Nat} (h : w.length ≤ 1000) : (wS al w).length ≤ sizeLine := by rw [wS_length]; exact sz_ok (by omega)
section
variable {c : Ct} {E : XK} {ρ : Env} {te tl : TE}
theorem ev_isi {t n : String} {b : Bool} {d : D} (h : EvE c te ρ d) (e : d.tyn = some t) (hk : kitB t n = some b) : EvE c (tCB (rIsi c.K) (tCons te (tCons (tC (.ty n)) tNil))) ρ (.bl b) := ev_cbE (ea_cons h (ea_cons ev_raw ea_nil)) (rcl_isi e hk)
theorem et_isN {t n : String} {d : D} (h : EvE c te ρ d) (e : d.tyn = some t) (hk : kitB t n = some true) : EvT c (tNot (tB (tCB (rIsi c.K) (tCons te (tCons (tC (.ty n)) tNil))))) ρ false := (et_not (et_B (ev_isi h e hk)) : EvT c _ ρ (!true))
theorem all_true (n : Nat) : (List.replicate n true).all id = true := by simp
theorem ev_allT {α : Type} {xs : List α} {e : α → D} {wi : TI} {j : Nat} (h : EvI c wi ρ (xs.map e)) (hz : xs.length ≤ 100000)
    (ht : ∀ (i : Nat) x, xs[i]? = some x → EvE c te ((wipeE ρ [j]).set j (some (.dat (e x)))) (.bl true)) : EvE c (tCB (rAll c.K) (tCons (tLc wi (gName j) tYes te [j]) tNil)) ρ (.bl true) := by
  have h1 := ev_lc1 (g := fun _ => D.bl true) h hz ht
  have e1 : xs.map (fun _ => D.bl true) = (List.replicate xs.length true).map D.bl := by rw [List.map_replicate, List.map_const']
  rw [e1] at h1
  have h2 := ev_cbE (ea_cons h1 ea_nil) (rcl_all (c := c) (bs := List.replicate xs.length true))
  rw [all_true] at h2
  exact h2
theorem as_is_alphabet (al : Al) (h : al ∈ Als) : AS c E (t_is_alphabet c) (entry N_is_alphabet [.str (alS al)]) { nx := fun _ => False, rt := fun d => d = .bl true } := by
  refine as_seq (as_ifT (b := false) (et_or (a := false) (et_isN (ev_var rfl) rfl rfl) fun _ => et_not (et_test (ev_chain (a := true) (b := true) ev_int (ev_cbE (ea_cons (ev_var rfl) ea_nil) (rcl_lenS (small_str (by decide)))) rop_B0 (fun _ => ev_int) fun _ => rop_B0))) (fun z => by cases z) fun _ => as_next ?_)
  refine as_retE (ev_allT (xs := [0, 1]) (e := fun k => .str ⟨#[lt al k]⟩) (by rw [← wS_signs]; exact ei_str (ev_var rfl)) (by decide) fun i k hk => ?_) rfl
  obtain ⟨h1, h2, _⟩ := al_ok1 al h k (List.mem_of_getElem? hk)
  refine (ev_andV (a := true) (b := true) (EvE.to (ev_opE (ev_var rfl) ev_str rop_inC) ?_) fun _ => EvE.to (ev_opE (ev_scount (ev_var rfl) (ev_var rfl)) ev_int rop_eqI) ?_)
  · rw [decide_eq_true h1]
  · rw [h2]
    rfl
theorem as_is_word (i : Al × List Nat) (h : i.1 ∈ Als ∧ i.2.length = 2 ∧ ∀ k ∈ i.2, k < 2) : AS c E (t_is_word c) (entry N_is_word [.str (alS i.1), eW i.1 i.2]) { nx := fun _ => False, rt := fun d => d = .bl true } := by
  obtain ⟨al, w⟩ := i
  obtain ⟨hal, hl, hw⟩ := h
  have hl : w.length = 2 := hl
  refine as_retE (ev_andV (a := true) (b := true) (ev_isi (ev_var rfl) rfl rfl) fun _ => ev_allT (xs := w) (e := fun k => .str ⟨#[lt al k]⟩) (by rw [← wS_signs]; exact ei_str (ev_var rfl)) (by omega) fun i k hk => ?_) rfl
  refine EvE.to (ev_opE (ev_var rfl) (ev_var rfl) rop_inC) ?_
  rw [decide_eq_true (al_ok1 al hal k (two_mem (hw k (List.mem_of_getElem? hk)))).2.2]

/-! ### rows, tables -/
theorem ev_lenEq {ds : List D} {n : Nat} (h : EvE c te ρ (.lst ds)) (e : ds.length = n) : EvE c (tCB (rLenF c.K) (tCons te tNil)) ρ (.int (n : Nat)) := by
  subst e
  exact ev_cbE (ea_cons h ea_nil) rcl_lenL
theorem as_are_rows (rows : List (List Nat)) (h : RowsOk rows.length rows ∧ 1 ≤ rows.length ∧ rows.length ≤ 40) : AS c E (t_are_rows c) (entry N_are_rows [eRows rows, .int 2]) { nx := fun _ => False, rt := fun d => d = .bl true } := by
  obtain ⟨ok, n1, nN⟩ := h
  have hlen : ∀ {ρ : Env}, ρ[0]? = some (some (.dat (eRows rows))) → EvE c (tCB (rLenF c.K) (tCons (tVar 0) tNil)) ρ (.int (rows.length : Nat)) := fun h0 => ev_lenEq (ds := rows.map eIs) (ev_var h0) (by rw [List.length_map])
  refine as_seq (as_ifT (b := false) (et_or (a := false) (et_isN (ev_var rfl) rfl rfl) fun _ => (et_not (et_test (ev_chain ev_int (hlen rfl) rop_B0 (fun _ => ev_int) fun _ => rop_B0))).to ?_) (fun z => by cases z) fun _ => as_next ?_)
  · rw [decide_eq_true (show (1 : Int) ≤ (rows.length : Nat) by omega), decide_eq_true (show ((rows.length : Nat) : Int) ≤ 40 by omega)]
    rfl
  refine as_seq (as_for (ei_list (xs := rows.map eIs) (ev_var rfl)) (fun _ ρ => ρ = [some (.dat (eRows rows)), some (.dat (.int 2)), none, none]) rfl ?_ ?_)
  · rintro i x ρ hx rfl
    obtain ⟨r, hr, rfl⟩ := map_get hx
    have ro := ok.2 r (List.mem_of_getElem? hr)
    refine ⟨_, _, eg_name, ?_⟩
    refine as_seq (as_ifT (b := false) (et_or (a := false) (et_isN (ev_var rfl) rfl rfl) fun _ => (et_test (ev_opE (ev_lenEq (ds := r.map eI) (ev_var rfl) (by rw [List.length_map, ro.1])) (ev_var rfl) rop_neI))) (fun z => by cases z) fun _ => as_next ?_)
    refine as_for (ei_list (xs := r.map eI) (ev_var rfl)) (fun _ ρ => ρ = [some (.dat (eRows rows)), some (.dat (.int 2)), some (.dat (eIs r)), none]) rfl ?_ ?_
    · rintro j x ρ hx rfl
      obtain ⟨s, hs, rfl⟩ := map_get hx
      have so := ro.2 s (List.mem_of_getElem? hs)
      refine ⟨_, _, eg_name, ?_⟩
      refine as_ifT (b := false) (et_or (a := false) (et_isN (ev_var rfl) rfl rfl) fun _ => et_or (a := false) (b := false) (et_B (ev_isi (ev_var rfl) rfl rfl)) fun _ => (et_not (et_test (ev_chain ev_int (ev_var rfl) rop_B0 (fun _ => hlen rfl) fun _ => rop_B0))).to ?_) (fun z => by cases z) fun _ => as_next ⟨_, .keep (.keep (.keep (.drop .nil))), rfl⟩
      rw [decide_eq_true (show (0 : Int) ≤ (s : Nat) by omega), decide_eq_true (show (s : Int) < (rows.length : Nat) by omega)]
      rfl
    · rintro ρ rfl
      exact ⟨_, .keep (.keep (.drop (.keep .nil))), rfl⟩
  · rintro ρ rfl
    exact as_retE ev_bl rfl
theorem as_is_table (i : Al × Mc) (h : i.1 ∈ Als ∧ McOk 40 i.2) : AS c E (t_is_table c) (entry N_is_table [eTab i.1 i.2.t, eI i.2.l.length, eI i.2.r.length, .int 2, .str (alS i.1)]) { nx := fun _ => False, rt := fun d => d = .bl true } := by
  obtain ⟨al, m⟩ := i
  obtain ⟨hal, ok⟩ := h
  have hal : al ∈ Als := hal
  have ok : McOk 40 m := ok
  show AS c E (t_is_table c) [some (.dat (eTab al m.t)), some (.dat (eI m.l.length)), some (.dat (eI m.r.length)), some (.dat (.int 2)), some (.dat (.str (alS al))), none, none] _
  refine as_seq (as_ifT (b := false) (et_or (a := false) (et_isN (ev_var rfl) rfl rfl) fun _ => (et_test (ev_opE (ev_lenEq (n := m.l.length) (ev_var rfl) (by rw [List.length_map, ok.t1])) (ev_var rfl) rop_neI)).to (by simp)) (fun z => by cases z) fun _ => as_next ?_)
  refine as_seq (as_for (ei_list (ev_var (i := 0) rfl)) (fun _ ρ => ρ = [some (.dat (eTab al m.t)), some (.dat (eI m.l.length)), some (.dat (eI m.r.length)), some (.dat (.int 2)), some (.dat (.str (alS al))), none, none]) rfl ?_ ?_)
  · rintro i x ρ hx rfl
    obtain ⟨r, hr, rfl⟩ := map_get hx
    have ro := ok.t2 r (List.mem_of_getElem? hr)
    refine ⟨_, _, eg_name, ?_⟩
    show AS c E _ [some (.dat (eTab al m.t)), some (.dat (eI m.l.length)), some (.dat (eI m.r.length)), some (.dat (.int 2)), some (.dat (.str (alS al))), some (.dat (.lst (r.map (eW al)))), none] _
    refine as_seq (as_ifT (b := false) (et_or (a := false) (et_isN (ev_var rfl) rfl rfl) fun _ => (et_test (ev_opE (ev_lenEq (n := m.r.length) (ev_var rfl) (by rw [List.length_map, ro.1])) (ev_var rfl) rop_neI)).to (by simp)) (fun z => by cases z) fun _ => as_next ?_)
    refine as_for (ei_list (xs := r.map (eW al)) (ev_var rfl)) (fun _ ρ => ρ = [some (.dat (eTab al m.t)), some (.dat (eI m.l.length)), some (.dat (eI m.r.length)), some (.dat (.int 2)), some (.dat (.str (alS al))), some (.dat (.lst (r.map (eW al)))), none]) rfl ?_ ?_
    · rintro j x ρ hx rfl
      obtain ⟨w, hw, rfl⟩ := map_get hx
      have wo := ro.2 w (List.mem_of_getElem? hw)
      refine ⟨_, _, eg_name, ?_⟩
      show AS c E _ [some (.dat (eTab al m.t)), some (.dat (eI m.l.length)), some (.dat (eI m.r.length)), some (.dat (.int 2)), some (.dat (.str (alS al))), some (.dat (.lst (r.map (eW al)))), some (.dat (eW al w))] _
      refine as_ifT (b := false) (et_or (a := false) (et_not (a := true) (et_B ((ev_callE (al, w) (ea_cons (ev_var rfl) (ea_cons (ev_var rfl) ea_nil)) ⟨hal, wo.1, wo.2⟩ : EvE c _ _ (.bl true))))) fun _ => (et_test (ev_opE (ev_cbE (ea_cons (ev_var rfl) ea_nil) (rcl_lenS (small_str (by omega)))) (ev_var rfl) rop_neI)).to ?_) (fun z => by cases z) fun _ => as_next ⟨_, .keep (.keep (.keep (.keep (.keep (.keep (.drop .nil)))))), rfl⟩
      rw [wS_length, wo.1]
      rfl
    · rintro ρ rfl
      exact ⟨_, .keep (.keep (.keep (.keep (.keep (.drop (.keep .nil)))))), rfl⟩
  · rintro ρ rfl
    exact as_retE ev_bl rfl
end
end Fx
/-! text PsB -/
namespace Fx
open PySem L2 Evl PyProof.Rows Mir
section
variable {P : Program} {w : World} {K : PySem.W.Frag} {mg : Str → Option Value} {base : Heap} {tabs : List NdefX.NTab} {ad : Ads} {cdv : Value} {A : Around} {outer : List PySem.Env} {s : Shared} {H : Hp} {E : XK} {f : Addr}
/-! ### Machine.__init__ -/
abbrev s_Machine___init__ : Stmt := inClass (topS 23) 0
abbrev N_Machine___init__ : List Str := ["self", "reads", "writes", "left", "right", "table", "good", "row"]
theorem sc_Machine___init__ : FnScope N_Machine___init__ ["self", "reads", "writes", "left", "right", "table"] (defScope s_Machine___init__) := ⟨rfl, rfl, rfl, by decide +kernel, rfl, by decide +kernel, by decide +kernel⟩
def t_Machine___init__ (c : Ct) : TS :=
      (tSeq (tAsg (tAndV (tCall (sp_is_alphabet c) [] E0 (tCons (tVar 1) tNil)) (tCall (sp_is_alphabet c) [] E0 (tCons (tVar 2) tNil))) (gName 6))
      (tSeq (tAsg (tAndV (tVar 6) (tAndV (tCall (sp_are_rows c) [] E0 (tCons (tVar 3) (tCons (tCB (rLenF c.K) (tCons (tVar 1) tNil)) tNil))) (tCall (sp_are_rows c) [] E0 (tCons (tVar 4) (tCons (tCB (rLenF c.K) (tCons (tVar 1) tNil)) tNil))))) (gName 6))
      (tSeq (tIfS (tOr (tNot (tB (tVar 6))) (tNot (tB (tCall (sp_is_table c) [] E0 (tCons (tVar 5) (tCons (tCB (rLenF c.K) (tCons (tVar 3) tNil)) (tCons (tCB (rLenF c.K) (tCons (tVar 4) tNil)) (tCons (tCB (rLenF c.K) (tCons (tVar 1) tNil)) (tCons (tVar 2) tNil))))))))) tNever tNext)
      (tSeq (sFld c.K (tVar 0) (tVar 1) "reads")
      (tSeq (sFld c.K (tVar 0) (tVar 2) "writes")
      (tSeq (sFld c.K (tVar 0) (tLc (iList c.K (tVar 3)) (gName 7) tYes (tCB (rLstF c.K) (tCons (tVar 7) tNil)) [7]) "left")
      (tSeq (sFld c.K (tVar 0) (tLc (iList c.K (tVar 4)) (gName 7) tYes (tCB (rLstF c.K) (tCons (tVar 7) tNil)) [7]) "right")
      (sFld c.K (tVar 0) (tLc (iList c.K (tVar 5)) (gName 7) tYes (tCB (rLstF c.K) (tCons (tVar 7) tNil)) [7]) "table"))))))))
theorem p_Machine___init__ (hr : Room 2 (A.deeper (envOfC "Machine.__init__" (defScope s_Machine___init__) s.heap.objs.size f cdv))) (T : Top K mg) (C_is_alphabet : Cal P w K mg base CX0 1 "is_alphabet" ["thing"] (sp_is_alphabet (ct P w K tabs ad))) (C_are_rows : Cal P w K mg base CX0 1 "_are_rows" ["thing", "letters"] (sp_are_rows (ct P w K tabs ad))) (C_is_table : Cal P w K mg base CX0 2 "_is_table" ["thing", "left", "right", "letters", "writes"] (sp_is_table (ct P w K tabs ad))) :
    PSs (cxOf CX0 P w K mg base N_Machine___init__ "Machine.__init__" (defScope s_Machine___init__) f cdv A outer s H E).nox (defBody s_Machine___init__) (t_Machine___init__ (ct P w K tabs ad)) :=
    have scN := sc_Machine___init__
    (pss_cons (ps_set (i := 6) scN.nd rfl (Or.inl rfl) (pe_and (pe_cal C_is_alphabet (hr.mono (by decide)) rfl pass0 (pa_cons (pv 1) pa_nil)) (pe_one (pe_cal C_is_alphabet (hr.mono (by decide)) rfl pass0 (pa_cons (pv 2) pa_nil)))))
      (pss_cons (ps_set (i := 6) scN.nd rfl (Or.inl rfl) (pe_and (pv 6) (pe_and (pe_cal C_are_rows (hr.mono (by decide)) rfl pass0 (pa_cons (pv 3) (pa_cons (pe_callB call_lenF rfl T.n_len boot_len (pa_cons (pv 1) pa_nil)) pa_nil))) (pe_one (pe_cal C_are_rows (hr.mono (by decide)) rfl pass0 (pa_cons (pv 4) (pa_cons (pe_callB call_lenF rfl T.n_len boot_len (pa_cons (pv 1) pa_nil)) pa_nil)))))))
      (pss_cons (ps_if (PW.pt (pw_or (pt_not (pt_val (pv 6))) (pw_or1 (pt_not (pt_val (pe_cal C_is_table (hr.mono (by decide)) rfl pass0 (pa_cons (pv 5) (pa_cons (pe_callB call_lenF rfl T.n_len boot_len (pa_cons (pv 3) pa_nil)) (pa_cons (pe_callB call_lenF rfl T.n_len boot_len (pa_cons (pv 4) pa_nil)) (pa_cons (pe_callB call_lenF rfl T.n_len boot_len (pa_cons (pv 1) pa_nil)) (pa_cons (pv 2) pa_nil))))))))))) (pss_one ps_never) pss_nil)
      (pss_cons (ps_fld (pv 0) (pv 1) rfl)
      (pss_cons (ps_fld (pv 0) (pv 2) rfl)
      (pss_cons (ps_fld (pv 0) (pe_lc (own := [("row", 7)]) (g := (gName 7)) rfl scN.nd (pi_list (pv 3)) (blkOk_by (own := [("row", 7)]) (N := N_Machine___init__) (sc := defScope s_Machine___init__) (by decide +kernel)) (fun _ _ _ _ _ => (pg_name (i := 7) scN.nd rfl (Or.inl rfl))) (fun _ _ _ _ _ => pts_nil) (fun _ _ _ _ _ => (pe_callTy call_lstF rfl T.n_list boot_list (pa_cons (pv 7) pa_nil)))) rfl)
      (pss_cons (ps_fld (pv 0) (pe_lc (own := [("row", 7)]) (g := (gName 7)) rfl scN.nd (pi_list (pv 4)) (blkOk_by (own := [("row", 7)]) (N := N_Machine___init__) (sc := defScope s_Machine___init__) (by decide +kernel)) (fun _ _ _ _ _ => (pg_name (i := 7) scN.nd rfl (Or.inl rfl))) (fun _ _ _ _ _ => pts_nil) (fun _ _ _ _ _ => (pe_callTy call_lstF rfl T.n_list boot_list (pa_cons (pv 7) pa_nil)))) rfl)
      (pss_one (ps_fld (pv 0) (pe_lc (own := [("row", 7)]) (g := (gName 7)) rfl scN.nd (pi_list (pv 5)) (blkOk_by (own := [("row", 7)]) (N := N_Machine___init__) (sc := defScope s_Machine___init__) (by decide +kernel)) (fun _ _ _ _ _ => (pg_name (i := 7) scN.nd rfl (Or.inl rfl))) (fun _ _ _ _ _ => pts_nil) (fun _ _ _ _ _ => (pe_callTy call_lstF rfl T.n_list boot_list (pa_cons (pv 7) pa_nil)))) rfl)))))))))
/-! ### form -/
abbrev s_form : Stmt := topS 24
abbrev N_form : List Str := ["machine", "left", "row", "right", "table"]
theorem sc_form : FnScope N_form ["machine"] (defScope s_form) := ⟨rfl, rfl, rfl, by decide +kernel, rfl, by decide +kernel, by decide +kernel⟩
def t_form (c : Ct) : TS :=
      (tSeq (tAsg (tCB (rTupF c.K) (tCons (tLc (iList c.K (tFld c.K (tVar 0) "left")) (gName 2) tYes (tCB (rTupF c.K) (tCons (tVar 2) tNil)) [2]) tNil)) (gName 1))
      (tSeq (tAsg (tCB (rTupF c.K) (tCons (tLc (iList c.K (tFld c.K (tVar 0) "right")) (gName 2) tYes (tCB (rTupF c.K) (tCons (tVar 2) tNil)) [2]) tNil)) (gName 3))
      (tSeq (tAsg (tCB (rTupF c.K) (tCons (tLc (iList c.K (tFld c.K (tVar 0) "table")) (gName 2) tYes (tCB (rTupF c.K) (tCons (tVar 2) tNil)) [2]) tNil)) (gName 4))
      (tRet (tTup (tCons (tFld c.K (tVar 0) "reads") (tCons (tFld c.K (tVar 0) "writes") (tCons (tVar 1) (tCons (tVar 3) (tCons (tVar 4) tNil))))))))))
theorem p_form (hr : Room 0 (A.deeper (envOfC "form" (defScope s_form) s.heap.objs.size f cdv))) (T : Top K mg) :
    PSs (cxOf CX0 P w K mg base N_form "form" (defScope s_form) f cdv A outer s H E).nox (defBody s_form) (t_form (ct P w K tabs ad)) :=
    have scN := sc_form
    (pss_cons (ps_set (i := 1) scN.nd rfl (Or.inl rfl) (pe_callTy call_tupF rfl T.n_tuple boot_tuple (pa_cons (pe_lc (own := [("row", 2)]) (g := (gName 2)) rfl scN.nd (pi_list (pe_fld (pv 0) rfl)) (blkOk_by (own := [("row", 2)]) (N := N_form) (sc := defScope s_form) (by decide +kernel)) (fun _ _ _ _ _ => (pg_name (i := 2) scN.nd rfl (Or.inl rfl))) (fun _ _ _ _ _ => pts_nil) (fun _ _ _ _ _ => (pe_callTy call_tupF rfl T.n_tuple boot_tuple (pa_cons (pv 2) pa_nil)))) pa_nil)))
      (pss_cons (ps_set (i := 3) scN.nd rfl (Or.inl rfl) (pe_callTy call_tupF rfl T.n_tuple boot_tuple (pa_cons (pe_lc (own := [("row", 2)]) (g := (gName 2)) rfl scN.nd (pi_list (pe_fld (pv 0) rfl)) (blkOk_by (own := [("row", 2)]) (N := N_form) (sc := defScope s_form) (by decide +kernel)) (fun _ _ _ _ _ => (pg_name (i := 2) scN.nd rfl (Or.inl rfl))) (fun _ _ _ _ _ => pts_nil) (fun _ _ _ _ _ => (pe_callTy call_tupF rfl T.n_tuple boot_tuple (pa_cons (pv 2) pa_nil)))) pa_nil)))
      (pss_cons (ps_set (i := 4) scN.nd rfl (Or.inl rfl) (pe_callTy call_tupF rfl T.n_tuple boot_tuple (pa_cons (pe_lc (own := [("row", 2)]) (g := (gName 2)) rfl scN.nd (pi_list (pe_fld (pv 0) rfl)) (blkOk_by (own := [("row", 2)]) (N := N_form) (sc := defScope s_form) (by decide +kernel)) (fun _ _ _ _ _ => (pg_name (i := 2) scN.nd rfl (Or.inl rfl))) (fun _ _ _ _ _ => pts_nil) (fun _ _ _ _ _ => (pe_callTy call_tupF rfl T.n_tuple boot_tuple (pa_cons (pv 2) pa_nil)))) pa_nil)))
      (pss_one (ps_ret (pe_tup (pa_cons (pe_fld (pv 0) rfl) (pa_cons (pe_fld (pv 0) rfl) (pa_cons (pv 1) (pa_cons (pv 3) (pa_cons (pv 4) pa_nil)))))))))))
/-! ### identity -/
abbrev s_identity : Stmt := topS 25
abbrev N_identity : List Str := ["alphabet", "loop", "letter"]
theorem sc_identity : FnScope N_identity ["alphabet"] (defScope s_identity) := ⟨rfl, rfl, rfl, by decide +kernel, rfl, by decide +kernel, by decide +kernel⟩
def t_identity (c : Ct) : TS :=
      (tSeq (tAsg (tLst (tCons (tLc (iStr (tVar 0)) (gName 2) tYes (tC (.int 0)) [2]) tNil)) (gName 1))
      (tRet (tMake c.A.M (sp_Machine c) [] E0 (tCons (tVar 0) (tCons (tVar 0) (tCons (tVar 1) (tCons (tVar 1) (tCons (tLst (tCons (tLst (tCons (tVar 0) tNil)) tNil)) tNil))))))))
theorem p_identity (hr : Room 4 (A.deeper (envOfC "identity" (defScope s_identity) s.heap.objs.size f cdv))) (T : Top K mg) (C_Machine : CalM P w K mg base 3 "Machine" ad.M (sp_Machine (ct P w K tabs ad))) :
    PSs (cxOf CX0 P w K mg base N_identity "identity" (defScope s_identity) f cdv A outer s H E).nox (defBody s_identity) (t_identity (ct P w K tabs ad)) :=
    have scN := sc_identity
    (pss_cons (ps_set (i := 1) scN.nd rfl (Or.inl rfl) (pe_lst (pa_cons (pe_lc (own := [("letter", 2)]) (g := (gName 2)) rfl scN.nd (pi_str (pv 0)) (blkOk_by (own := [("letter", 2)]) (N := N_identity) (sc := defScope s_identity) (by decide +kernel)) (fun _ _ _ _ _ => (pg_name (i := 2) scN.nd rfl (Or.inl rfl))) (fun _ _ _ _ _ => pts_nil) (fun _ _ _ _ _ => pe_int)) pa_nil)))
      (pss_one (ps_ret (pe_mkm C_Machine (hr.mono (by decide)) rfl pass0 (pa_cons (pv 0) (pa_cons (pv 0) (pa_cons (pv 1) (pa_cons (pv 1) (pa_cons (pe_lst (pa_cons (pe_lst (pa_cons (pv 0) pa_nil)) pa_nil)) pa_nil)))))))))
/-! ### least -/
abbrev s_least : Stmt := topS 27
abbrev N_least : List Str := ["machine", "left", "right", "table"]
theorem sc_least : FnScope N_least ["machine"] (defScope s_least) := ⟨rfl, rfl, rfl, by decide +kernel, rfl, by decide +kernel, by decide +kernel⟩
def t_least (c : Ct) : TS :=
      (tSeq (tAsg (tCall (sp_least_parts c) [] E0 (tCons (tFld c.K (tVar 0) "left") (tCons (tFld c.K (tVar 0) "right") (tCons (tFld c.K (tVar 0) "table") (tCons (tCB (rLenF c.K) (tCons (tFld c.K (tVar 0) "reads") tNil)) tNil))))) (gTup c.K 3 (gCons (gName 1) (gCons (gName 2) (gCons (gName 3) gNil)))))
      (tRet (tMake c.A.M (sp_Machine c) [] E0 (tCons (tFld c.K (tVar 0) "reads") (tCons (tFld c.K (tVar 0) "writes") (tCons (tVar 1) (tCons (tVar 2) (tCons (tVar 3) tNil))))))))
theorem p_least (hr : Room 4 (A.deeper (envOfC "least" (defScope s_least) s.heap.objs.size f cdv))) (T : Top K mg) (C_least_parts : Cal P w K mg base CX0 3 "least_parts" ["left", "right", "table", "letters"] (sp_least_parts (ct P w K tabs ad))) (C_Machine : CalM P w K mg base 3 "Machine" ad.M (sp_Machine (ct P w K tabs ad))) :
    PSs (cxOf CX0 P w K mg base N_least "least" (defScope s_least) f cdv A outer s H E).nox (defBody s_least) (t_least (ct P w K tabs ad)) :=
    have scN := sc_least
    (pss_cons (ps_asg (pe_cal C_least_parts (hr.mono (by decide)) rfl pass0 (pa_cons (pe_fld (pv 0) rfl) (pa_cons (pe_fld (pv 0) rfl) (pa_cons (pe_fld (pv 0) rfl) (pa_cons (pe_callB call_lenF rfl T.n_len boot_len (pa_cons (pe_fld (pv 0) rfl) pa_nil)) pa_nil))))) (pg_tup rfl (pgs_cons (pg_name (i := 1) scN.nd rfl (Or.inl rfl)) (pgs_cons (pg_name (i := 2) scN.nd rfl (Or.inl rfl)) (pgs_cons (pg_name (i := 3) scN.nd rfl (Or.inl rfl)) pgs_nil)))))
      (pss_one (ps_ret (pe_mkm C_Machine (hr.mono (by decide)) rfl pass0 (pa_cons (pe_fld (pv 0) rfl) (pa_cons (pe_fld (pv 0) rfl) (pa_cons (pv 1) (pa_cons (pv 2) (pa_cons (pv 3) pa_nil)))))))))
/-! ### copied -/
abbrev s_copied : Stmt := topS 42
abbrev N_copied : List Str := ["machine"]
theorem sc_copied : FnScope N_copied ["machine"] (defScope s_copied) := ⟨rfl, rfl, rfl, by decide +kernel, rfl, by decide +kernel, by decide +kernel⟩
def t_copied (c : Ct) : TS :=
      (tRet (tMake c.A.M (sp_Machine c) [] E0 (tCons (tFld c.K (tVar 0) "reads") (tCons (tFld c.K (tVar 0) "writes") (tCons (tFld c.K (tVar 0) "left") (tCons (tFld c.K (tVar 0) "right") (tCons (tFld c.K (tVar 0) "table") tNil)))))))
theorem p_copied (hr : Room 4 (A.deeper (envOfC "copied" (defScope s_copied) s.heap.objs.size f cdv))) (T : Top K mg) (C_Machine : CalM P w K mg base 3 "Machine" ad.M (sp_Machine (ct P w K tabs ad))) :
    PSs (cxOf CX0 P w K mg base N_copied "copied" (defScope s_copied) f cdv A outer s H E).nox (defBody s_copied) (t_copied (ct P w K tabs ad)) :=
    have scN := sc_copied
    (pss_one (ps_ret (pe_mkm C_Machine (hr.mono (by decide)) rfl pass0 (pa_cons (pe_fld (pv 0) rfl) (pa_cons (pe_fld (pv 0) rfl) (pa_cons (pe_fld (pv 0) rfl) (pa_cons (pe_fld (pv 0) rfl) (pa_cons (pe_fld (pv 0) rfl) pa_nil))))))))
/-! ### _left_onward -/
abbrev s_left_onward : Stmt := topS 31
abbrev N_left_onward : List Str := ["one", "two", "thing", "k", "i", "row", "told", "j", "letter"]
theorem sc_left_onward : FnScope N_left_onward ["one", "two", "thing", "k"] (defScope s_left_onward) := ⟨rfl, rfl, rfl, by decide +kernel, rfl, by decide +kernel, by decide +kernel⟩
def t_left_onward (c : Ct) : TS :=
      (tSeq (tAsg (tVar 2) (gTup c.K 2 (gCons (gName 4) (gCons (gName 5) gNil))))
      (tSeq (tAsg (tLst tNil) (gName 6))
      (tSeq (tFor (iRng1 (tCons (tCB (rLenF c.K) (tCons (tFld c.K (tVar 0) "right") tNil)) tNil)) (gName 7)
      (tSeq (tAsg (tM1 rIdxS (tFld c.K (tVar 1) "reads") (tOp rIxS (tOp (rIxL c.K) (tOp (rIxL c.K) (tFld c.K (tVar 0) "table") (tVar 4)) (tVar 7)) (tVar 3))) (gName 8))
      (tDrop (tBM c.K "list" rAppend (tVar 6) (tCons (tOp (rIxL c.K) (tOp (rIxL c.K) (tFld c.K (tVar 1) "left") (tOp (rIxT c.K) (tVar 5) (tOp (rIxL c.K) (tOp (rIxL c.K) (tFld c.K (tVar 0) "right") (tVar 7)) (tVar 3)))) (tVar 8)) tNil)))))
      (tRet (tTup (tCons (tOp (rIxL c.K) (tOp (rIxL c.K) (tFld c.K (tVar 0) "left") (tVar 4)) (tVar 3)) (tCons (tCB (rTupF c.K) (tCons (tVar 6) tNil)) tNil)))))))
theorem p_left_onward (hr : Room 0 (A.deeper (envOfC "_left_onward" (defScope s_left_onward) s.heap.objs.size f cdv))) (T : Top K mg) :
    PSs (cxOf CX0 P w K mg base N_left_onward "_left_onward" (defScope s_left_onward) f cdv A outer s H E).nox (defBody s_left_onward) (t_left_onward (ct P w K tabs ad)) :=
    have scN := sc_left_onward
    (pss_cons (ps_asg (pv 2) (pg_tup rfl (pgs_cons (pg_name (i := 4) scN.nd rfl (Or.inl rfl)) (pgs_cons (pg_name (i := 5) scN.nd rfl (Or.inl rfl)) pgs_nil))))
      (pss_cons (ps_set (i := 6) scN.nd rfl (Or.inl rfl) (pe_lst pa_nil))
      (pss_cons (ps_for PassesOwn.never rfl (pi_range1 rfl T.n_range (pa_cons (pe_callB call_lenF rfl T.n_len boot_len (pa_cons (pe_fld (pv 0) rfl) pa_nil)) pa_nil)) (pg_name (i := 7) scN.nd rfl (Or.inl rfl))
      (pss_cons (ps_set (i := 8) scN.nd rfl (Or.inl rfl) (pe_m1 PySem.F.slot_str_index PySem.F.type_str_index mt_idxS (pe_fld (pv 1) rfl) (pe_ix ix_str (pe_ix ix_list (pe_ix ix_list (pe_fld (pv 0) rfl) (pv 4) (fun _ _ => rfl)) (pv 7) (fun _ _ => rfl)) (pv 3) (fun _ _ => rfl))))
      (pss_one (ps_expr (pe_bm PySem.F.plainAttrs_list PySem.F.slot_list_append PySem.F.type_list_append mt_append (pv 6) (pa_cons (pe_ix ix_list (pe_ix ix_list (pe_fld (pv 1) rfl) (pe_ix ix_tup (pv 5) (pe_ix ix_list (pe_ix ix_list (pe_fld (pv 0) rfl) (pv 7) (fun _ _ => rfl)) (pv 3) (fun _ _ => rfl)) (fun _ _ => rfl)) (fun _ _ => rfl)) (pv 8) (fun _ _ => rfl)) pa_nil))))))
      (pss_one (ps_ret (pe_tup (pa_cons (pe_ix ix_list (pe_ix ix_list (pe_fld (pv 0) rfl) (pv 4) (fun _ _ => rfl)) (pv 3) (fun _ _ => rfl)) (pa_cons (pe_callTy call_tupF rfl T.n_tuple boot_tuple (pa_cons (pv 6) pa_nil)) pa_nil))))))))
/-! ### _right_onward -/
abbrev s_right_onward : Stmt := topS 32
abbrev N_right_onward : List Str := ["one", "two", "thing", "k", "j", "row", "told", "i", "letter"]
theorem sc_right_onward : FnScope N_right_onward ["one", "two", "thing", "k"] (defScope s_right_onward) := ⟨rfl, rfl, rfl, by decide +kernel, rfl, by decide +kernel, by decide +kernel⟩
def t_right_onward (c : Ct) : TS :=
      (tSeq (tAsg (tVar 2) (gTup c.K 2 (gCons (gName 4) (gCons (gName 5) gNil))))
      (tSeq (tAsg (tLst tNil) (gName 6))
      (tSeq (tFor (iRng1 (tCons (tCB (rLenF c.K) (tCons (tFld c.K (tVar 0) "left") tNil)) tNil)) (gName 7)
      (tSeq (tAsg (tM1 rIdxS (tFld c.K (tVar 1) "reads") (tOp rIxS (tOp (rIxL c.K) (tOp (rIxL c.K) (tFld c.K (tVar 0) "table") (tVar 7)) (tVar 4)) (tVar 3))) (gName 8))
      (tDrop (tBM c.K "list" rAppend (tVar 6) (tCons (tOp (rIxL c.K) (tOp (rIxL c.K) (tFld c.K (tVar 1) "right") (tOp (rIxT c.K) (tVar 5) (tOp (rIxL c.K) (tOp (rIxL c.K) (tFld c.K (tVar 0) "left") (tVar 7)) (tVar 3)))) (tVar 8)) tNil)))))
      (tRet (tTup (tCons (tOp (rIxL c.K) (tOp (rIxL c.K) (tFld c.K (tVar 0) "right") (tVar 4)) (tVar 3)) (tCons (tCB (rTupF c.K) (tCons (tVar 6) tNil)) tNil)))))))
theorem p_right_onward (hr : Room 0 (A.deeper (envOfC "_right_onward" (defScope s_right_onward) s.heap.objs.size f cdv))) (T : Top K mg) :
    PSs (cxOf CX0 P w K mg base N_right_onward "_right_onward" (defScope s_right_onward) f cdv A outer s H E).nox (defBody s_right_onward) (t_right_onward (ct P w K tabs ad)) :=
    have scN := sc_right_onward
    (pss_cons (ps_asg (pv 2) (pg_tup rfl (pgs_cons (pg_name (i := 4) scN.nd rfl (Or.inl rfl)) (pgs_cons (pg_name (i := 5) scN.nd rfl (Or.inl rfl)) pgs_nil))))
      (pss_cons (ps_set (i := 6) scN.nd rfl (Or.inl rfl) (pe_lst pa_nil))
      (pss_cons (ps_for PassesOwn.never rfl (pi_range1 rfl T.n_range (pa_cons (pe_callB call_lenF rfl T.n_len boot_len (pa_cons (pe_fld (pv 0) rfl) pa_nil)) pa_nil)) (pg_name (i := 7) scN.nd rfl (Or.inl rfl))
      (pss_cons (ps_set (i := 8) scN.nd rfl (Or.inl rfl) (pe_m1 PySem.F.slot_str_index PySem.F.type_str_index mt_idxS (pe_fld (pv 1) rfl) (pe_ix ix_str (pe_ix ix_list (pe_ix ix_list (pe_fld (pv 0) rfl) (pv 7) (fun _ _ => rfl)) (pv 4) (fun _ _ => rfl)) (pv 3) (fun _ _ => rfl))))
      (pss_one (ps_expr (pe_bm PySem.F.plainAttrs_list PySem.F.slot_list_append PySem.F.type_list_append mt_append (pv 6) (pa_cons (pe_ix ix_list (pe_ix ix_list (pe_fld (pv 1) rfl) (pe_ix ix_tup (pv 5) (pe_ix ix_list (pe_ix ix_list (pe_fld (pv 0) rfl) (pv 7) (fun _ _ => rfl)) (pv 3) (fun _ _ => rfl)) (fun _ _ => rfl)) (fun _ _ => rfl)) (pv 8) (fun _ _ => rfl)) pa_nil))))))
      (pss_one (ps_ret (pe_tup (pa_cons (pe_ix ix_list (pe_ix ix_list (pe_fld (pv 0) rfl) (pv 4) (fun _ _ => rfl)) (pv 3) (fun _ _ => rfl)) (pa_cons (pe_callTy call_tupF rfl T.n_tuple boot_tuple (pa_cons (pv 6) pa_nil)) pa_nil))))))))
/-! ### _letter -/
abbrev s_letter : Stmt := topS 33
abbrev N_letter : List Str := ["one", "two", "front", "behind", "k", "i", "row", "j", "other", "letter"]
theorem sc_letter : FnScope N_letter ["one", "two", "front", "behind", "k"] (defScope s_letter) := ⟨rfl, rfl, rfl, by decide +kernel, rfl, by decide +kernel, by decide +kernel⟩
def t_letter (c : Ct) : TS :=
      (tSeq (tAsg (tVar 2) (gTup c.K 2 (gCons (gName 5) (gCons (gName 6) gNil))))
      (tSeq (tAsg (tVar 3) (gTup c.K 2 (gCons (gName 7) (gCons (gName 8) gNil))))
      (tSeq (tAsg (tM1 rIdxS (tFld c.K (tVar 1) "reads") (tOp rIxS (tOp (rIxL c.K) (tOp (rIxL c.K) (tFld c.K (tVar 0) "table") (tVar 5)) (tVar 7)) (tVar 4))) (gName 9))
      (tRet (tOp rIxS (tOp (rIxL c.K) (tOp (rIxL c.K) (tFld c.K (tVar 1) "table") (tOp (rIxT c.K) (tVar 6) (tOp (rIxL c.K) (tOp (rIxL c.K) (tFld c.K (tVar 0) "right") (tVar 7)) (tVar 4)))) (tOp (rIxT c.K) (tVar 8) (tOp (rIxL c.K) (tOp (rIxL c.K) (tFld c.K (tVar 0) "left") (tVar 5)) (tVar 4)))) (tVar 9))))))
theorem p_letter (hr : Room 0 (A.deeper (envOfC "_letter" (defScope s_letter) s.heap.objs.size f cdv))) (T : Top K mg) :
    PSs (cxOf CX0 P w K mg base N_letter "_letter" (defScope s_letter) f cdv A outer s H E).nox (defBody s_letter) (t_letter (ct P w K tabs ad)) :=
    have scN := sc_letter
    (pss_cons (ps_asg (pv 2) (pg_tup rfl (pgs_cons (pg_name (i := 5) scN.nd rfl (Or.inl rfl)) (pgs_cons (pg_name (i := 6) scN.nd rfl (Or.inl rfl)) pgs_nil))))
      (pss_cons (ps_asg (pv 3) (pg_tup rfl (pgs_cons (pg_name (i := 7) scN.nd rfl (Or.inl rfl)) (pgs_cons (pg_name (i := 8) scN.nd rfl (Or.inl rfl)) pgs_nil))))
      (pss_cons (ps_set (i := 9) scN.nd rfl (Or.inl rfl) (pe_m1 PySem.F.slot_str_index PySem.F.type_str_index mt_idxS (pe_fld (pv 1) rfl) (pe_ix ix_str (pe_ix ix_list (pe_ix ix_list (pe_fld (pv 0) rfl) (pv 5) (fun _ _ => rfl)) (pv 7) (fun _ _ => rfl)) (pv 4) (fun _ _ => rfl))))
      (pss_one (ps_ret (pe_ix ix_str (pe_ix ix_list (pe_ix ix_list (pe_fld (pv 1) rfl) (pe_ix ix_tup (pv 6) (pe_ix ix_list (pe_ix ix_list (pe_fld (pv 0) rfl) (pv 7) (fun _ _ => rfl)) (pv 4) (fun _ _ => rfl)) (fun _ _ => rfl)) (fun _ _ => rfl)) (pe_ix ix_tup (pv 8) (pe_ix ix_list (pe_ix ix_list (pe_fld (pv 0) rfl) (pv 5) (fun _ _ => rfl)) (pv 4) (fun _ _ => rfl)) (fun _ _ => rfl)) (fun _ _ => rfl)) (pv 9) (fun _ _ => rfl)))))))
/-! ### _told -/
abbrev s_told : Stmt := topS 36
abbrev N_told : List Str := ["one", "two", "front", "behind", "k"]
theorem sc_told : FnScope N_told ["one", "two", "front", "behind"] (defScope s_told) := ⟨rfl, rfl, rfl, by decide +kernel, rfl, by decide +kernel, by decide +kernel⟩
def t_told (c : Ct) : TS :=
      (tRet (tM1 (rJoinF c.K) (tC (.str "")) (tLc (iRng1 (tCons (tCB (rLenF c.K) (tCons (tFld c.K (tVar 0) "reads") tNil)) tNil)) (gName 4) tYes (tCall (sp_letter c) [] E0 (tCons (tVar 0) (tCons (tVar 1) (tCons (tVar 2) (tCons (tVar 3) (tCons (tVar 4) tNil)))))) [4])))
theorem p_told (hr : Room 1 (A.deeper (envOfC "_told" (defScope s_told) s.heap.objs.size f cdv))) (T : Top K mg) (C_letter : Cal P w K mg base CX0 1 "_letter" ["one", "two", "front", "behind", "k"] (sp_letter (ct P w K tabs ad))) :
    PSs (cxOf CX0 P w K mg base N_told "_told" (defScope s_told) f cdv A outer s H E).nox (defBody s_told) (t_told (ct P w K tabs ad)) :=
    have scN := sc_told
    (pss_one (ps_ret (pe_m1 PySem.F.slot_str_join PySem.F.type_str_join mt_joinF pe_str (pe_lc (own := [("k", 4)]) (g := (gName 4)) rfl scN.nd (pi_range1 rfl T.n_range (pa_cons (pe_callB call_lenF rfl T.n_len boot_len (pa_cons (pe_fld (pv 0) rfl) pa_nil)) pa_nil)) (blkOk_by (own := [("k", 4)]) (N := N_told) (sc := defScope s_told) (by decide +kernel)) (fun _ _ _ _ _ => (pg_name (i := 4) scN.nd rfl (Or.inl rfl))) (fun _ _ _ _ _ => pts_nil) (fun _ _ _ _ _ => (pe_cal C_letter (hr.mono (by decide)) rfl pass0 (pa_cons (pv 0) (pa_cons (pv 1) (pa_cons (pv 2) (pa_cons (pv 3) (pa_cons (pv 4) pa_nil)))))))))))
end
end Fx
/-! text FxMach -/
namespace Fx
open PySem L2 Evl PyProof.Rows Mir

/-! ### the least machine is a machine -/
theorem chosen_length (ps : List Nat) : (chosen ps).length = maxL ps + 1 := by simp [chosen]
theorem chosen_ok {rows : List (List Nat)} {ps : List Nat} (ok : RowsOk rows.length rows) (hl : ps.length = rows.length) (hd : Dense ps) : RowsOk (chosen ps).length (chosenRows rows ps) := by
  refine ⟨by simp [chosenRows], fun r hr => ?_⟩
  obtain ⟨s, hs, rfl⟩ := List.mem_map.mp hr
  have hs' := chosen_lt hd hl s hs
  have ro := ok.2 _ (row_mem hs')
  refine ⟨by rw [List.length_map]; exact ro.1, fun x hx => ?_⟩
  obtain ⟨o, ho, rfl⟩ := List.mem_map.mp hx
  have ho' : o < ps.length := by rw [hl]; exact ro.2 o ho
  rw [chosen_length]
  have : ps.getD o 0 ∈ ps := by
    rw [List.getD_eq_getElem?_getD, List.getElem?_eq_getElem ho']
    exact List.getElem_mem _
  have := le_maxL this
  omega
theorem least_ok {N : Nat} {m : Mc} (ok : McOk N m) : McOk N (leastP m) := by
  have ol := behind_ok ok.lo ok.l1
  have or_ := front_ok ok.ro ok.r1
  have l1 := ol.le
  have r1 := or_.le
  have lp := ol.pos
  have rp := or_.pos
  have lN := ok.lN
  have rN := ok.rN
  have hsm := small_ok ok.tab ol.lt or_.lt
  have hkl := kept_ok ok.lo ol
  have hkr := kept_ok ok.ro or_
  have kl := kept_length m.l (behind m.l)
  have kr := kept_length m.r (front m.r)
  have hcl := classesP_ok (rows := kept m.l (behind m.l)) (marks := small m (behind m.l) (front m.r)) (by omega) (by rw [hsm.1, kl])
  have hcr := classesP_ok (rows := kept m.r (front m.r)) (marks := columns (small m (behind m.l) (front m.r)) (front m.r).length) (by omega) (by unfold columns; rw [List.length_map, List.length_range, kr])
  rw [← kl] at hkl
  rw [← kr] at hkr
  have e : leastP m = (⟨chosenRows (kept m.l (behind m.l)) (classesP (kept m.l (behind m.l)) (small m (behind m.l) (front m.r))), chosenRows (kept m.r (front m.r)) (classesP (kept m.r (front m.r)) (columns (small m (behind m.l) (front m.r)) (front m.r).length)),
    (chosen (classesP (kept m.l (behind m.l)) (small m (behind m.l) (front m.r)))).map fun i => (chosen (classesP (kept m.r (front m.r)) (columns (small m (behind m.l) (front m.r)) (front m.r).length))).map fun j => cell (small m (behind m.l) (front m.r)) i j⟩ : Mc) := rfl
  rw [e]
  clear e
  generalize classesP (kept m.r (front m.r)) (columns (small m (behind m.l) (front m.r)) (front m.r).length) = pr at hcr ⊢
  generalize classesP (kept m.l (behind m.l)) (small m (behind m.l) (front m.r)) = pl at hcl ⊢
  generalize small m (behind m.l) (front m.r) = sm at hsm ⊢
  have ll : (chosenRows (kept m.l (behind m.l)) pl).length = (chosen pl).length := by simp [chosenRows]
  have lr : (chosenRows (kept m.r (front m.r)) pr).length = (chosen pr).length := by simp [chosenRows]
  have nl : pl ≠ [] := fun z => by have := hcl.1; rw [z, kl] at this; rw [← this] at lp; exact absurd lp (by decide)
  have nr : pr ≠ [] := fun z => by have := hcr.1; rw [z, kr] at this; rw [← this] at rp; exact absurd rp (by decide)
  have ml := maxL_lt nl hcl.2
  have mr := maxL_lt nr hcr.2
  have cl := chosen_length pl
  have cr := chosen_length pr
  have hl1 := hcl.1
  have hr1 := hcr.1
  have okl := chosen_ok hkl hcl.1 hcl.2
  have okr := chosen_ok hkr hcr.1 hcr.2
  refine ⟨?_, ?_, ?_, ?_, ?_, ?_, ?_, fun row hrow => ?_⟩
  · show 1 ≤ (chosenRows _ pl).length
    omega
  · show (chosenRows _ pl).length ≤ N
    omega
  · show 1 ≤ (chosenRows _ pr).length
    omega
  · show (chosenRows _ pr).length ≤ N
    omega
  · show RowsOk (chosenRows _ pl).length (chosenRows _ pl)
    rw [ll]
    exact okl
  · show RowsOk (chosenRows _ pr).length (chosenRows _ pr)
    rw [lr]
    exact okr
  · show ((chosen pl).map _).length = (chosenRows _ pl).length
    rw [List.length_map, ll]
  · obtain ⟨i, hi, rfl⟩ := List.mem_map.mp hrow
    show ((chosen pr).map _).length = (chosenRows _ pr).length ∧ _
    refine ⟨by rw [List.length_map, lr], fun w hw => ?_⟩
    obtain ⟨j, hj, rfl⟩ := List.mem_map.mp hw
    have := chosen_lt hcl.2 hcl.1 i hi
    have := chosen_lt hcr.2 hcr.1 j hj
    exact (hsm.cell (by omega) (by omega)).2
theorem McOk.up {N M : Nat} {m : Mc} (h : McOk N m) (hn : N ≤ M) : McOk M m := ⟨h.l1, Nat.le_trans h.lN hn, h.r1, Nat.le_trans h.rN hn, h.lo, h.ro, h.t1, h.t2⟩
theorem id_ok : McOk 40 idM := ⟨by decide, by decide, by decide, by decide, ⟨rfl, by simp [idM]⟩, ⟨rfl, by simp [idM]⟩, rfl, by simp [idM]⟩

/-! ### fields -/
section
variable {c : Ct} {E : XK} {ρ : Env} {te ta tb tk tl : TE} {al : Al} {m : Mc}
theorem ev_reads (hM : MOk c) (h : EvE c te ρ (eM c.A.M al m)) : EvE c (tFld c.K te "reads") ρ (.str (alS al)) := ev_fld h hM.cls (hM.na _ (by decide)) rfl
theorem ev_writes (hM : MOk c) (h : EvE c te ρ (eM c.A.M al m)) : EvE c (tFld c.K te "writes") ρ (.str (alS al)) := ev_fld h hM.cls (hM.na _ (by decide)) rfl
theorem ev_left (hM : MOk c) (h : EvE c te ρ (eM c.A.M al m)) : EvE c (tFld c.K te "left") ρ (eRows m.l) := ev_fld h hM.cls (hM.na _ (by decide)) rfl
theorem ev_right (hM : MOk c) (h : EvE c te ρ (eM c.A.M al m)) : EvE c (tFld c.K te "right") ρ (eRows m.r) := ev_fld h hM.cls (hM.na _ (by decide)) rfl
theorem ev_table (hM : MOk c) (h : EvE c te ρ (eM c.A.M al m)) : EvE c (tFld c.K te "table") ρ (eTab al m.t) := ev_fld h hM.cls (hM.na _ (by decide)) rfl
theorem ev_nth {rows : List (List Nat)} {i k : Nat} (ha : EvE c ta ρ (eRows rows)) (hb : EvE c tb ρ (eI i)) (hk : EvE c tk ρ (eI k)) (hi : i < rows.length) (h2 : k < (row rows i).length) : EvE c (tOp (rIxL c.K) (tOp (rIxL c.K) ta tb) tk) ρ (eI (nth rows k i)) :=
  ev_opE (ev_opE ha hb (rop_ixL (at_rows hi))) hk (rop_ixL (at_ints h2))
theorem ev_ixw {w : List Nat} {k : Nat} (ha : EvE c ta ρ (eW al w)) (hk : EvE c tk ρ (eI k)) (h2 : k < w.length) (hz : w.length ≤ 1000) : EvE c (tOp rIxS ta tk) ρ (.str ⟨#[lt al (w.getD k 0)]⟩) := by
  refine ev_opE ha hk (rop_ixS (small_str hz) (at_nat ?_))
  show ((w.map (lt al)).toArray.toList)[k]? = _
  rw [List.getElem?_map, List.getD_eq_getElem?_getD, List.getElem?_eq_getElem h2]
  rfl
theorem idx_al : ∀ al ∈ Als, ∀ k ∈ [0, 1], Txt.index0 (alS al) ⟨#[lt al k]⟩ = some k := by decide +kernel
theorem WOk.at {w : List Nat} (h : WOk w) {k : Nat} (hk : k < 2) : w.getD k 0 < 2 := by
  rw [List.getD_eq_getElem?_getD, List.getElem?_eq_getElem (by rw [h.1]; exact hk)]
  exact h.2 _ (List.getElem_mem _)
/-- two.reads.index(one.table[i][j][k]) -/
theorem ev_letter {one two : Mc} {i j k n m : Nat} {ta tb ti tj tk : TE} (hal : al ∈ Als) (hM : MOk c) (ha : EvE c ta ρ (eM c.A.M al one)) (hb : EvE c tb ρ (eM c.A.M al two)) (hi : EvE c ti ρ (eI i)) (hj : EvE c tj ρ (eI j)) (hk : EvE c tk ρ (eI k)) (ht : TabOk n m one.t) (i1 : i < n) (j1 : j < m) (k1 : k < 2) :
    EvE c (tM1 rIdxS (tFld c.K tb "reads") (tOp rIxS (tOp (rIxL c.K) (tOp (rIxL c.K) (tFld c.K ta "table") ti) tj) tk)) ρ (eI ((cell one.t i j).getD k 0)) := by
  have hw := (ht.cell i1 j1).2
  exact ev_sidx (ev_reads hM hb) (ev_ixw (ev_cell ht (ev_table hM ha) hi hj i1 j1) hk (by rw [hw.1]; exact k1) (by rw [hw.1]; decide)) (idx_al al hal _ (two_mem (hw.at k1)))
theorem ev_rowsLen {rows : List (List Nat)} (h : EvE c te ρ (eRows rows)) : EvE c (tCB (rLenF c.K) (tCons te tNil)) ρ (.int (rows.length : Nat)) := ev_lenEq h (by rw [List.length_map])
theorem ev_alLen (h : EvE c te ρ (.str (alS al))) : EvE c (tCB (rLenF c.K) (tCons te tNil)) ρ (.int 2) := ev_cbE (ea_cons h ea_nil) (rcl_lenS (small_str (w := [0, 1]) (by decide)))
/-! ### form -/
theorem ev_tups {α : Type} {xs : List α} {e : α → List D} {j : Nat} (h : EvE c te ρ (.lst (xs.map fun x => .lst (e x)))) (hz : xs.length ≤ 100000) (hv : ∀ x, EvE c (tVar j) ((wipeE ρ [j]).set j (some (.dat (.lst (e x))))) (.lst (e x))) :
    EvE c (tCB (rTupF c.K) (tCons (tLc (iList c.K te) (gName j) tYes (tCB (rTupF c.K) (tCons (tVar j) tNil)) [j]) tNil)) ρ (.tup (xs.map fun x => .tup (e x))) :=
  ev_cbE (ea_cons (ev_lc1 (g := fun x => .tup (e x)) (ei_list h) hz fun _ x _ => ev_cbE (ea_cons (hv x) ea_nil) rcl_tupL) ea_nil) rcl_tupL
theorem ev_lsts {α : Type} {xs : List α} {e : α → List D} {j : Nat} (h : EvE c te ρ (.lst (xs.map fun x => .lst (e x)))) (hz : xs.length ≤ 100000) (hv : ∀ x, EvE c (tVar j) ((wipeE ρ [j]).set j (some (.dat (.lst (e x))))) (.lst (e x))) :
    EvE c (tLc (iList c.K te) (gName j) tYes (tCB (rLstF c.K) (tCons (tVar j) tNil)) [j]) ρ (.lst (xs.map fun x => .lst (e x))) :=
  ev_lc1 (g := fun x => .lst (e x)) (ei_list h) hz fun _ x _ => ev_cbE (ea_cons (hv x) ea_nil) rcl_lstL
theorem as_form (hM : MOk c) (i : Al × Mc) (h : i.1 ∈ Als ∧ McOk 40 i.2) : AS c E (t_form c) (entry N_form [eM c.A.M i.1 i.2]) { nx := fun _ => False, rt := fun d => d = eF i.1 i.2 } := by
  obtain ⟨al, m⟩ := i
  obtain ⟨hal, ok⟩ := h
  have l2 : m.l.length ≤ 40 := ok.lN
  have r2 : m.r.length ≤ 40 := ok.rN
  have t1 : m.t.length = m.l.length := ok.t1
  refine as_seq (as_setE (ev_tups (xs := m.l) (e := fun r => r.map eI) (ev_left hM (ev_var rfl)) (by omega) fun _ => ev_var rfl) ?_)
  refine as_seq (as_setE (ev_tups (xs := m.r) (e := fun r => r.map eI) (ev_right hM (ev_var rfl)) (by omega) fun _ => ev_var rfl) ?_)
  refine as_seq (as_setE (ev_tups (xs := m.t) (e := fun r => r.map (eW al)) (ev_table hM (ev_var rfl)) (by omega) fun _ => ev_var rfl) ?_)
  exact as_retE (ev_tup (ea_cons (ev_reads hM (ev_var rfl)) (ea_cons (ev_writes hM (ev_var rfl)) (ea_cons (ev_var rfl) (ea_cons (ev_var rfl) (ea_cons (ev_var rfl) ea_nil)))))) rfl
theorem as_identity (al : Al) (h : al ∈ Als) : AS c E (t_identity c) (entry N_identity [.str (alS al)]) { nx := fun _ => False, rt := fun d => d = eM c.A.M al idM } := by
  refine as_seq (as_setE (ev_lst (ea_cons (ev_lc1 (xs := [0, 1]) (e := fun k => .str ⟨#[lt al k]⟩) (g := fun _ => eI 0) (by rw [← wS_signs]; exact ei_str (ev_var rfl)) (by decide) fun _ _ _ => ev_int) ea_nil)) ?_)
  exact as_retE (ev_make (al, idM) (ea_cons (ev_var rfl) (ea_cons (ev_var rfl) (ea_cons (ev_var rfl) (ea_cons (ev_var rfl) (ea_cons (ev_lst (ea_cons (ev_lst (ea_cons (ev_var rfl) ea_nil)) ea_nil) (by show 1 ≤ 100000; decide)) ea_nil))))) ⟨h, id_ok⟩) rfl
theorem as_least (hM : MOk c) (i : Al × Mc) (h : i.1 ∈ Als ∧ McOk 40 i.2) : AS c E (t_least c) (entry N_least [eM c.A.M i.1 i.2]) { nx := fun _ => False, rt := fun d => d = eM c.A.M i.1 (leastP i.2) } := by
  refine as_seq (as_asg (ev_callE (f := fun i : Al × Mc => .tup [eRows (leastP i.2).l, eRows (leastP i.2).r, eTab i.1 (leastP i.2).t]) i (ea_cons (ev_left hM (ev_var rfl)) (ea_cons (ev_right hM (ev_var rfl)) (ea_cons (ev_table hM (ev_var rfl)) (ea_cons (ev_alLen (ev_reads hM (ev_var rfl))) ea_nil)))) ⟨h.1, h.2.up (by decide)⟩) eg_tup3 ?_)
  exact as_retE (ev_make (i.1, leastP i.2) (ea_cons (ev_reads hM (ev_var rfl)) (ea_cons (ev_writes hM (ev_var rfl)) (ea_cons (ev_var rfl) (ea_cons (ev_var rfl) (ea_cons (ev_var rfl) ea_nil))))) ⟨h.1, least_ok h.2⟩) rfl
theorem as_copied (hM : MOk c) (i : Al × Mc) (h : i.1 ∈ Als ∧ McOk 40 i.2) : AS c E (t_copied c) (entry N_copied [eM c.A.M i.1 i.2]) { nx := fun _ => False, rt := fun d => d = eM c.A.M i.1 i.2 } :=
  as_retE (ev_make i (ea_cons (ev_reads hM (ev_var rfl)) (ea_cons (ev_writes hM (ev_var rfl)) (ea_cons (ev_left hM (ev_var rfl)) (ea_cons (ev_right hM (ev_var rfl)) (ea_cons (ev_table hM (ev_var rfl)) ea_nil))))) h) rfl

/-! ### onward -/
theorem at_tup {ns : List Nat} {i : Nat} (h : i < ns.length) : L2.atI (ns.map eI) (i : Int) = some (eI (ns.getD i 0)) := at_ints h
theorem row_len {n s : Nat} {rows : List (List Nat)} (ok : RowsOk n rows) (h : s < rows.length) : (row rows s).length = 2 := (ok.2 _ (row_mem h)).1
theorem getD_mem {ns : List Nat} {i : Nat} (h : i < ns.length) : ns.getD i 0 ∈ ns := by
  rw [List.getD_eq_getElem?_getD, List.getElem?_eq_getElem h]
  exact List.getElem_mem _
theorem as_left_onward (hM : MOk c) (i : Al × Mc × Mc × Th × Nat) (h : i.1 ∈ Als ∧ McOk 40 i.2.1 ∧ McOk 40 i.2.2.1 ∧ ThOk i.2.1.l.length i.2.1.r.length i.2.2.1.l.length i.2.2.2.1 ∧ i.2.2.2.2 < 2) :
    AS c E (t_left_onward c) (entry N_left_onward [eM c.A.M i.1 i.2.1, eM c.A.M i.1 i.2.2.1, eTh i.2.2.2.1, eI i.2.2.2.2]) { nx := fun _ => False, rt := fun d => d = eTh (leftOn i.2.1 i.2.2.1 i.2.2.2.1 i.2.2.2.2) } := by
  obtain ⟨al, one, two, ⟨p, w⟩, k⟩ := i
  obtain ⟨hal, o1, o2, th, hk⟩ := h
  have hal : al ∈ Als := hal
  have o1 : McOk 40 one := o1
  have o2 : McOk 40 two := o2
  have tp : p < one.l.length := th.a
  have tw : w.length = one.r.length := th.b
  have tc : ∀ s ∈ w, s < two.l.length := th.c
  have hk : k < 2 := hk
  have rN := o1.rN
  refine as_seq (as_asg (ev_var rfl) eg_tup2 ?_)
  refine as_seq (as_new ea_nil (by simp) ?_)
  show AS c E _ [some (.dat (eM c.A.M al one)), some (.dat (eM c.A.M al two)), some (.dat (eTh (p, w))), some (.dat (eI k)), some (.dat (eI p)), some (.dat (.tup (w.map eI))), some (.ml []), none, none] _
  refine as_seq (as_for (ei_rng1 (ea_cons (ev_rowsLen (ev_right hM (ev_var (i := 0) rfl))) ea_nil) (by omega))
    (fun n ρ => n ≤ one.r.length ∧ ρ = [some (.dat (eM c.A.M al one)), some (.dat (eM c.A.M al two)), some (.dat (eTh (p, w))), some (.dat (eI k)), some (.dat (eI p)), some (.dat (.tup (w.map eI))), some (.ml (((List.range n).map fun j => (row two.l (w.getD ((row one.r j).getD k 0) 0)).getD ((cell one.t p j).getD k 0) 0).map eI)), none, none]) ⟨Nat.zero_le _, rfl⟩ ?_ ?_)
  · rintro j x ρ hx ⟨hj, rfl⟩
    obtain ⟨hj1, rfl⟩ := upTo_get hx
    have hj2 : j < one.r.length := hj1
    rw [show (0 : Int) + (j : Nat) = (j : Nat) by omega]
    refine ⟨_, _, eg_name, ?_⟩
    show AS c E _ [some (.dat (eM c.A.M al one)), some (.dat (eM c.A.M al two)), some (.dat (eTh (p, w))), some (.dat (eI k)), some (.dat (eI p)), some (.dat (.tup (w.map eI))), some (.ml (((List.range j).map fun j => (row two.l (w.getD ((row one.r j).getD k 0) 0)).getD ((cell one.t p j).getD k 0) 0).map eI)), some (.dat (eI j)), none] _
    refine as_seq (as_setE (ev_letter hal hM (ev_var rfl) (ev_var rfl) (ev_var rfl) (ev_var rfl) (ev_var rfl) o1.tab tp hj2 hk) ?_)
    have hw := (o1.tab.cell tp hj2).2
    have hs : nth one.r k j < w.length := by rw [tw]; exact nth_lt o1.ro hj2 k hk
    have hs2 : w.getD (nth one.r k j) 0 < two.l.length := tc _ (getD_mem hs)
    refine as_appE rfl (ev_opE (ev_opE (ev_left hM (ev_var rfl)) (ev_opE (ev_var rfl) (ev_nth (ev_right hM (ev_var rfl)) (ev_var rfl) (ev_var rfl) hj2 (by rw [row_len o1.ro hj2]; exact hk)) (rop_ixT (at_ints hs))) (rop_ixL (at_rows hs2))) (ev_var rfl) (rop_ixL (at_ints (by rw [row_len o2.lo hs2]; exact hw.at hk)))) (by rw [List.length_map, List.length_map, List.length_range]; omega) ?_
    refine ⟨_, .keep (.keep (.keep (.keep (.keep (.keep (.keep (.drop (.drop .nil)))))))), by omega, ?_⟩
    rw [List.range_succ, List.map_append, List.map_append]
    rfl
  · rintro ρ ⟨_, rfl⟩
    rw [upTo_length, show ((one.r.length : Nat) : Int).toNat = one.r.length by omega]
    refine as_frz (i := 6) rfl ?_
    exact as_retE (ev_tup (ea_cons (ev_nth (ev_left hM (ev_var rfl)) (ev_var rfl) (ev_var rfl) tp (by rw [row_len o1.lo tp]; exact hk)) (ea_cons (ev_cbE (ea_cons (ev_var rfl) ea_nil) rcl_tupL) ea_nil))) rfl
theorem as_right_onward (hM : MOk c) (i : Al × Mc × Mc × Th × Nat) (h : i.1 ∈ Als ∧ McOk 40 i.2.1 ∧ McOk 40 i.2.2.1 ∧ ThOk i.2.1.r.length i.2.1.l.length i.2.2.1.r.length i.2.2.2.1 ∧ i.2.2.2.2 < 2) :
    AS c E (t_right_onward c) (entry N_right_onward [eM c.A.M i.1 i.2.1, eM c.A.M i.1 i.2.2.1, eTh i.2.2.2.1, eI i.2.2.2.2]) { nx := fun _ => False, rt := fun d => d = eTh (rightOn i.2.1 i.2.2.1 i.2.2.2.1 i.2.2.2.2) } := by
  obtain ⟨al, one, two, ⟨p, w⟩, k⟩ := i
  obtain ⟨hal, o1, o2, th, hk⟩ := h
  have hal : al ∈ Als := hal
  have o1 : McOk 40 one := o1
  have o2 : McOk 40 two := o2
  have tp : p < one.r.length := th.a
  have tw : w.length = one.l.length := th.b
  have tc : ∀ s ∈ w, s < two.r.length := th.c
  have hk : k < 2 := hk
  have lN := o1.lN
  refine as_seq (as_asg (ev_var rfl) eg_tup2 ?_)
  refine as_seq (as_new ea_nil (by simp) ?_)
  show AS c E _ [some (.dat (eM c.A.M al one)), some (.dat (eM c.A.M al two)), some (.dat (eTh (p, w))), some (.dat (eI k)), some (.dat (eI p)), some (.dat (.tup (w.map eI))), some (.ml []), none, none] _
  refine as_seq (as_for (ei_rng1 (ea_cons (ev_rowsLen (ev_left hM (ev_var (i := 0) rfl))) ea_nil) (by omega))
    (fun n ρ => n ≤ one.l.length ∧ ρ = [some (.dat (eM c.A.M al one)), some (.dat (eM c.A.M al two)), some (.dat (eTh (p, w))), some (.dat (eI k)), some (.dat (eI p)), some (.dat (.tup (w.map eI))), some (.ml (((List.range n).map fun j => (row two.r (w.getD ((row one.l j).getD k 0) 0)).getD ((cell one.t j p).getD k 0) 0).map eI)), none, none]) ⟨Nat.zero_le _, rfl⟩ ?_ ?_)
  · rintro j x ρ hx ⟨hj, rfl⟩
    obtain ⟨hj1, rfl⟩ := upTo_get hx
    have hj2 : j < one.l.length := hj1
    rw [show (0 : Int) + (j : Nat) = (j : Nat) by omega]
    refine ⟨_, _, eg_name, ?_⟩
    show AS c E _ [some (.dat (eM c.A.M al one)), some (.dat (eM c.A.M al two)), some (.dat (eTh (p, w))), some (.dat (eI k)), some (.dat (eI p)), some (.dat (.tup (w.map eI))), some (.ml (((List.range j).map fun j => (row two.r (w.getD ((row one.l j).getD k 0) 0)).getD ((cell one.t j p).getD k 0) 0).map eI)), some (.dat (eI j)), none] _
    refine as_seq (as_setE (ev_letter hal hM (ev_var rfl) (ev_var rfl) (ev_var rfl) (ev_var rfl) (ev_var rfl) o1.tab hj2 tp hk) ?_)
    have hw := (o1.tab.cell hj2 tp).2
    have hs : nth one.l k j < w.length := by rw [tw]; exact nth_lt o1.lo hj2 k hk
    have hs2 : w.getD (nth one.l k j) 0 < two.r.length := tc _ (getD_mem hs)
    refine as_appE rfl (ev_opE (ev_opE (ev_right hM (ev_var rfl)) (ev_opE (ev_var rfl) (ev_nth (ev_left hM (ev_var rfl)) (ev_var rfl) (ev_var rfl) hj2 (by rw [row_len o1.lo hj2]; exact hk)) (rop_ixT (at_ints hs))) (rop_ixL (at_rows hs2))) (ev_var rfl) (rop_ixL (at_ints (by rw [row_len o2.ro hs2]; exact hw.at hk)))) (by rw [List.length_map, List.length_map, List.length_range]; omega) ?_
    refine ⟨_, .keep (.keep (.keep (.keep (.keep (.keep (.keep (.drop (.drop .nil)))))))), by omega, ?_⟩
    rw [List.range_succ, List.map_append, List.map_append]
    rfl
  · rintro ρ ⟨_, rfl⟩
    rw [upTo_length, show ((one.l.length : Nat) : Int).toNat = one.l.length by omega]
    refine as_frz (i := 6) rfl ?_
    exact as_retE (ev_tup (ea_cons (ev_nth (ev_right hM (ev_var rfl)) (ev_var rfl) (ev_var rfl) tp (by rw [row_len o1.ro tp]; exact hk)) (ea_cons (ev_cbE (ea_cons (ev_var rfl) ea_nil) rcl_tupL) ea_nil))) rfl
theorem as_letter (hM : MOk c) (i : (Al × Mc × Mc × Th × Th) × Nat) (h : TwOk i.1 ∧ i.2 < 2) :
    AS c E (t_letter c) (entry N_letter [eM c.A.M i.1.1 i.1.2.1, eM c.A.M i.1.1 i.1.2.2.1, eTh i.1.2.2.2.1, eTh i.1.2.2.2.2, eI i.2]) { nx := fun _ => False, rt := fun d => d = eW i.1.1 [letterP i.1.2.1 i.1.2.2.1 i.1.2.2.2.1 i.1.2.2.2.2 i.2] } := by
  obtain ⟨⟨al, one, two, ⟨p, v⟩, ⟨q, w⟩⟩, k⟩ := i
  obtain ⟨⟨hal, o1, o2, hp, hq⟩, hk⟩ := h
  have hal : al ∈ Als := hal
  have o1 : McOk 40 one := o1
  have o2 : McOk 40 two := o2
  have p1 : p < one.l.length := hp.a
  have p2 : v.length = one.r.length := hp.b
  have p3 : ∀ s ∈ v, s < two.l.length := hp.c
  have q1 : q < one.r.length := hq.a
  have q2 : w.length = one.l.length := hq.b
  have q3 : ∀ s ∈ w, s < two.r.length := hq.c
  have hk : k < 2 := hk
  refine as_seq (as_asg (ev_var rfl) eg_tup2 ?_)
  refine as_seq (as_asg (ev_var rfl) eg_tup2 ?_)
  show AS c E _ [some (.dat (eM c.A.M al one)), some (.dat (eM c.A.M al two)), some (.dat (eTh (p, v))), some (.dat (eTh (q, w))), some (.dat (eI k)), some (.dat (eI p)), some (.dat (.tup (v.map eI))), some (.dat (eI q)), some (.dat (.tup (w.map eI))), none] _
  refine as_seq (as_setE (ev_letter hal hM (ev_var rfl) (ev_var rfl) (ev_var rfl) (ev_var rfl) (ev_var rfl) o1.tab p1 q1 hk) ?_)
  have hw := (o1.tab.cell p1 q1).2
  have a1 : nth one.r k q < v.length := by rw [p2]; exact nth_lt o1.ro q1 k hk
  have a2 := p3 _ (getD_mem a1)
  have b1 : nth one.l k p < w.length := by rw [q2]; exact nth_lt o1.lo p1 k hk
  have b2 := q3 _ (getD_mem b1)
  have hc := (o2.tab.cell a2 b2).2
  exact as_retE (ev_ixw (ev_cell o2.tab (ev_table hM (ev_var rfl)) (ev_opE (ev_var rfl) (ev_nth (ev_right hM (ev_var rfl)) (ev_var rfl) (ev_var rfl) q1 (by rw [row_len o1.ro q1]; exact hk)) (rop_ixT (at_ints a1)))
    (ev_opE (ev_var rfl) (ev_nth (ev_left hM (ev_var rfl)) (ev_var rfl) (ev_var rfl) p1 (by rw [row_len o1.lo p1]; exact hk)) (rop_ixT (at_ints b1))) a2 b2) (ev_var rfl) (by rw [hc.1]; exact hw.at hk) (by rw [hc.1]; decide)) rfl
theorem as_told (hM : MOk c) (i : Al × Mc × Mc × Th × Th) (h : TwOk i) :
    AS c E (t_told c) (entry N_told [eM c.A.M i.1 i.2.1, eM c.A.M i.1 i.2.2.1, eTh i.2.2.2.1, eTh i.2.2.2.2]) { nx := fun _ => False, rt := fun d => d = eW i.1 (toldP i.2.1 i.2.2.1 i.2.2.2.1 i.2.2.2.2) } := by
  refine as_retE (d := .str (Txt.join "" [wS i.1 [letterP i.2.1 i.2.2.1 i.2.2.2.1 i.2.2.2.2 0], wS i.1 [letterP i.2.1 i.2.2.1 i.2.2.2.1 i.2.2.2.2 1]])) (ev_join ev_str (lst_of (xs := [0, 1].map fun k => eW i.1 [letterP i.2.1 i.2.2.1 i.2.2.2.1 i.2.2.2.2 k]) rfl (ev_lc1 (e := eI) ?_ (by decide) fun j k hk => ?_)) ?_) ?_
  · rw [show ([0, 1] : List Nat) = List.range 2 from rfl, ← upTo_map]
    exact ei_rng1 (n := 2) (ea_cons (ev_alLen (ev_reads hM (ev_var rfl))) ea_nil) (by decide)
  · have hk2 : k < 2 := by
      have := List.mem_of_getElem? hk
      simp at this
      omega
    exact ev_callE (f := fun i : (Al × Mc × Mc × Th × Th) × Nat => eW i.1.1 [letterP i.1.2.1 i.1.2.2.1 i.1.2.2.2.1 i.1.2.2.2.2 i.2]) (i, k) (ea_cons (ev_var rfl) (ea_cons (ev_var rfl) (ea_cons (ev_var rfl) (ea_cons (ev_var rfl) (ea_cons (ev_var rfl) ea_nil))))) ⟨h, hk2⟩
  · simp [wS_length]
    decide
  · rfl

/-! ### Machine.__init__ -/
theorem ts_then {G0 H0 G H : Hp} {σ : L2.St} {t u : TS} {ρ1 : Env} {Dn : Ends} (h : AS c E t ρ { nx := fun ρ' => ρ' = ρ1, rt := fun _ => False }) (r : Rel c G0 H0 ρ σ G H) (k : ∀ σ' G' H', Ex G G' → Rel c G0 H0 ρ1 σ' G' H' → u Dn σ' H') : tSeq t u Dn σ H :=
  h _ _ _ _ _ r { Dn with nx := u Dn } (fun ρ' σ' G' H' e eg r' => k σ' G' H' eg (e ▸ r')) (fun _ _ _ _ z => z.elim) fun _ _ _ _ _ z => z.elim
theorem init_Machine (hM : MOk c) {vs : List V} {H : Hp} {Q : VK} {E' : XK} (hB : c.B = none) (h : sp_Machine c vs H Q E') : t_Machine___init__ c { nx := fun _ H' => Q .non H', rt := Q } (L2.start N_Machine___init__ vs) H := by
  obtain ⟨⟨al, m⟩, G, p, dx, ws, rfl, ok, hp, gp, ra, ⟨hal, mo⟩, q⟩ := h
  have eB : ({ c with B := none } : Ct) = c := by cases c; cases hB; rfl
  rw [eB] at ok q
  have hal : al ∈ Als := hal
  have mo : McOk 40 m := mo
  have nb : some p ≠ c.B := by rw [hB]; exact fun z => by cases z
  have r0 := Rel.init ok (.cons (.raw (.ref p)) ra) N_Machine___init__
  have e0 : (.raw (.ref p) :: mFlds al m).map (fun d => some (Cell.dat d)) ++ List.replicate (N_Machine___init__.length - (D.raw (.ref p) :: mFlds al m).length) none =
    ([some (.dat (.raw (.ref p))), some (.dat (.str (alS al))), some (.dat (.str (alS al))), some (.dat (eRows m.l)), some (.dat (eRows m.r)), some (.dat (eTab al m.t)), none, none] : Env) := rfl
  rw [e0] at r0
  refine ts_then (E := E') (as_setE (ev_andV (a := true) (b := true) (ev_callE (f := fun _ => .bl true) al (ea_cons (ev_var rfl) ea_nil) hal) fun _ => ev_callE (f := fun _ => .bl true) al (ea_cons (ev_var rfl) ea_nil) hal) rfl) r0 fun σ1 G1 H1 e1 r1 => ?_
  refine ts_then (E := E') (ρ1 := [some (.dat (.raw (.ref p))), some (.dat (.str (alS al))), some (.dat (.str (alS al))), some (.dat (eRows m.l)), some (.dat (eRows m.r)), some (.dat (eTab al m.t)), some (.dat (.bl true)), none])
    (as_setE (ev_andV (a := true) (b := true) (ev_var rfl) fun _ => ev_andV (a := true) (b := true) (ev_callE (f := fun _ => .bl true) m.l (ea_cons (ev_var rfl) (ea_cons (ev_alLen (ev_var rfl)) ea_nil)) ⟨mo.lo, mo.l1, mo.lN⟩) fun _ => ev_callE (f := fun _ => .bl true) m.r (ea_cons (ev_var rfl) (ea_cons (ev_alLen (ev_var rfl)) ea_nil)) ⟨mo.ro, mo.r1, mo.rN⟩) rfl) r1 fun σ2 G2 H2 e2 r2 => ?_
  refine ts_then (E := E') (as_ifT (b := false) (et_or (a := false) (et_not (a := true) (et_B (ev_var rfl))) fun _ => et_not (a := true) (et_B (ev_callE (f := fun _ => .bl true) (al, m) (ea_cons (ev_var rfl) (ea_cons (ev_rowsLen (ev_var rfl)) (ea_cons (ev_rowsLen (ev_var rfl)) (ea_cons (ev_alLen (ev_var rfl)) (ea_cons (ev_var rfl) ea_nil))))) ⟨hal, mo⟩))) (fun z => by cases z) fun _ => as_next rfl) r2 fun σ3 G3 H3 e3 r3 => ?_
  have ad : allDat [some (.dat (.raw (.ref p))), some (.dat (.str (alS al))), some (.dat (.str (alS al))), some (.dat (eRows m.l)), some (.dat (eRows m.r)), some (.dat (eTab al m.t)), some (.dat (.bl true)), none] = true := rfl
  have s3 := r3.st.toP (p := p)
  have hp3 := r3.st.hh p _ nb (fun _ z => by cases z) hp
  have gp3 := s3.gone gp hp
  have l2 : m.l.length ≤ 100000 := by have := mo.lN; omega
  have r2' : m.r.length ≤ 100000 := by have := mo.rN; omega
  have t2 : m.t.length ≤ 100000 := by rw [mo.t1]; exact l2
  refine st_fld (r3.anew ad r3.ok (Ex.refl _)) ad rfl gp3 nb hp3 (ev_var (i := 1) rfl) hM.cls (hM.na _ (by decide)) (by decide) fun v4 G4 H4 s4 r4 gp4 hp4 rv4 => ?_
  have hp4 : H4 p = some (.ins c.A.M dx [("reads", v4)]) := hp4
  refine st_fld r4 ad rfl gp4 nb hp4 (ev_var (i := 2) rfl) hM.cls (hM.na _ (by decide)) (by show 1 < 1000; decide) fun v5 G5 H5 s5 r5 gp5 hp5 rv5 => ?_
  have hp5 : H5 p = some (.ins c.A.M dx [("reads", v4), ("writes", v5)]) := hp5
  refine st_fld r5 ad rfl gp5 nb hp5 (ev_lsts (xs := m.l) (e := fun r => r.map eI) (ev_var rfl) l2 fun _ => ev_var rfl) hM.cls (hM.na _ (by decide)) (by show 2 < 1000; decide) fun v6 G6 H6 s6 r6 gp6 hp6 rv6 => ?_
  have hp6 : H6 p = some (.ins c.A.M dx [("reads", v4), ("writes", v5), ("left", v6)]) := hp6
  refine st_fld r6 ad rfl gp6 nb hp6 (ev_lsts (xs := m.r) (e := fun r => r.map eI) (ev_var rfl) r2' fun _ => ev_var rfl) hM.cls (hM.na _ (by decide)) (by show 3 < 1000; decide) fun v7 G7 H7 s7 r7 gp7 hp7 rv7 => ?_
  have hp7 : H7 p = some (.ins c.A.M dx [("reads", v4), ("writes", v5), ("left", v6), ("right", v7)]) := hp7
  refine st_fld r7 ad rfl gp7 nb hp7 (ev_lsts (xs := m.t) (e := fun r => r.map (eW al)) (ev_var rfl) t2 fun _ => ev_var rfl) hM.cls (hM.na _ (by decide)) (by show 4 < 1000; decide) fun v8 G8 H8 s8 r8 gp8 hp8 rv8 => ?_
  refine q G8 H8 _ (((((s3.trans s4).trans s5).trans s6).trans s7).trans s8) hp8 gp8 rfl ?_
  exact .cons ((((rv4.up s5.gg).up s6.gg).up s7.gg).up s8.gg) (.cons (((rv5.up s6.gg).up s7.gg).up s8.gg) (.cons ((rv6.up s7.gg).up s8.gg) (.cons (rv7.up s8.gg) (.cons rv8 .nil))))
end
end Fx
/-! text LawA -/
namespace Fx
open PySem L2 Evl PyProof.Rows NdefX Mir MirL
section
variable {c : Ct} {E : XK} {b : Addr}
theorem as_law_cell (i : List Int × Nat) (_ : True) : AS c E (t_law_cell c) (entry N_law_cell [.scr i.1, eI i.2]) { nx := fun _ => False, rt := fun d => ∃ n : Int, d = .int n } := by
  obtain ⟨ns, k⟩ := i
  show AS c E _ [some (.dat (.scr ns)), some (.dat (eI k))] _
  refine as_seq (as_ifT (b := decide ((k : Int) < (ns.length : Nat))) (et_test (ev_opE (ev_var rfl) (ev_cbE (ea_cons (ev_var rfl) ea_nil) rcl_lenR) rop_B0)) (fun e => ?_) fun _ => as_next ?_)
  · have hk : k < ns.length := by
      have := of_decide_eq_true e
      omega
    exact as_retE (ev_opE (ev_var rfl) (ev_var rfl) (rop_ixR (at_nat (List.getElem?_eq_getElem hk)))) ⟨_, rfl⟩
  · exact as_retE ev_int ⟨0, rfl⟩
theorem as_law_draw (hb : c.B = some b) (n : Nat) (hn : 0 < n) : AS c E (t_law_draw c) (entry N_law_draw [.raw (.ref b), eI n]) { nx := fun _ => False, rt := fun d => ∃ k, k < n ∧ d = eI k } := by
  have fin : ∀ i : Int, ∃ k, k < n ∧ D.int (i % (n : Int)) = eI k := fun i => by
    have h1 := Int.emod_nonneg i (show (n : Int) ≠ 0 by omega)
    have h2 := Int.emod_lt_of_pos i (show (0 : Int) < n by omega)
    exact ⟨(i % (n : Int)).toNat, by omega, by show D.int _ = D.int _; rw [Int.toNat_of_nonneg h1]⟩
  show AS c E _ [some (.dat (.raw (.ref b))), some (.dat (eI n)), none] _
  refine as_seq (as_set (ev_box1 hb rfl) fun d hd => ?_)
  obtain ⟨m, rfl⟩ := hd
  show AS c E _ [some (.dat (.raw (.ref b))), some (.dat (eI n)), some (.dat (eI m))] _
  refine as_seq (as_box1 (n := m + 1) hb rfl (EvE.to (ev_opE (ev_var rfl) ev_int rop_I0) (by show D.int _ = D.int _; rw [Int.natCast_add]; rfl)) ?_)
  refine as_seq (A := { nx := fun _ => False, rt := fun d => ∃ k, k < n ∧ d = eI k }) (fun G0 H0 σ G H r Dn q1 q2 q3 => ?_)
  obtain ⟨v0, s0, h0⟩ := r.dat (i := 0) rfl
  cases h0
  obtain ⟨v1, s1, h1⟩ := r.dat (i := 1) rfl
  cases h1
  obtain ⟨v2, s2, h2⟩ := r.dat (i := 2) rfl
  cases h2
  obtain ⟨g, rr, ns, k, h3, h4, h5⟩ := r.ok.bx b hb
  obtain ⟨a, vs, e0, ha, hl⟩ := h5.list
  obtain rfl : rr = a := V.ref.inj e0
  obtain rfl := RpL.ints ns hl
  have hl2 : SqL c.K H b [.ref rr, .int k] := SqL.of h3
  have hl3 : SqL c.K H rr (ns.map V.int) := SqL.of (r.ok.gh _ _ ha)
  refine ⟨_, s2, _, s0, b, _, 0, _, rfl, rfl, hl2, rfl, _, _, rfl, .inl ⟨_, hl3, rfl⟩, _, _, rfl, rfl, _, rfl, ?_⟩
  by_cases hm : m < ns.length
  · rw [decide_eq_true (show (m : Int) < ((ns.map V.int).length : Nat) by rw [List.length_map]; omega)]
    refine iteT ⟨_, s0, b, _, 0, _, rfl, rfl, hl2, rfl, ?_⟩
    refine ⟨_, s2, rr, _, _, _, rfl, rfl, hl3, at_nat (by rw [List.getElem?_map, List.getElem?_eq_getElem hm]; rfl), ?_⟩
    exact .inl ⟨_, rfl, _, s1, _, _, rfl, rfl, by omega, q2 _ _ G H (fin _) r.st (Ex.refl _) (.int _)⟩
  · rw [decide_eq_false (show ¬ (m : Int) < ((ns.map V.int).length : Nat) by rw [List.length_map]; omega)]
    refine iteF ?_
    refine q1 _ _ _ _ ?_ (Ex.refl _) r
    refine as_ret (k := fun d => d = .int (((m : Int) * 5 + 1) % (n : Int))) (EvE.to (ev_opE (ev_cbE (ea_cons (ev_opE (ev_opE (ev_var rfl) ev_int (rop_I (Or.inr ⟨by decide, by decide⟩))) ev_int rop_I0) ea_nil) rcl_intI) (ev_var rfl) (rop_I (by show (0 : Int) < n; omega))) rfl) fun d e => ?_
    subst e
    exact fin _
end
end Fx
/-! text LawB -/
namespace Fx
open PySem L2 Evl PyProof.Rows NdefX Mir MirL
section
variable {c : Ct} {E : XK} {b : Addr}
theorem upTo0_get {n i : Nat} {x : D} (h : (upTo 0 n)[i]? = some x) : i < n ∧ x = eI i := by
  obtain ⟨a, e⟩ := upTo_get h
  refine ⟨a, e.trans ?_⟩
  show D.int _ = D.int _
  rw [Int.zero_add]
theorem as_law_row (xs : List Int) (_ : True) : AS c E (t_law_row c) (entry N_law_row [.scr xs, .int 0, .int 50]) { nx := fun _ => False, rt := fun d => ∃ ns : List Int, d = .lst (ns.map .int) } := by
  show AS c E _ [some (.dat (.scr xs)), some (.dat (.int 0)), some (.dat (.int 50)), none, none, none, none] _
  refine as_seq (as_new ea_nil (by simp) ?_)
  refine as_seq (as_for (ei_rng2 (lo := 0) (hi := 50) (ea_cons (ev_var rfl) (ea_cons (ev_var rfl) ea_nil))) (fun i ρ => ∃ ns : List Int, ns.length ≤ 60 * i ∧ ρ = [some (.dat (.scr xs)), some (.dat (.int 0)), some (.dat (.int 50)), some (.ml (ns.map .int)), none, none, none]) ⟨[], Nat.zero_le _, rfl⟩ ?_ ?_)
  · rintro i x ρ hx ⟨ns, hl, rfl⟩
    obtain ⟨hi, rfl⟩ := upTo0_get hx
    refine ⟨_, _, eg_name, ?_⟩
    show AS c E _ [some (.dat (.scr xs)), some (.dat (.int 0)), some (.dat (.int 50)), some (.ml (ns.map .int)), some (.dat (eI i)), none, none] _
    refine as_seq (as_set (ev_call (xs, i) (ea_cons (ev_var rfl) (ea_cons (ev_var rfl) ea_nil)) trivial) fun d hd => ?_)
    obtain ⟨n, rfl⟩ := hd
    show AS c E _ [some (.dat (.scr xs)), some (.dat (.int 0)), some (.dat (.int 50)), some (.ml (ns.map .int)), some (.dat (eI i)), some (.dat (.int n)), none] _
    refine as_seq (as_setE (ev_opE (ev_cbE (ea_cons (ev_opE ev_int (ev_var rfl) (rop_I (Or.inl ⟨by decide, by decide⟩))) ea_nil) rcl_abs) (ev_cbE (ea_cons (ev_opE (ev_var rfl) ev_int rop_B0) ea_nil) rcl_intB) rop_I0) ?_)
    generalize ((if (2 * n : Int) < 0 then -(2 * n) else 2 * n) + if decide (n < 0) = true then 1 else 0) = q
    show AS c E _ [some (.dat (.scr xs)), some (.dat (.int 0)), some (.dat (.int 50)), some (.ml (ns.map .int)), some (.dat (eI i)), some (.dat (.int q)), none] _
    refine as_ifT (et_test (ev_opE (ev_var rfl) (ev_opE ev_int ev_int (rop_I ⟨by decide, by decide, by decide⟩)) rop_B0)) (fun _ => ?_) fun _ => ?_
    · refine as_for (ei_rng1 (n := 60) (ea_cons ev_int ea_nil)) (fun j ρ => ∃ (ns : List Int) (q : Int), ns.length ≤ 60 * i + j ∧ ρ = [some (.dat (.scr xs)), some (.dat (.int 0)), some (.dat (.int 50)), some (.ml (ns.map .int)), some (.dat (eI i)), some (.dat (.int q)), none]) ⟨ns, q, by omega, rfl⟩ ?_ ?_
      · rintro j x ρ hx ⟨ns, q, hl, rfl⟩
        obtain ⟨hj, rfl⟩ := upTo0_get hx
        refine ⟨_, _, eg_name, ?_⟩
        show AS c E _ [some (.dat (.scr xs)), some (.dat (.int 0)), some (.dat (.int 50)), some (.ml (ns.map .int)), some (.dat (eI i)), some (.dat (.int q)), some (.dat (eI j))] _
        refine as_ifT (et_test (ev_opE (ev_var rfl) ev_int rop_B0)) (fun _ => ?_) fun _ => as_next ⟨_, .keep (.keep (.keep (.keep (.keep (.keep (.drop .nil)))))), ns, q, by omega, rfl⟩
        refine as_seq (as_appE rfl (ev_opE (ev_cbE (ea_cons (ev_var rfl) ea_nil) rcl_intI) ev_int (rop_I (by decide))) (by rw [List.length_map]; omega) ?_)
        refine as_setE (ev_opE (ev_var rfl) ev_int (rop_I ⟨by decide, by decide⟩)) ?_
        exact ⟨_, .keep (.keep (.keep (.keep (.keep (.keep (.drop .nil)))))), ns ++ [q % 840], q / 840, by rw [List.length_append, List.length_singleton]; omega, by rw [List.map_append]; rfl⟩
      · rintro ρ ⟨ns, q, hl, rfl⟩
        rw [upTo_length] at hl
        exact ⟨_, .keep (.keep (.keep (.keep (.drop (.drop (.keep .nil)))))), ns, by omega, rfl⟩
    · refine as_for (ei_rng1 (n := 10) (ea_cons ev_int ea_nil)) (fun j ρ => ∃ (ns : List Int) (q : Int), ns.length ≤ 60 * i + j ∧ ρ = [some (.dat (.scr xs)), some (.dat (.int 0)), some (.dat (.int 50)), some (.ml (ns.map .int)), some (.dat (eI i)), some (.dat (.int q)), none]) ⟨ns, q, by omega, rfl⟩ ?_ ?_
      · rintro j x ρ hx ⟨ns, q, hl, rfl⟩
        obtain ⟨hj, rfl⟩ := upTo0_get hx
        refine ⟨_, _, eg_name, ?_⟩
        show AS c E _ [some (.dat (.scr xs)), some (.dat (.int 0)), some (.dat (.int 50)), some (.ml (ns.map .int)), some (.dat (eI i)), some (.dat (.int q)), some (.dat (eI j))] _
        refine as_seq (as_setE (ev_opE (ev_cbE (ea_cons (ev_opE (ev_opE (ev_opE (ev_var rfl) ev_int (rop_I (Or.inr ⟨by decide, by decide⟩))) (ev_opE ev_int (ev_opE (ev_var rfl) (ev_var rfl) rop_I0) (rop_I (Or.inl ⟨by decide, by decide⟩))) rop_I0) ev_int rop_I0) ea_nil) rcl_intI) ev_int (rop_I (by decide))) ?_)
        generalize ((q * 69069 + 104729 * ((i : Int) + (j : Int)) + 1) % 4294967291 : Int) = q2
        show AS c E _ [some (.dat (.scr xs)), some (.dat (.int 0)), some (.dat (.int 50)), some (.ml (ns.map .int)), some (.dat (eI i)), some (.dat (.int q2)), some (.dat (eI j))] _
        refine as_appE rfl (ev_opE (ev_cbE (ea_cons (ev_opE (ev_var rfl) ev_int (rop_I ⟨by decide, by decide⟩)) ea_nil) rcl_intI) ev_int (rop_I (by decide))) (by rw [List.length_map]; omega) ?_
        exact ⟨_, .keep (.keep (.keep (.keep (.keep (.keep (.drop .nil)))))), ns ++ [(q2 / 5003) % 840], q2, by rw [List.length_append, List.length_singleton]; omega, by rw [List.map_append]; rfl⟩
      · rintro ρ ⟨ns, q, hl, rfl⟩
        rw [upTo_length] at hl
        exact ⟨_, .keep (.keep (.keep (.keep (.drop (.drop (.keep .nil)))))), ns, by omega, rfl⟩
  · rintro ρ ⟨ns, hl, rfl⟩
    exact as_frz (i := 3) rfl (as_retE (ev_var rfl) ⟨ns, rfl⟩)
end
end Fx
/-! text LawC -/
namespace Fx
open PySem L2 Evl PyProof.Rows NdefX Mir MirL
section
variable {c : Ct} {E : XK} {b : Addr}
theorem pick_ns {n : Nat} : ∀ {ds : List D}, (∀ y ∈ ds, ∃ k, k < n ∧ y = eI k) → ∃ ns : List Nat, ds = ns.map eI ∧ ∀ k ∈ ns, k < n
  | [], _ => ⟨[], rfl, by simp⟩
  | d :: ds, h => by
    obtain ⟨k, hk, rfl⟩ := h d List.mem_cons_self
    obtain ⟨ns, rfl, hn⟩ := pick_ns (ds := ds) fun y hy => h y (List.mem_cons_of_mem _ hy)
    refine ⟨k :: ns, rfl, fun z hz => ?_⟩
    rcases List.mem_cons.mp hz with rfl | hz
    · exact hk
    · exact hn z hz
theorem as_law_states (hb : c.B = some b) (n : Nat) (h : 0 < n ∧ n ≤ 2) : AS c E (t_law_states c) (entry N_law_states [.raw (.ref b), eI n, .int 2]) { nx := fun _ => False, rt := fun d => ∃ rows, RowsOk n rows ∧ d = eRows rows } := by
  show AS c E _ [some (.dat (.raw (.ref b))), some (.dat (eI n)), some (.dat (.int 2)), none, none, none] _
  refine as_seq (as_new ea_nil (by simp) ?_)
  refine as_seq (as_for (ei_rng1 (n := n) (ea_cons (ev_var rfl) ea_nil)) (fun i ρ => ∃ rows : List (List Nat), rows.length = i ∧ (∀ r ∈ rows, r.length = 2 ∧ ∀ s ∈ r, s < n) ∧ ρ = [some (.dat (.raw (.ref b))), some (.dat (eI n)), some (.dat (.int 2)), some (.ml (rows.map eIs)), none, none]) ⟨[], rfl, by simp, rfl⟩ ?_ ?_)
  · rintro i x ρ hx ⟨rows, hl, hr, rfl⟩
    obtain ⟨hi, rfl⟩ := upTo0_get hx
    have hi : i < n := by simpa using hi
    refine ⟨_, _, eg_name, ?_⟩
    show AS c E _ [some (.dat (.raw (.ref b))), some (.dat (eI n)), some (.dat (.int 2)), some (.ml (rows.map eIs)), some (.dat (eI i)), none] _
    refine as_app rfl (ev_lcK (ei_rng1 (n := 2) (ea_cons (ev_var rfl) ea_nil)) (by rw [upTo_length]; decide) (fun d => ∃ k, k < n ∧ d = eI k) fun j x hx => ⟨_, _, eg_name, (fun _ h => h), ev_callB (b := b) n hb (ea_cons (ev_var rfl) (ea_cons (ev_var rfl) ea_nil)) h.1⟩) (by rw [List.length_map]; omega) fun d hd => ?_
    obtain ⟨ds, rfl, hdl, hd⟩ := hd
    obtain ⟨ns, rfl, hn⟩ := pick_ns hd
    rw [List.length_map, upTo_length] at hdl
    refine ⟨_, .keep (.keep (.keep (.keep (.drop (.keep .nil))))), rows ++ [ns], by rw [List.length_append, hl]; rfl, fun r hrr => ?_, by rw [List.map_append]; rfl⟩
    rcases List.mem_append.mp hrr with h1 | h1
    · exact hr r h1
    · have e : r = ns := by simpa using h1
      rw [e]
      exact ⟨hdl, hn⟩
  · rintro ρ ⟨rows, hl, hr, rfl⟩
    rw [upTo_length] at hl
    exact as_frz (i := 3) rfl (as_retE (ev_var rfl) ⟨rows, ⟨by omega, hr⟩, rfl⟩)
theorem as_law_alphabet (hb : c.B = some b) : AS c E (t_law_alphabet c) (entry N_law_alphabet [.raw (.ref b), .int 2]) { nx := fun _ => False, rt := fun d => ∃ al ∈ Als, d = .str (alS al) } := by
  show AS c E _ [some (.dat (.raw (.ref b))), some (.dat (.int 2)), none, none] _
  refine as_seq (as_setE ev_str ?_)
  refine as_seq (as_set (ev_callB (b := b) 5 hb (ea_cons (ev_var rfl) (ea_cons ev_int ea_nil)) (by decide)) fun d hd => ?_)
  obtain ⟨k, hk, rfl⟩ := hd
  refine as_ret (ev_slS (ev_var rfl) (eo_some (ev_var rfl)) (eo_some (ev_opE (ev_var rfl) (ev_var rfl) rop_I0)) (by rw [sizeLine_eq]; decide)) fun d hd => ?_
  subst hd
  have hk2 : k = 0 ∨ k = 1 ∨ k = 2 ∨ k = 3 ∨ k = 4 := by omega
  rcases hk2 with rfl | rfl | rfl | rfl | rfl
  · exact ⟨(98, 97), by decide, rfl⟩
  · exact ⟨(97, 100), by decide, rfl⟩
  · exact ⟨(100, 99), by decide, rfl⟩
  · exact ⟨(99, 101), by decide, rfl⟩
  · exact ⟨(101, 122), by decide, rfl⟩
end
end Fx
/-! text LawD -/
namespace Fx
open PySem L2 Evl PyProof.Rows NdefX Mir MirL
section
variable {c : Ct} {E : XK} {b : Addr} {ρ : Env} {te : TE} {al : Al} {m : Mc}
theorem lm0 (h : EvE c te ρ (eLM al m)) : EvE c (tOp (rIxL c.K) te (tC (.int 0))) ρ (.str (alS al)) := ev_opE h ev_int (rop_ixL rfl)
theorem lm1 (h : EvE c te ρ (eLM al m)) : EvE c (tOp (rIxL c.K) te (tC (.int 1))) ρ (.str (alS al)) := ev_opE h ev_int (rop_ixL rfl)
theorem lm2 (h : EvE c te ρ (eLM al m)) : EvE c (tOp (rIxL c.K) te (tC (.int 2))) ρ (eRows m.l) := ev_opE h ev_int (rop_ixL rfl)
theorem lm3 (h : EvE c te ρ (eLM al m)) : EvE c (tOp (rIxL c.K) te (tC (.int 3))) ρ (eRows m.r) := ev_opE h ev_int (rop_ixL rfl)
theorem lm4 (h : EvE c te ρ (eLM al m)) : EvE c (tOp (rIxL c.K) te (tC (.int 4))) ρ (eTab al m.t) := ev_opE h ev_int (rop_ixL rfl)
theorem as_law_made (i : Al × Mc) (h : i.1 ∈ Als ∧ McOk 40 i.2) : AS c E (t_law_made c) (entry N_law_made [eLM i.1 i.2]) { nx := fun _ => False, rt := fun d => d = eM c.A.M i.1 i.2 } := by
  obtain ⟨al, m⟩ := i
  obtain ⟨hal, ok⟩ := h
  have l2 : m.l.length ≤ 40 := ok.lN
  have r2 : m.r.length ≤ 40 := ok.rN
  have t1 : m.t.length = m.l.length := ok.t1
  exact as_retE (ev_make (al, m) (ea_cons (lm0 (ev_var rfl)) (ea_cons (lm1 (ev_var rfl)) (ea_cons (ev_lsts (xs := m.l) (e := fun r => r.map eI) (lm2 (ev_var rfl)) (by omega) fun _ => ev_var rfl) (ea_cons (ev_lsts (xs := m.r) (e := fun r => r.map eI) (lm3 (ev_var rfl)) (by omega) fun _ => ev_var rfl) (ea_cons (ev_lsts (xs := m.t) (e := fun r => r.map (eW al)) (lm4 (ev_var rfl)) (by omega) fun _ => ev_var rfl) ea_nil))))) ⟨hal, ok⟩) rfl
theorem as_law_key (i : Al × List Nat) (h : i.1 ∈ Als ∧ i.2.length ≤ 1000 ∧ ∀ k ∈ i.2, k < 2) : AS c E (t_law_key c) (entry N_law_key [.str (alS i.1), eW i.1 i.2]) { nx := fun _ => False, rt := fun d => d = .tup [eI i.2.length, eIs i.2] } := by
  obtain ⟨al, ws⟩ := i
  obtain ⟨hal, hl, hw⟩ := h
  have hl : ws.length ≤ 1000 := hl
  refine as_retE (ev_tup (ea_cons (EvE.to (ev_cbE (ea_cons (ev_var rfl) ea_nil) (rcl_lenS (small_str hl))) (by rw [wS_length])) (ea_cons (ev_lc1 (xs := ws) (e := fun k => .str ⟨#[lt al k]⟩) (g := fun k => eI k) (by rw [← wS_signs]; exact ei_str (ev_var rfl)) (by omega) fun i k hk => ?_) ea_nil))) rfl
  exact ev_sidx (ev_var rfl) (ev_var rfl) (idx_al al hal k (two_mem (hw k (List.mem_of_getElem? hk))))
end
end Fx
/-! text PsE2 -/
namespace Fx
open PySem L2 Evl PyProof.Rows Mir NdefX LamX
section
variable {P : Program} {w : World} {K : PySem.W.Frag} {mg : Str → Option Value} {base : Heap} {tabs : List NdefX.NTab} {ad : Ads} {cdv : Value} {A : Around} {outer : List PySem.Env} {s : Shared} {H : Hp} {E : XK} {f : Addr}
/-! ### _law_machine -/
abbrev s_law_machine : Stmt := topS 50
abbrev N_law_machine : List Str := ["_law_box", "_law_ins", "_law_outs", "_law_most", "_law_lefts", "_law_rights", "_law_left", "_law_right", "_law_bland", "_law_table", "_law_i", "_law_line", "_law_j", "_law_text", "_law_letter", "_law_k"]
theorem sc_law_machine : FnScope N_law_machine ["_law_box", "_law_ins", "_law_outs", "_law_most"] (defScope s_law_machine) := ⟨rfl, rfl, rfl, by decide +kernel, rfl, by decide +kernel, by decide +kernel⟩
def t_law_machine (c : Ct) : TS :=
      (tSeq (tAsg (tOp (rI0 fun i j => .int (i + j)) (tC (.int 1)) (tCall (sp_law_draw c) [] E0 (tCons (tVar 0) (tCons (tVar 3) tNil)))) (gName 4))
      (tSeq (tAsg (tOp (rI0 fun i j => .int (i + j)) (tC (.int 1)) (tCall (sp_law_draw c) [] E0 (tCons (tVar 0) (tCons (tVar 3) tNil)))) (gName 5))
      (tSeq (tAsg (tCall (sp_law_states c) [] E0 (tCons (tVar 0) (tCons (tVar 4) (tCons (tCB (rLenF c.K) (tCons (tVar 1) tNil)) tNil)))) (gName 6))
      (tSeq (tAsg (tCall (sp_law_states c) [] E0 (tCons (tVar 0) (tCons (tVar 5) (tCons (tCB (rLenF c.K) (tCons (tVar 1) tNil)) tNil)))) (gName 7))
      (tSeq (tAsg (tCall (sp_law_draw c) [] E0 (tCons (tVar 0) (tCons (tC (.int 3)) tNil))) (gName 8))
      (tSeq (tAsg (tLst tNil) (gName 9))
      (tSeq (tFor (iRng1 (tCons (tVar 4) tNil)) (gName 10)
      (tSeq (tAsg (tLst tNil) (gName 11))
      (tSeq (tFor (iRng1 (tCons (tVar 5) tNil)) (gName 12)
      (tSeq (tAsg (tM1 (rJoinF c.K) (tC (.str "")) (tLc (iStr (tVar 1)) (gName 14) tYes (tOp rIxS (tVar 2) (tCall (sp_law_draw c) [] E0 (tCons (tVar 0) (tCons (tCB (rLenF c.K) (tCons (tVar 2) tNil)) tNil)))) [14])) (gName 13))
      (tSeq (tIfS (tAnd (tTest (tOp rEq (tVar 8) (tC (.int 0)))) (tTest (tOp (rI0 fun i j => .bl (decide (j < i))) (tCall (sp_law_draw c) [] E0 (tCons (tVar 0) (tCons (tC (.int 4)) tNil))) (tC (.int 0))))) (tAsg (tM1 (rJoinF c.K) (tC (.str "")) (tLc (iRng1 (tCons (tCB (rLenF c.K) (tCons (tVar 1) tNil)) tNil)) (gName 15) tYes (tOp rIxS (tVar 2) (tOp (rI (fun _ j => 0 < j) fun i j => .int (i % j)) (tCB rIntF (tCons (tVar 15) tNil)) (tCB (rLenF c.K) (tCons (tVar 2) tNil)))) [15])) (gName 13)) tNext)
      (tDrop (tBM c.K "list" rAppend (tVar 11) (tCons (tVar 13) tNil))))))
      (tDrop (tBM c.K "list" rAppend (tVar 9) (tCons (tVar 11) tNil))))))
      (tRet (tLst (tCons (tVar 1) (tCons (tVar 2) (tCons (tVar 6) (tCons (tVar 7) (tCons (tVar 9) tNil))))))))))))))
theorem p_law_machine (hr : Room 2 (A.deeper (envOfC "_law_machine" (defScope s_law_machine) s.heap.objs.size f cdv))) (T : Top K mg) (C_law_draw : Cal P w K mg base CX0 1 "_law_draw" ["_law_box", "_law_many"] (sp_law_draw (ct P w K tabs ad))) (C_law_states : Cal P w K mg base CX0 2 "_law_states" ["_law_box", "_law_many", "_law_letters"] (sp_law_states (ct P w K tabs ad))) :
    PSs (cxOf CX0 P w K mg base N_law_machine "_law_machine" (defScope s_law_machine) f cdv A outer s H E).nox (defBody s_law_machine) (t_law_machine (ct P w K tabs ad)) :=
    have scN := sc_law_machine
    (pss_cons (ps_set (i := 4) scN.nd rfl (Or.inl rfl) (pe_op op_add pe_int (pe_cal C_law_draw (hr.mono (by decide)) rfl pass0 (pa_cons (pv 0) (pa_cons (pv 3) pa_nil)))))
      (pss_cons (ps_set (i := 5) scN.nd rfl (Or.inl rfl) (pe_op op_add pe_int (pe_cal C_law_draw (hr.mono (by decide)) rfl pass0 (pa_cons (pv 0) (pa_cons (pv 3) pa_nil)))))
      (pss_cons (ps_set (i := 6) scN.nd rfl (Or.inl rfl) (pe_cal C_law_states (hr.mono (by decide)) rfl pass0 (pa_cons (pv 0) (pa_cons (pv 4) (pa_cons (pe_callB call_lenF rfl T.n_len boot_len (pa_cons (pv 1) pa_nil)) pa_nil)))))
      (pss_cons (ps_set (i := 7) scN.nd rfl (Or.inl rfl) (pe_cal C_law_states (hr.mono (by decide)) rfl pass0 (pa_cons (pv 0) (pa_cons (pv 5) (pa_cons (pe_callB call_lenF rfl T.n_len boot_len (pa_cons (pv 1) pa_nil)) pa_nil)))))
      (pss_cons (ps_set (i := 8) scN.nd rfl (Or.inl rfl) (pe_cal C_law_draw (hr.mono (by decide)) rfl pass0 (pa_cons (pv 0) (pa_cons pe_int pa_nil))))
      (pss_cons (ps_set (i := 9) scN.nd rfl (Or.inl rfl) (pe_lst pa_nil))
      (pss_cons (ps_for PassesOwn.never rfl (pi_range1 rfl T.n_range (pa_cons (pv 4) pa_nil)) (pg_name (i := 10) scN.nd rfl (Or.inl rfl))
      (pss_cons (ps_set (i := 11) scN.nd rfl (Or.inl rfl) (pe_lst pa_nil))
      (pss_cons (ps_for PassesOwn.never rfl (pi_range1 rfl T.n_range (pa_cons (pv 5) pa_nil)) (pg_name (i := 12) scN.nd rfl (Or.inl rfl))
      (pss_cons (ps_set (i := 13) scN.nd rfl (Or.inl rfl) (pe_m1 PySem.F.slot_str_join PySem.F.type_str_join mt_joinF pe_str (pe_lc (own := [("_law_letter", 14)]) (g := (gName 14)) rfl scN.nd (pi_str (pv 1)) (blkOk_by (own := [("_law_letter", 14)]) (N := N_law_machine) (sc := defScope s_law_machine) (by decide +kernel)) (fun _ _ _ _ _ => (pg_name (i := 14) scN.nd rfl (Or.inl rfl))) (fun _ _ _ _ _ => pts_nil) (fun _ _ _ _ _ => (pe_ix ix_str (pv 2) (pe_cal C_law_draw (hr.mono (by decide)) rfl pass0 (pa_cons (pv 0) (pa_cons (pe_callB call_lenF rfl T.n_len boot_len (pa_cons (pv 2) pa_nil)) pa_nil))) (fun _ _ => rfl))))))
      (pss_cons (ps_if (PW.pt (pw_and (pt_cmpR op_eq (pv 8) pe_int (nomark _)) (pw_and1 (pt_cmpR op_gt (pe_cal C_law_draw (hr.mono (by decide)) rfl pass0 (pa_cons (pv 0) (pa_cons pe_int pa_nil))) pe_int (nomark _))))) (pss_one (ps_set (i := 13) scN.nd rfl (Or.inl rfl) (pe_m1 PySem.F.slot_str_join PySem.F.type_str_join mt_joinF pe_str (pe_lc (own := [("_law_k", 15)]) (g := (gName 15)) rfl scN.nd (pi_range1 rfl T.n_range (pa_cons (pe_callB call_lenF rfl T.n_len boot_len (pa_cons (pv 1) pa_nil)) pa_nil)) (blkOk_by (own := [("_law_k", 15)]) (N := N_law_machine) (sc := defScope s_law_machine) (by decide +kernel)) (fun _ _ _ _ _ => (pg_name (i := 15) scN.nd rfl (Or.inl rfl))) (fun _ _ _ _ _ => pts_nil) (fun _ _ _ _ _ => (pe_ix ix_str (pv 2) (pe_op op_mod (pe_callTy call_intF rfl T.n_int boot_int (pa_cons (pv 15) pa_nil)) (pe_callB call_lenF rfl T.n_len boot_len (pa_cons (pv 2) pa_nil))) (fun _ _ => rfl))))))) pss_nil)
      (pss_one (ps_expr (pe_bm PySem.F.plainAttrs_list PySem.F.slot_list_append PySem.F.type_list_append mt_append (pv 11) (pa_cons (pv 13) pa_nil)))))))
      (pss_one (ps_expr (pe_bm PySem.F.plainAttrs_list PySem.F.slot_list_append PySem.F.type_list_append mt_append (pv 9) (pa_cons (pv 11) pa_nil)))))))
      (pss_one (ps_ret (pe_lst (pa_cons (pv 1) (pa_cons (pv 2) (pa_cons (pv 6) (pa_cons (pv 7) (pa_cons (pv 9) pa_nil)))))))))))))))
end
end Fx
/-! text LawE -/
namespace Fx
open PySem L2 Evl PyProof.Rows NdefX Mir MirL
section
variable {c : Ct} {E : XK} {b : Addr} {ρ : Env} {te ta : TE} {al : Al} {m : Mc} {k : D → Prop}
theorem ev_m1K {r : V → List V → Hp → VK → Prop} {z : Str} {kx : D → Prop} (ho : EvE c ta ρ (.str z)) (he : Ev c te ρ kx) (hr : ∀ x, kx x → ∀ G H, Ok c G H → ∀ u, Rp c.K G x u → ∀ Q : VK, (∀ d w G' H', k d → Stp c G H G' H' → Rp c.K G' d w → Q w H') → r (.str z) [u] H Q) : Ev c (tM1 r ta te) ρ k := fun G0 H0 σ G H rel Q q => by
  refine ho _ _ _ _ _ rel _ fun x' v G1 H1 kx s1 rx => ?_
  subst kx
  cases rx
  refine ⟨⟨z, rfl⟩, ?_⟩
  refine he _ _ _ _ _ (rel.stp s1) _ fun y u G2 H2 ky s2 ry => ?_
  exact hr y ky G2 H2 s2.ok u ry Q fun d w G' H' kd s3 rd => q d w G' H' kd ((s1.trans s2).trans s3) rd
theorem join_two (al : Al) (i j : Nat) : Txt.join "" [⟨#[lt al i]⟩, ⟨#[lt al j]⟩] = wS al [i, j] := rfl
/-- ''.join of two letters drawn -/
theorem ev_join2 {R : D → Prop} (he : Ev c te ρ (fun d => ∃ ds, d = .lst ds ∧ ds.length = 2 ∧ ∀ y ∈ ds, ∃ k, k < 2 ∧ y = .str ⟨#[lt al k]⟩)) : Ev c (tM1 (rJoinF c.K) (tC (.str "")) te) ρ (fun d => ∃ w, WOk w ∧ d = eW al w) :=
  ev_m1K ev_str he fun x hx G H ok u ry Q q => by
    obtain ⟨ds, rfl, hl, hd⟩ := hx
    match ds, hl, hd, ry with
    | [d1, d2], _, hd, ry =>
      obtain ⟨i, hi, rfl⟩ := hd d1 (by simp)
      obtain ⟨j, hj, rfl⟩ := hd d2 (by simp)
      obtain ⟨p, vs, rfl, hp, hl⟩ := ry.list
      have e := RpL.strs [⟨#[lt al i]⟩, ⟨#[lt al j]⟩] hl
      subst e
      exact ⟨"", p, [⟨#[lt al i]⟩, ⟨#[lt al j]⟩], rfl, rfl, .inl (SqL.of (ok.gh _ _ hp)), by show 1 + (1 + 0) + 2 * 0 ≤ 16777216; decide, q _ _ G H ⟨[i, j], ⟨rfl, by simp [hi, hj]⟩, rfl⟩ (.refl ok) (by rw [join_two]; exact .str _)⟩
theorem ev_1draw (hb : c.B = some b) (h0 : ρ[0]? = some (some (.dat (.raw (.ref b))))) (h3 : ρ[3]? = some (some (.dat (.int 2)))) : Ev c (tOp (rI0 fun i j => .int (i + j)) (tC (.int 1)) (tCall (sp_law_draw c) [] E0 (tCons (tVar 0) (tCons (tVar 3) tNil)))) ρ (fun d => ∃ n, 0 < n ∧ n ≤ 2 ∧ d = eI n) :=
  ev_op (ka := fun d => d = .int 1) (kb := fun _ d => ∃ k, k < 2 ∧ d = eI k) ev_int (fun _ _ => ev_callB (b := b) 2 hb (ea_cons (ev_var h0) (ea_cons (ev_var h3) ea_nil)) (by decide)) fun x y e1 ⟨k, hk, e2⟩ => by
    subst e1 e2
    intro G H ok v u rx ry Q q
    exact rop_I0 G H ok v u rx ry Q fun d w G' H' e s r => q d w G' H' ⟨k + 1, by omega, by omega, by subst e; show D.int _ = D.int _; rw [Int.natCast_add, Int.add_comm]; rfl⟩ s r
abbrev fmM (b : Addr) (al : Al) (L R : Nat) (l r : List (List Nat)) (bl : Nat) (rest : Env) : Env := some (.dat (.raw (.ref b))) :: some (.dat (.str (alS al))) :: some (.dat (.str (alS al))) :: some (.dat (.int 2)) :: some (.dat (eI L)) :: some (.dat (eI R)) :: some (.dat (eRows l)) :: some (.dat (eRows r)) :: some (.dat (eI bl)) :: rest
theorem as_law_machine (hb : c.B = some b) (al : Al) (hal : al ∈ Als) : AS c E (t_law_machine c) (entry N_law_machine [.raw (.ref b), .str (alS al), .str (alS al), .int 2]) { nx := fun _ => False, rt := fun d => ∃ m, McOk 2 m ∧ d = eLM al m } := by
  show AS c E _ [some (.dat (.raw (.ref b))), some (.dat (.str (alS al))), some (.dat (.str (alS al))), some (.dat (.int 2)), none, none, none, none, none, none, none, none, none, none, none, none] _
  refine as_seq (as_set (ev_1draw hb rfl rfl) fun d hd => ?_)
  obtain ⟨L, L0, L2, rfl⟩ := hd
  refine as_seq (as_set (ev_1draw hb rfl rfl) fun d hd => ?_)
  obtain ⟨R, R0, R2, rfl⟩ := hd
  show AS c E _ [some (.dat (.raw (.ref b))), some (.dat (.str (alS al))), some (.dat (.str (alS al))), some (.dat (.int 2)), some (.dat (eI L)), some (.dat (eI R)), none, none, none, none, none, none, none, none, none, none] _
  refine as_seq (as_set (ev_callB (b := b) L hb (ea_cons (ev_var rfl) (ea_cons (ev_var rfl) (ea_cons (ev_alLen (ev_var rfl)) ea_nil))) ⟨L0, L2⟩) fun d hd => ?_)
  obtain ⟨l, lo, rfl⟩ := hd
  refine as_seq (as_set (ev_callB (b := b) R hb (ea_cons (ev_var rfl) (ea_cons (ev_var rfl) (ea_cons (ev_alLen (ev_var rfl)) ea_nil))) ⟨R0, R2⟩) fun d hd => ?_)
  obtain ⟨r, ro, rfl⟩ := hd
  refine as_seq (as_set (ev_callB (b := b) 3 hb (ea_cons (ev_var rfl) (ea_cons ev_int ea_nil)) (by decide)) fun d hd => ?_)
  obtain ⟨bl, _, rfl⟩ := hd
  refine as_seq (as_new ea_nil (by simp) ?_)
  show AS c E _ [some (.dat (.raw (.ref b))), some (.dat (.str (alS al))), some (.dat (.str (alS al))), some (.dat (.int 2)), some (.dat (eI L)), some (.dat (eI R)), some (.dat (eRows l)), some (.dat (eRows r)), some (.dat (eI bl)), some (.ml []), none, none, none, none, none, none] _
  refine as_seq (as_for (ei_rng1 (n := L) (ea_cons (ev_var rfl) ea_nil)) (fun i ρ => ∃ t : List (List (List Nat)), t.length = i ∧ (∀ row ∈ t, row.length = R ∧ ∀ w ∈ row, WOk w) ∧ ρ = fmM b al L R l r bl [some (.ml (t.map fun row => .lst (row.map (eW al)))), none, none, none, none, none, none]) ⟨[], rfl, by simp, rfl⟩ ?_ ?_)
  · rintro i x ρ hx ⟨t, tl, to, rfl⟩
    obtain ⟨hi, rfl⟩ := upTo0_get hx
    have hi : i < L := by simpa using hi
    refine ⟨_, _, eg_name, ?_⟩
    show AS c E _ (fmM b al L R l r bl [some (.ml (t.map fun row => .lst (row.map (eW al)))), some (.dat (eI i)), none, none, none, none, none]) _
    refine as_seq (as_new ea_nil (by simp) ?_)
    refine as_seq (as_for (ei_rng1 (n := R) (ea_cons (ev_var rfl) ea_nil)) (fun j ρ => ∃ line : List (List Nat), line.length = j ∧ (∀ w ∈ line, WOk w) ∧ ρ = fmM b al L R l r bl [some (.ml (t.map fun row => .lst (row.map (eW al)))), some (.dat (eI i)), some (.ml (line.map (eW al))), none, none, none, none]) ⟨[], rfl, by simp, rfl⟩ ?_ ?_)
    · rintro j x ρ hx ⟨line, ll, lo, rfl⟩
      obtain ⟨hj, rfl⟩ := upTo0_get hx
      have hj : j < R := by simpa using hj
      refine ⟨_, _, eg_name, ?_⟩
      show AS c E _ (fmM b al L R l r bl [some (.ml (t.map fun row => .lst (row.map (eW al)))), some (.dat (eI i)), some (.ml (line.map (eW al))), some (.dat (eI j)), none, none, none]) _
      refine as_seq (as_set (ev_join2 (R := fun _ => True) (al := al) ((ev_lcK (ei_str (ev_var rfl)) (by show (signs (wS al [0, 1])).length ≤ _; rw [wS_signs]; show 2 ≤ 100000; decide) (fun y => ∃ k, k < 2 ∧ y = .str ⟨#[lt al k]⟩) fun n x hx => ⟨_, _, eg_name, (fun _ h => h), ?_⟩).imp ?_)) fun d hd => ?_)
      · refine ev_op (ka := fun d => d = eW al [0, 1]) (kb := fun _ d => ∃ k, k < 2 ∧ d = eI k) (ev_var rfl) (fun _ _ => ev_callB (b := b) 2 hb (ea_cons (ev_var rfl) (ea_cons (ev_alLen (ev_var rfl)) ea_nil)) (by decide)) fun x y e1 ⟨k, hk, e2⟩ => ?_
        subst e1 e2
        intro G H ok v u rx ry Q q
        exact rop_ixS (a := lt al k) (small_str (w := [0, 1]) (by decide)) (at_nat (by rcases (show k = 0 ∨ k = 1 by omega) with rfl | rfl <;> rfl)) G H ok v u rx ry Q fun d w G' H' e s r => q d w G' H' ⟨k, hk, e⟩ s r
      · rintro d ⟨ds, rfl, h1, h2⟩
        exact ⟨ds, rfl, h1.trans (by show (signs (wS al [0, 1])).length = _; rw [wS_signs]; rfl), h2⟩
      obtain ⟨w, wo, rfl⟩ := hd
      show AS c E _ (fmM b al L R l r bl [some (.ml (t.map fun row => .lst (row.map (eW al)))), some (.dat (eI i)), some (.ml (line.map (eW al))), some (.dat (eI j)), some (.dat (eW al w)), none, none]) _
      have fin : ∀ w, WOk w → AS c E (tDrop (tBM c.K "list" rAppend (tVar 11) (tCons (tVar 13) tNil))) (fmM b al L R l r bl [some (.ml (t.map fun row => .lst (row.map (eW al)))), some (.dat (eI i)), some (.ml (line.map (eW al))), some (.dat (eI j)), some (.dat (eW al w)), none, none]) { nx := fun ρ3 => ∃ ρ4, Wk ρ3 ρ4 ∧ ∃ line : List (List Nat), line.length = j + 1 ∧ (∀ w ∈ line, WOk w) ∧ ρ4 = fmM b al L R l r bl [some (.ml (t.map fun row => .lst (row.map (eW al)))), some (.dat (eI i)), some (.ml (line.map (eW al))), none, none, none, none], rt := fun d => ∃ m, McOk 2 m ∧ d = eLM al m } := fun w wo => by
        refine as_appE rfl (ev_var rfl) (by rw [List.length_map]; omega) ?_
        refine ⟨_, .keep (.keep (.keep (.keep (.keep (.keep (.keep (.keep (.keep (.keep (.keep (.keep (.drop (.drop (.keep (.keep .nil))))))))))))))), line ++ [w], by rw [List.length_append, ll]; rfl, fun z hz => ?_, by rw [List.map_append]; rfl⟩
        rcases List.mem_append.mp hz with h1 | h1
        · exact lo z h1
        · have e : z = w := by simpa using h1
          rw [e]
          exact wo
      refine as_seq (as_if (kb := fun _ => True) (eb_and (k1 := fun _ => True) (k2 := fun _ => True) ((et_test (ev_opE (ev_var rfl) ev_int rop_eqI)).imp fun _ _ => trivial) (fun _ => eb_test (ev_op (ka := fun d => ∃ k, k < 4 ∧ d = eI k) (kb := fun _ d => d = .int 0) (ev_callB (b := b) 4 hb (ea_cons (ev_var rfl) (ea_cons ev_int ea_nil)) (by decide)) (fun _ _ => ev_int) fun x y ⟨k, hk, e1⟩ e2 => ?_)) (fun _ => trivial) fun _ _ _ => trivial) (fun _ => ?_) fun _ => as_next (fin w wo))
      · subst e1 e2
        intro G H ok v u rx ry Q q
        exact rop_B0 (f := fun i j => decide (j < i)) G H ok v u rx ry Q fun d w G' H' e s r => q d w G' H' ⟨_, e, trivial⟩ s r
      · refine as_set (ev_join2 (R := fun _ => True) (al := al) ((ev_lcK (ei_rng1 (n := 2) (ea_cons (ev_alLen (ev_var rfl)) ea_nil)) (by rw [upTo_length]; decide) (fun y => ∃ k, k < 2 ∧ y = .str ⟨#[lt al k]⟩) fun n x hx => ⟨_, _, eg_name, (fun _ h => h), ?_⟩).imp ?_)) fun d ⟨w, wo, e⟩ => by subst e; exact fin w wo
        · obtain ⟨hn, rfl⟩ := upTo0_get hx
          have hn : n < 2 := hn
          refine Ev.ofE (ev_opE (ev_var rfl) (ev_opE (ev_cbE (ea_cons (ev_var rfl) ea_nil) rcl_intI) (ev_alLen (ev_var rfl)) (rop_I (by decide))) (rop_ixS (a := lt al n) (small_str (w := [0, 1]) (by decide)) ?_)) ⟨n, hn, rfl⟩
          rcases (show n = 0 ∨ n = 1 by omega) with rfl | rfl <;> rfl
        · rintro d ⟨ds, rfl, h1, h2⟩
          exact ⟨ds, rfl, h1.trans (by rw [upTo_length]; rfl), h2⟩
    · rintro ρ ⟨line, ll, lo, rfl⟩
      rw [upTo_length] at ll
      refine as_frz (i := 11) rfl ?_
      refine as_appE rfl (ev_var rfl) (by rw [List.length_map]; omega) ?_
      refine ⟨_, .keep (.keep (.keep (.keep (.keep (.keep (.keep (.keep (.keep (.keep (.drop (.drop (.keep (.keep (.keep (.keep .nil))))))))))))))), t ++ [line], by rw [List.length_append, tl]; rfl, fun row hr => ?_, by rw [List.map_append]; rfl⟩
      rcases List.mem_append.mp hr with h1 | h1
      · exact to row h1
      · have e : row = line := by simpa using h1
        rw [e]
        exact ⟨by omega, lo⟩
  · rintro ρ ⟨t, tl, to, rfl⟩
    rw [upTo_length] at tl
    refine as_frz (i := 9) rfl (as_retE (ev_lst (ea_cons (ev_var rfl) (ea_cons (ev_var rfl) (ea_cons (ev_var rfl) (ea_cons (ev_var rfl) (ea_cons (ev_var rfl) ea_nil)))))) ⟨⟨l, r, t⟩, ?_, rfl⟩)
    have e1 : l.length = L := lo.1
    have e2 : r.length = R := ro.1
    exact ⟨by show 1 ≤ l.length; omega, by show l.length ≤ 2; omega, by show 1 ≤ r.length; omega, by show r.length ≤ 2; omega, by show RowsOk l.length l; rw [e1]; exact lo, by show RowsOk r.length r; rw [e2]; exact ro, by show t.length = l.length; simp at tl; omega, fun row hr => ⟨by show row.length = r.length; rw [e2]; exact (to row hr).1, (to row hr).2⟩⟩
end
end Fx
/-! text LawF -/
namespace Fx
open PySem L2 Evl PyProof.Rows NdefX Mir MirL
section
variable {c : Ct} {E : XK} {b : Addr} {ρ : Env} {te ta : TE} {al : Al} {m : Mc} {k : D → Prop}
theorem as_law_fit (hb : c.B = some b) (al : Al) (hal : al ∈ Als) : AS c E (t_law_fit c) (entry N_law_fit [.raw (.ref b), .str (alS al), .int 2]) { nx := fun _ => False, rt := fun d => ∃ m, McOk 2 m ∧ d = eLM al m } :=
  as_ret (ev_callB (b := b) al hb (ea_cons (ev_var rfl) (ea_cons (ev_var rfl) (ea_cons (ev_var rfl) (ea_cons (ev_var rfl) ea_nil)))) hal) fun _ h => h
end
end Fx
/-! text LawG -/
namespace Fx
open PySem L2 Evl PyProof.Rows NdefX Mir MirL
section
variable {c : Ct} {E : XK} {b : Addr} {ρ : Env} {te ta : TE} {al : Al} {m : Mc} {k : D → Prop}
theorem idxOf_at {α : Type} [DecidableEq α] : ∀ {xs : List α} {a : α}, a ∈ xs → xs[xs.idxOf a]? = some a := fun {xs a} h => by
  have hl := List.idxOf_lt_length_of_mem h
  rw [List.getElem?_eq_getElem hl, List.getElem_idxOf hl]
theorem idxOf_lt {α : Type} [DecidableEq α] : ∀ {xs : List α} {a y : α} {l : Nat}, l < xs.idxOf a → xs[l]? = some y → y ≠ a
  | [], _, _, _, _, h => by simp at h
  | x :: xs, a, y, l, hl, h => by
    rw [List.idxOf_cons] at hl
    cases hx : (x == a) with
    | true => rw [hx] at hl; simp at hl
    | false =>
      rw [hx] at hl
      have hxa : x ≠ a := by simpa using hx
      cases l with
      | zero =>
        have e : x = y := by simpa using h
        exact e ▸ hxa
      | succ l => exact idxOf_lt (xs := xs) (l := l) (by simpa using hl) (by simpa using h)
theorem ev_idxOf {α : Type} [DecidableEq α] {xs : List α} {e : α → D} {n : Nat} {a : α} (inj : ∀ x ∈ xs, ∀ y ∈ xs, e x = e y → x = y) (ha : a ∈ xs) (ho : EvE c ta ρ (.lst (xs.map e))) (he : EvE c te ρ (e a)) (hp : ∀ x ∈ xs, Pl n (e x)) (hn : n + 1 ≤ 64) :
    EvE c (tBM c.K "list" (rIndexD c.K) ta (tCons te tNil)) ρ (eI (xs.idxOf a)) :=
  ev_index (n := n) (m := n) ho he (hp a ha) (fun d hd => by obtain ⟨x, hx, rfl⟩ := List.mem_map.mp hd; exact hp x hx) (by rw [List.getElem?_map, idxOf_at ha]; rfl) (fun l y hl hy z => by
    rw [List.getElem?_map] at hy
    cases q : xs[l]? with
    | none => rw [q] at hy; cases hy
    | some x =>
      rw [q] at hy
      have e1 : e x = y := Option.some.inj hy
      exact idxOf_lt hl q (inj x (List.mem_of_getElem? q) a ha (e1.trans z))) (by omega) hn
/-- [xs.index(x) for x in xs] -/
theorem ev_marks {α : Type} [DecidableEq α] {xs : List α} {e : α → D} {n i j : Nat} (inj : ∀ x ∈ xs, ∀ y ∈ xs, e x = e y → x = y) (h0 : ρ[i]? = some (some (.dat (.lst (xs.map e))))) (hij : j ≠ i) (hjl : j < ρ.length) (hz : xs.length ≤ 100000) (hp : ∀ x ∈ xs, Pl n (e x)) (hn : n + 1 ≤ 64) :
    EvE c (tLc (iList c.K (tVar i)) (gName j) tYes (tBM c.K "list" (rIndexD c.K) (tVar i) (tCons (tVar j) tNil)) [j]) ρ (eIs (marksOf xs)) := by
  refine EvE.to (ev_lc1 (g := fun x => eI (xs.idxOf x)) (ei_list (ev_var h0)) hz fun l x hx => ?_) (by show D.lst _ = D.lst _; rw [marksOf, List.map_map]; rfl)
  refine ev_idxOf inj (List.mem_of_getElem? hx) (ev_var ?_) (ev_var ?_) hp hn
  · show (((ρ.set j none).set j _))[i]? = _
    rw [List.getElem?_set_ne hij, List.getElem?_set_ne hij]
    exact h0
  · show (((ρ.set j none).set j _))[j]? = _
    rw [List.getElem?_set_self (by rw [List.length_set]; exact hjl)]
end
end Fx
/-! text LawH -/
namespace Fx
open PySem L2 Evl PyProof.Rows NdefX Mir MirL
section
variable {c : Ct} {E : XK} {b : Addr} {ρ : Env} {te ta : TE} {al : Al} {m : Mc} {k : D → Prop}
theorem eI_inj {a b : Nat} (h : eI a = eI b) : a = b := Int.ofNat.inj (D.int.inj h)
theorem map_inj {α : Type} {e : α → D} : ∀ {xs ys : List α}, (∀ x ∈ xs, ∀ y ∈ ys, e x = e y → x = y) → xs.map e = ys.map e → xs = ys
  | [], [], _, _ => rfl
  | [], _ :: _, _, h => by cases h
  | _ :: _, [], _, h => by cases h
  | x :: xs, y :: ys, hi, h => by
    obtain ⟨h1, h2⟩ := List.cons.inj h
    rw [hi x List.mem_cons_self y List.mem_cons_self h1, map_inj (fun a ha b hb => hi a (List.mem_cons_of_mem _ ha) b (List.mem_cons_of_mem _ hb)) h2]
theorem eIs_inj {a b : List Nat} (h : eIs a = eIs b) : a = b := map_inj (fun _ _ _ _ => eI_inj) (D.lst.inj h)
end
end Fx
/-! text PsC -/
namespace Fx
open PySem L2 Evl PyProof.Rows Mir NdefX LamX
section
variable {P : Program} {w : World} {K : PySem.W.Frag} {mg : Str → Option Value} {base : Heap} {tabs : List NdefX.NTab} {ad : Ads} {cdv : Value} {A : Around} {outer : List PySem.Env} {s : Shared} {H : Hp} {E : XK} {f c0 : Addr}
/-! ### _walked -/
abbrev s_walked : Stmt := topS 30
abbrev N_walked : List Str := ["first", "onward", "letters", "order", "place", "rows", "thing", "row", "k", "other"]
theorem sc_walked : FnScope N_walked ["first", "onward", "letters"] (defScope s_walked) := ⟨rfl, rfl, rfl, by decide +kernel, rfl, by decide +kernel, by decide +kernel⟩
def t_walked (c : Ct) (E : XK) (cl : List (Str × Addr)) (ws : List (Option V)) : TS :=
      (tSeq (tAsg (tLst (tCons (tVar 0) tNil)) (gName 3))
      (tSeq (tAsg (tNDisp1 c.P c.w (tVar 0) (tC (.int 0))) (gName 4))
      (tSeq (tAsg (tLst tNil) (gName 5))
      (tSeq (tWhile (tTest (tOp (rI0 fun i j => .bl (decide (i < j))) (tCB (rLenF c.K) (tCons (tVar 5) tNil)) (tCB (rLenF c.K) (tCons (tVar 3) tNil))))
      (tSeq (tAsg (tOp (rIxL c.K) (tVar 3) (tCB (rLenF c.K) (tCons (tVar 5) tNil))) (gName 6))
      (tSeq (tAsg (tLst tNil) (gName 7))
      (tSeq (tFor (iRng1 (tCons (tVar 2) tNil)) (gName 8)
      (tSeq (tAsg (tCallC Fam cl ws 1 (spN c) (tCons (tVar 6) (tCons (tVar 8) tNil))) (gName 9))
      (tSeq (tIfS (tTest (tOp (rNNotIn c.P c.w) (tVar 9) (tVar 4))) (tSeq (tIfS (tTest (tOp (rI0 fun i j => .bl (decide (j ≤ i))) (tCB (rLenF c.K) (tCons (tVar 3) tNil)) (tC (.int 100)))) (tRaise c.A.ME (tCons (tC (.str "too many states")) tNil) E) tNext)
      (tSeq (sNPut c.P c.w (tVar 4) (tVar 9) (tCB (rLenF c.K) (tCons (tVar 3) tNil)))
      (tDrop (tBM c.K "list" rAppend (tVar 3) (tCons (tVar 9) tNil))))) tNext)
      (tDrop (tBM c.K "list" rAppend (tVar 7) (tCons (tNGet c.P c.w (tVar 4) (tVar 9)) tNil))))))
      (tDrop (tBM c.K "list" rAppend (tVar 5) (tCons (tVar 7) tNil)))))))
      (tRet (tTup (tCons (tVar 3) (tCons (tVar 5) tNil))))))))
theorem p_walked (hr : Room 3 (A.deeper (envOfC "_walked" (defScope s_walked) s.heap.objs.size f cdv))) (T : Top K mg) (R_MachineError : CalR P w K mg base 1 "MachineError" ad.ME) {cl : List (Str × Addr)} {ws : List (Option V)} (Fn : ∀ f F b, Fam b F → NOk P w K mg base CX0 2 f F ["thing", "k"] ["one", "two"] (spN (ct P w K tabs ad) b)) (Cl : CellsAt cl ["one", "two"] ws s.heap H) (nf : ∀ y c, cl.lookup y = some c → c ∉ frs outer) :
    PSs (cxOf (L2.CX P w) P w K mg base N_walked "_walked" (defScope s_walked) f cdv A outer s H E) (defBody s_walked) (t_walked (ct P w K tabs ad) E cl ws) :=
    have scN := sc_walked
    (pss_cons (ps_set (i := 3) scN.nd rfl (Or.inl rfl) (pe_lst (pa_cons (pv 0) pa_nil)))
      (pss_cons (ps_set (i := 4) scN.nd rfl (Or.inl rfl) (pe_ndisp1 (hu8 hr) (pv 0) pe_int))
      (pss_cons (ps_set (i := 5) scN.nd rfl (Or.inl rfl) (pe_lst pa_nil))
      (pss_cons (ps_while (passes_of rfl) (pt_cmpR op_lt (pe_callB call_lenF rfl T.n_len boot_len (pa_cons (pv 5) pa_nil)) (pe_callB call_lenF rfl T.n_len boot_len (pa_cons (pv 3) pa_nil)) (nomark _))
      (pss_cons (ps_set (i := 6) scN.nd rfl (Or.inl rfl) (pe_ix ix_list (pv 3) (pe_callB call_lenF rfl T.n_len boot_len (pa_cons (pv 5) pa_nil)) (fun _ _ => rfl)))
      (pss_cons (ps_set (i := 7) scN.nd rfl (Or.inl rfl) (pe_lst pa_nil))
      (pss_cons (ps_for (passes_of rfl) rfl (pi_range1 rfl T.n_range (pa_cons (pv 2) pa_nil)) (pg_name (i := 8) scN.nd rfl (Or.inl rfl))
      (pss_cons (ps_set (i := 9) scN.nd rfl (Or.inl rfl) (pe_callC Fn Cl nf rfl (hr.mono (by decide)) rfl (Or.inl rfl) (pa_cons (pv 6) (pa_cons (pv 8) pa_nil))))
      (pss_cons (ps_if (pt_cmpR (op_nnotin (hu9 hr)) (pv 9) (pv 4) rfl) (pss_cons (ps_if (pt_cmpR op_ge (pe_callB call_lenF rfl T.n_len boot_len (pa_cons (pv 3) pa_nil)) (pe_gi rfl T.g_MOST_COMPOSED) (nomark _)) (pss_one (ps_rz R_MachineError rfl takesX (hr.mono (by decide)) rfl (pa_cons pe_str pa_nil))) pss_nil)
      (pss_cons (ps_nput (hu9 hr) (pv 4) (pv 9) (pe_callB call_lenF rfl T.n_len boot_len (pa_cons (pv 3) pa_nil)) rfl)
      (pss_one (ps_expr (pe_bm PySem.F.plainAttrs_list PySem.F.slot_list_append PySem.F.type_list_append mt_append (pv 3) (pa_cons (pv 9) pa_nil)))))) pss_nil)
      (pss_one (ps_expr (pe_bm PySem.F.plainAttrs_list PySem.F.slot_list_append PySem.F.type_list_append mt_append (pv 7) (pa_cons (pe_nget (hu9 hr) (pv 4) (pv 9) (fun _ _ => rfl)) pa_nil)))))))
      (pss_one (ps_expr (pe_bm PySem.F.plainAttrs_list PySem.F.slot_list_append PySem.F.type_list_append mt_append (pv 5) (pa_cons (pv 7) pa_nil))))))))
      (pss_one (ps_ret (pe_tup (pa_cons (pv 3) (pa_cons (pv 5) pa_nil)))))))))
/-! ### small_machine -/
abbrev s_small_machine : Stmt := topS 34
abbrev N_small_machine : List Str := ["reads", "writes", "left", "right", "table", "new_left", "new_right", "told"]
theorem sc_small_machine : FnScope N_small_machine ["reads", "writes", "left", "right", "table"] (defScope s_small_machine) := ⟨rfl, rfl, rfl, by decide +kernel, rfl, by decide +kernel, by decide +kernel⟩
def t_small_machine (c : Ct) (E : XK) : TS :=
      (tSeq (tAsg (tCall (sp_least_parts c) [] E0 (tCons (tVar 2) (tCons (tVar 3) (tCons (tVar 4) (tCons (tCB (rLenF c.K) (tCons (tVar 0) tNil)) tNil))))) (gTup c.K 3 (gCons (gName 5) (gCons (gName 6) (gCons (gName 7) gNil)))))
      (tSeq (tIfS (tOr (tTest (tOp (rI0 fun i j => .bl (decide (j < i))) (tCB (rLenF c.K) (tCons (tVar 5) tNil)) (tC (.int 40)))) (tTest (tOp (rI0 fun i j => .bl (decide (j < i))) (tCB (rLenF c.K) (tCons (tVar 6) tNil)) (tC (.int 40))))) (tRaise c.A.ME (tCons (tC (.str "too many states")) tNil) E) tNext)
      (tRet (tMake c.A.M (sp_Machine c) [] E0 (tCons (tVar 0) (tCons (tVar 1) (tCons (tVar 5) (tCons (tVar 6) (tCons (tVar 7) tNil)))))))))
theorem p_small_machine (hr : Room 4 (A.deeper (envOfC "small_machine" (defScope s_small_machine) s.heap.objs.size f cdv))) (T : Top K mg) (C_least_parts : Cal P w K mg base CX0 3 "least_parts" ["left", "right", "table", "letters"] (sp_least_parts (ct P w K tabs ad))) (C_Machine : CalM P w K mg base 3 "Machine" ad.M (sp_Machine (ct P w K tabs ad))) (R_MachineError : CalR P w K mg base 1 "MachineError" ad.ME) :
    PSs (cxOf (L2.CX P w) P w K mg base N_small_machine "small_machine" (defScope s_small_machine) f cdv A outer s H E) (defBody s_small_machine) (t_small_machine (ct P w K tabs ad) E) :=
    have scN := sc_small_machine
    (pss_cons (ps_asg (pe_cal C_least_parts (hr.mono (by decide)) rfl pass0 (pa_cons (pv 2) (pa_cons (pv 3) (pa_cons (pv 4) (pa_cons (pe_callB call_lenF rfl T.n_len boot_len (pa_cons (pv 0) pa_nil)) pa_nil))))) (pg_tup rfl (pgs_cons (pg_name (i := 5) scN.nd rfl (Or.inl rfl)) (pgs_cons (pg_name (i := 6) scN.nd rfl (Or.inl rfl)) (pgs_cons (pg_name (i := 7) scN.nd rfl (Or.inl rfl)) pgs_nil)))))
      (pss_cons (ps_if (PW.pt (pw_or (pt_cmpR op_gt (pe_callB call_lenF rfl T.n_len boot_len (pa_cons (pv 5) pa_nil)) (pe_gi rfl T.g_MOST_STATES) (nomark _)) (pw_or1 (pt_cmpR op_gt (pe_callB call_lenF rfl T.n_len boot_len (pa_cons (pv 6) pa_nil)) (pe_gi rfl T.g_MOST_STATES) (nomark _))))) (pss_one (ps_rz R_MachineError rfl takesX (hr.mono (by decide)) rfl (pa_cons pe_str pa_nil))) pss_nil)
      (pss_one (ps_ret (pe_mkm C_Machine (hr.mono (by decide)) rfl pass0 (pa_cons (pv 0) (pa_cons (pv 1) (pa_cons (pv 5) (pa_cons (pv 6) (pa_cons (pv 7) pa_nil))))))))))
/-! ### compose -/
abbrev s_compose : Stmt := topS 35
abbrev N_compose : List Str := ["first", "second", "one", "two", "letters", "onward_left", "onward_right", "fronts", "left", "row", "behinds", "right", "table", "front", "behind"]
theorem sc_compose : FnScope N_compose ["first", "second"] (defScope s_compose) := ⟨rfl, rfl, rfl, by decide +kernel, rfl, by decide +kernel, by decide +kernel⟩
theorem ndL : ndefB (defScope s_compose) (C8.fnScope sLf) ["one", "two"] = true := by decide +kernel
theorem ndR : ndefB (defScope s_compose) (C8.fnScope sRt) ["one", "two"] = true := by decide +kernel
def t_compose (c : Ct) (E : XK) (clL : List (Str × Addr)) (clR : List (Str × Addr)) : TS :=
      (tSeq (tIfS (tTest (tOp rNe (tFld c.K (tVar 0) "writes") (tFld c.K (tVar 1) "reads"))) (tRaise c.A.ME (tCons (tC (.str "alphabets do not fit")) tNil) E) tNext)
      (tSeq (tAsg (tCall (sp_least c) [] E0 (tCons (tVar 0) tNil)) (gName 2))
      (tSeq (tAsg (tCall (sp_least c) [] E0 (tCons (tVar 1) tNil)) (gName 3))
      (tSeq (tAsg (tCB (rLenF c.K) (tCons (tFld c.K (tVar 2) "reads") tNil)) (gName 4))
      (tSeq (tNdefM c.T 5 (NF.of sLf "onward_left" ((("compose" : Str) ++ ".<locals>.") ++ "onward_left") clL))
      (tSeq (tNdefM c.T 6 (NF.of sRt "onward_right" ((("compose" : Str) ++ ".<locals>.") ++ "onward_right") clR))
      (tSeq (tAsg (tCallW [2, 3] (sp_walked c clL) E (tCons (tTup (tCons (tC (.int 0)) (tCons (tCB (rTupF c.K) (tCons (tLc (iList c.K (tFld c.K (tVar 2) "right")) (gName 9) tYes (tC (.int 0)) [9]) tNil)) tNil))) (tCons (tVar 5) (tCons (tVar 4) tNil)))) (gTup c.K 2 (gCons (gName 7) (gCons (gName 8) gNil))))
      (tSeq (tAsg (tCallW [2, 3] (sp_walked c clR) E (tCons (tTup (tCons (tC (.int 0)) (tCons (tCB (rTupF c.K) (tCons (tLc (iList c.K (tFld c.K (tVar 2) "left")) (gName 9) tYes (tC (.int 0)) [9]) tNil)) tNil))) (tCons (tVar 6) (tCons (tVar 4) tNil)))) (gTup c.K 2 (gCons (gName 10) (gCons (gName 11) gNil))))
      (tSeq (tAsg (tLst tNil) (gName 12))
      (tSeq (tFor (iList c.K (tVar 7)) (gName 13)
      (tDrop (tBM c.K "list" rAppend (tVar 12) (tCons (tLc (iList c.K (tVar 10)) (gName 14) tYes (tCall (sp_told c) [] E0 (tCons (tVar 2) (tCons (tVar 3) (tCons (tVar 13) (tCons (tVar 14) tNil))))) [14]) tNil))))
      (tRet (tCall (sp_small_machine c) [] E (tCons (tFld c.K (tVar 2) "reads") (tCons (tFld c.K (tVar 3) "writes") (tCons (tVar 8) (tCons (tVar 11) (tCons (tVar 12) tNil)))))))))))))))))
theorem p_compose (hr : Room 5 (A.deeper (envOfC "compose" (defScope s_compose) s.heap.objs.size f (.ref c0)))) (T : Top K mg) (C_least : Cal P w K mg base CX0 5 "least" ["machine"] (sp_least (ct P w K tabs ad))) (C_told : Cal P w K mg base CX0 2 "_told" ["one", "two", "front", "behind"] (sp_told (ct P w K tabs ad))) (C_small_machine : Cal P w K mg base (L2.CX P w) 5 "small_machine" ["reads", "writes", "left", "right", "table"] (sp_small_machine (ct P w K tabs ad))) (R_MachineError : CalR P w K mg base 1 "MachineError" ad.ME) {fw P0 : Addr} {fdw : FuncData} {nmT : Nat → Nat → Str} (Fw : FnOkC P w K mg base (L2.CX P w) 4 fw fdw ["first", "onward", "letters"] ["one", "two"] (sp_walked (ct P w K tabs ad))) (hmw : mg "_walked" = some (.ref fw)) (hkw : PySem.W.keepIn K (.ref fw) = true) (hbw : Binds K fdw ["first", "onward", "letters"] []) (TB : TabB base mg c0 P0) (hmT : (P0, nmT) ∈ tabs) (hnTL : nmT 183 4 = ((("compose" : Str) ++ ".<locals>.") ++ "onward_left")) (hnTR : nmT 186 4 = ((("compose" : Str) ++ ".<locals>.") ++ "onward_right")) (huT : ∀ p ∈ tabs, p.1 = P0 → p.2 = nmT) :
    PSs (cxOf (L2.CX P w) P w K mg base N_compose "compose" (defScope s_compose) f (.ref c0) A outer s H E) (defBody s_compose) (t_compose (ct P w K tabs ad) E (cloFrom (cellsFrom (s.heap.objs.size + 1) (defScope s_compose).names []) (C8.fnScope sLf).names []) (cloFrom (cellsFrom (s.heap.objs.size + 1) (defScope s_compose).names []) (C8.fnScope sRt).names [])) :=
    have scN := sc_compose
    (pss_cons (ps_if (pt_cmpR op_ne (pe_fld (pv 0) rfl) (pe_fld (pv 1) rfl) (nomark _)) (pss_one (ps_rz R_MachineError rfl takesX (hr.mono (by decide)) rfl (pa_cons pe_str pa_nil))) pss_nil)
      (pss_cons (ps_set (i := 2) scN.nd rfl (Or.inr rfl) (pe_cal C_least (hr.mono (by decide)) rfl pass0 (pa_cons (pv 0) pa_nil)))
      (pss_cons (ps_set (i := 3) scN.nd rfl (Or.inr rfl) (pe_cal C_least (hr.mono (by decide)) rfl pass0 (pa_cons (pv 1) pa_nil)))
      (pss_cons (ps_set (i := 4) scN.nd rfl (Or.inl rfl) (pe_callB call_lenF rfl T.n_len boot_len (pa_cons (pe_fld (pv 2) rfl) pa_nil)))
      (pss_cons (ps_ndefMS (st := sLf) (i := 5) rfl TB rfl hmT hnTL huT (ndef_free ndL) rfl rfl rfl scN.nd rfl (Or.inl rfl) (Or.inl rfl))
      (pss_cons (ps_ndefMS (st := sRt) (i := 6) rfl TB rfl hmT hnTR huT (ndef_free ndR) rfl rfl rfl scN.nd rfl (Or.inl rfl) (Or.inl rfl))
      (pss_cons (ps_asg (pe_callW Fw (hr.mono (by decide)) rfl hmw hkw hbw (passX takesX) (fun ok => Caps.made ok (ndef_free ndL) (ndef_fr ndL) rfl) (fun _ => rfl) (pa_cons (pe_tup (pa_cons pe_int (pa_cons (pe_callTy call_tupF rfl T.n_tuple boot_tuple (pa_cons (pe_lc (own := [("row", 9)]) (g := (gName 9)) rfl scN.nd (pi_list (pe_fld (pv 2) rfl)) (blkOk_by (own := [("row", 9)]) (N := N_compose) (sc := defScope s_compose) (by decide +kernel)) (fun _ _ _ _ _ => (pg_name (i := 9) scN.nd rfl (Or.inl rfl))) (fun _ _ _ _ _ => pts_nil) (fun _ _ _ _ _ => pe_int)) pa_nil)) pa_nil))) (pa_cons (pv 5) (pa_cons (pv 4) pa_nil)))) (pg_tup rfl (pgs_cons (pg_name (i := 7) scN.nd rfl (Or.inl rfl)) (pgs_cons (pg_name (i := 8) scN.nd rfl (Or.inl rfl)) pgs_nil))))
      (pss_cons (ps_asg (pe_callW Fw (hr.mono (by decide)) rfl hmw hkw hbw (passX takesX) (fun ok => Caps.made ok (ndef_free ndR) (ndef_fr ndR) rfl) (fun _ => rfl) (pa_cons (pe_tup (pa_cons pe_int (pa_cons (pe_callTy call_tupF rfl T.n_tuple boot_tuple (pa_cons (pe_lc (own := [("row", 9)]) (g := (gName 9)) rfl scN.nd (pi_list (pe_fld (pv 2) rfl)) (blkOk_by (own := [("row", 9)]) (N := N_compose) (sc := defScope s_compose) (by decide +kernel)) (fun _ _ _ _ _ => (pg_name (i := 9) scN.nd rfl (Or.inl rfl))) (fun _ _ _ _ _ => pts_nil) (fun _ _ _ _ _ => pe_int)) pa_nil)) pa_nil))) (pa_cons (pv 6) (pa_cons (pv 4) pa_nil)))) (pg_tup rfl (pgs_cons (pg_name (i := 10) scN.nd rfl (Or.inl rfl)) (pgs_cons (pg_name (i := 11) scN.nd rfl (Or.inl rfl)) pgs_nil))))
      (pss_cons (ps_set (i := 12) scN.nd rfl (Or.inl rfl) (pe_lst pa_nil))
      (pss_cons (ps_for (passes_of rfl) rfl (pi_list (pv 7)) (pg_name (i := 13) scN.nd rfl (Or.inr rfl))
      (pss_one (ps_expr (pe_bm PySem.F.plainAttrs_list PySem.F.slot_list_append PySem.F.type_list_append mt_append (pv 12) (pa_cons (pe_lc (own := [("behind", 14)]) (g := (gName 14)) rfl scN.nd (pi_list (pv 10)) (blkOk_by (own := [("behind", 14)]) (N := N_compose) (sc := defScope s_compose) (by decide +kernel)) (fun _ _ _ _ _ => (pg_name (i := 14) scN.nd rfl (Or.inl rfl))) (fun _ _ _ _ _ => pts_nil) (fun _ _ _ _ _ => (pe_cal C_told (hr.mono (by decide)) rfl pass0 (pa_cons (pv 2) (pa_cons (pv 3) (pa_cons (pv 13) (pa_cons (pv 14) pa_nil))))))) pa_nil)))))
      (pss_one (ps_ret (pe_cal C_small_machine (hr.mono (by decide)) rfl (passX takesX) (pa_cons (pe_fld (pv 2) rfl) (pa_cons (pe_fld (pv 3) rfl) (pa_cons (pv 8) (pa_cons (pv 11) (pa_cons (pv 12) pa_nil))))))))))))))))))
/-! ### cascade -/
abbrev s_cascade : Stmt := topS 37
abbrev N_cascade : List Str := ["machines", "whole", "machine"]
theorem sc_cascade : FnScope N_cascade ["machines"] (defScope s_cascade) := ⟨rfl, rfl, rfl, by decide +kernel, rfl, by decide +kernel, by decide +kernel⟩
def t_cascade (c : Ct) (E : XK) : TS :=
      (tSeq (tAsg (tCall (sp_least c) [] E0 (tCons (tOp (rIxL c.K) (tVar 0) (tC (.int 0))) tNil)) (gName 1))
      (tSeq (tFor (iList c.K (tSl (rSlL c.K) (tVar 0) (tPart (tC (.int 1))) tNoPart)) (gName 2)
      (tAsg (tCall (sp_compose c) [] E (tCons (tVar 1) (tCons (tVar 2) tNil))) (gName 1)))
      (tRet (tVar 1))))
theorem p_cascade (hr : Room 6 (A.deeper (envOfC "cascade" (defScope s_cascade) s.heap.objs.size f cdv))) (T : Top K mg) (C_least : Cal P w K mg base CX0 5 "least" ["machine"] (sp_least (ct P w K tabs ad))) (C_compose : Cal P w K mg base (L2.CX P w) 6 "compose" ["first", "second"] (sp_compose (ct P w K tabs ad))) :
    PSs (cxOf (L2.CX P w) P w K mg base N_cascade "cascade" (defScope s_cascade) f cdv A outer s H E) (defBody s_cascade) (t_cascade (ct P w K tabs ad) E) :=
    have scN := sc_cascade
    (pss_cons (ps_set (i := 1) scN.nd rfl (Or.inl rfl) (pe_cal C_least (hr.mono (by decide)) rfl pass0 (pa_cons (pe_ix ix_list (pv 0) pe_int (fun _ _ => rfl)) pa_nil)))
      (pss_cons (ps_for (passes_of rfl) rfl (pi_list (pe_slice sl_list (pv 0) (po_some pe_int) po_none)) (pg_name (i := 2) scN.nd rfl (Or.inl rfl))
      (pss_one (ps_set (i := 1) scN.nd rfl (Or.inl rfl) (pe_cal C_compose (hr.mono (by decide)) rfl (passX takesX) (pa_cons (pv 1) (pa_cons (pv 2) pa_nil))))))
      (pss_one (ps_ret (pv 1)))))
/-! ### _both_orders -/
abbrev s_both_orders : Stmt := topS 38
abbrev N_both_orders : List Str := ["one", "two"]
theorem sc_both_orders : FnScope N_both_orders ["one", "two"] (defScope s_both_orders) := ⟨rfl, rfl, rfl, by decide +kernel, rfl, by decide +kernel, by decide +kernel⟩
def t_both_orders (c : Ct) (E : XK) : TS :=
      (tSeq (tIfS (tTest (tOp rNe (tLenSet4 (tFld c.K (tVar 0) "reads") (tFld c.K (tVar 0) "writes") (tFld c.K (tVar 1) "reads") (tFld c.K (tVar 1) "writes")) (tC (.int 1)))) (tRaise c.A.ME (tCons (tC (.str "alphabets do not fit")) tNil) E) tNext)
      (tRet (tTup (tCons (tCall (sp_compose c) [] E (tCons (tVar 0) (tCons (tVar 1) tNil))) (tCons (tCall (sp_compose c) [] E (tCons (tVar 1) (tCons (tVar 0) tNil))) tNil)))))
theorem p_both_orders (hr : Room 6 (A.deeper (envOfC "_both_orders" (defScope s_both_orders) s.heap.objs.size f cdv))) (T : Top K mg) (C_compose : Cal P w K mg base (L2.CX P w) 6 "compose" ["first", "second"] (sp_compose (ct P w K tabs ad))) (R_MachineError : CalR P w K mg base 1 "MachineError" ad.ME) (hkc : PySem.W.kdsCode K cdv = true) :
    PSs (cxOf (L2.CX P w) P w K mg base N_both_orders "_both_orders" (defScope s_both_orders) f cdv A outer s H E) (defBody s_both_orders) (t_both_orders (ct P w K tabs ad) E) :=
    have scN := sc_both_orders
    (pss_cons (ps_if (pt_cmpR op_ne (pe_lenSet4 rfl T.n_len hkc (pe_fld (pv 0) rfl) (pe_fld (pv 0) rfl) (pe_fld (pv 1) rfl) (pe_fld (pv 1) rfl) rfl) pe_int (nomark _)) (pss_one (ps_rz R_MachineError rfl takesX (hr.mono (by decide)) rfl (pa_cons pe_str pa_nil))) pss_nil)
      (pss_one (ps_ret (pe_tup (pa_cons (pe_cal C_compose (hr.mono (by decide)) rfl (passX takesX) (pa_cons (pv 0) (pa_cons (pv 1) pa_nil))) (pa_cons (pe_cal C_compose (hr.mono (by decide)) rfl (passX takesX) (pa_cons (pv 1) (pa_cons (pv 0) pa_nil))) pa_nil))))))
/-! ### commutes -/
abbrev s_commutes : Stmt := topS 39
abbrev N_commutes : List Str := ["one", "two", "here", "there"]
theorem sc_commutes : FnScope N_commutes ["one", "two"] (defScope s_commutes) := ⟨rfl, rfl, rfl, by decide +kernel, rfl, by decide +kernel, by decide +kernel⟩
def t_commutes (c : Ct) (E : XK) : TS :=
      (tSeq (tAsg (tCall (sp_both_orders c) [] E (tCons (tVar 0) (tCons (tVar 1) tNil))) (gTup c.K 2 (gCons (gName 2) (gCons (gName 3) gNil))))
      (tRet (tOp (rEqD c.K) (tCall (sp_form c) [] E0 (tCons (tVar 2) tNil)) (tCall (sp_form c) [] E0 (tCons (tVar 3) tNil)))))
theorem p_commutes (hr : Room 7 (A.deeper (envOfC "commutes" (defScope s_commutes) s.heap.objs.size f cdv))) (T : Top K mg) (C_both_orders : Cal P w K mg base (L2.CX P w) 7 "_both_orders" ["one", "two"] (sp_both_orders (ct P w K tabs ad))) (C_form : Cal P w K mg base CX0 1 "form" ["machine"] (sp_form (ct P w K tabs ad))) :
    PSs (cxOf (L2.CX P w) P w K mg base N_commutes "commutes" (defScope s_commutes) f cdv A outer s H E) (defBody s_commutes) (t_commutes (ct P w K tabs ad) E) :=
    have scN := sc_commutes
    (pss_cons (ps_asg (pe_cal C_both_orders (hr.mono (by decide)) rfl (passX takesX) (pa_cons (pv 0) (pa_cons (pv 1) pa_nil))) (pg_tup rfl (pgs_cons (pg_name (i := 2) scN.nd rfl (Or.inl rfl)) (pgs_cons (pg_name (i := 3) scN.nd rfl (Or.inl rfl)) pgs_nil))))
      (pss_one (ps_ret (pe_cmpR (op_eqD hr.units) (pe_cal C_form (hr.mono (by decide)) rfl pass0 (pa_cons (pv 2) pa_nil)) (pe_cal C_form (hr.mono (by decide)) rfl pass0 (pa_cons (pv 3) pa_nil)) (nomark _)))))
/-! ### _whole -/
abbrev s_whole : Stmt := topS 43
abbrev N_whole : List Str := ["alphabet", "machines"]
theorem sc_whole : FnScope N_whole ["alphabet", "machines"] (defScope s_whole) := ⟨rfl, rfl, rfl, by decide +kernel, rfl, by decide +kernel, by decide +kernel⟩
def t_whole (c : Ct) (E : XK) : TS :=
      (tSeq (tIfS (tNot (tTr c.K (tVar 1))) (tRet (tCall (sp_identity c) [] E0 (tCons (tVar 0) tNil))) tNext)
      (tRet (tCall (sp_cascade c) [] E (tCons (tVar 1) tNil))))
theorem p_whole (hr : Room 7 (A.deeper (envOfC "_whole" (defScope s_whole) s.heap.objs.size f cdv))) (T : Top K mg) (C_identity : Cal P w K mg base CX0 5 "identity" ["alphabet"] (sp_identity (ct P w K tabs ad))) (C_cascade : Cal P w K mg base (L2.CX P w) 7 "cascade" ["machines"] (sp_cascade (ct P w K tabs ad))) :
    PSs (cxOf (L2.CX P w) P w K mg base N_whole "_whole" (defScope s_whole) f cdv A outer s H E) (defBody s_whole) (t_whole (ct P w K tabs ad) E) :=
    have scN := sc_whole
    (pss_cons (ps_if (pt_not (pt_truth (pv 1) (fun _ => rfl))) (pss_one (ps_ret (pe_cal C_identity (hr.mono (by decide)) rfl pass0 (pa_cons (pv 0) pa_nil)))) pss_nil)
      (pss_one (ps_ret (pe_cal C_cascade (hr.mono (by decide)) rfl (passX takesX) (pa_cons (pv 1) pa_nil)))))
end
end Fx
/-! text FxWalk -/
namespace Fx
open PySem L2 Evl PyProof.Rows Mir NdefX

/-! ### the mirror's walk -/
theorem stepW_ok {on : Th → Nat → Th} {o o' : List Th} {th : Th} {k : Nat} (h : stepW on o th k = some o') (hl : o.length ≤ 100) : (∃ zs, o' = o ++ zs ∧ ∀ x ∈ zs, x = on th k) ∧ o'.length ≤ 100 ∧ on th k ∈ o' := by
  unfold stepW at h
  split at h
  · rename_i hm
    cases h
    exact ⟨⟨[], by simp⟩, hl, hm⟩
  · split at h
    · cases h
    · cases h
      exact ⟨⟨[on th k], rfl, fun x hx => List.mem_singleton.mp hx⟩, by rw [List.length_append]; show _ + 1 ≤ _; omega, by simp⟩
/-- what a walk keeps -/
structure WkOk (P : Th → Prop) (o : List Th) (rs : List (List Nat)) : Prop where
  p : ∀ th ∈ o, P th
  l : o.length ≤ 100
  le : rs.length ≤ o.length
  r : ∀ r ∈ rs, r.length = 2 ∧ ∀ s ∈ r, s < o.length
theorem walkRow_ok {P : Th → Prop} {on : Th → Nat → Th} (hon : ∀ th k, P th → k < 2 → P (on th k)) {o o' : List Th} {rs : List (List Nat)} {th : Th} {r : List Nat} (w : WkOk P o rs) (hp : P th) (hlt : rs.length < o.length) (h : walkRow on o th = some (o', r)) : WkOk P o' (rs ++ [r]) ∧ ∃ zs, o' = o ++ zs := by
  unfold walkRow at h
  cases h1 : stepW on o th 0 with
  | none => rw [h1] at h; cases h
  | some o1 =>
    rw [h1] at h
    cases h2 : stepW on o1 th 1 with
    | none =>
      have h : (stepW on o1 th 1).bind _ = some (o', r) := h
      rw [h2] at h
      cases h
    | some o2 =>
      have h : (stepW on o1 th 1).bind _ = some (o', r) := h
      rw [h2] at h
      have h : some (o2, [o2.idxOf (on th 0), o2.idxOf (on th 1)]) = some (o', r) := h
      cases h
      obtain ⟨⟨z1, e1, p1⟩, l1, m1⟩ := stepW_ok h1 w.l
      obtain ⟨⟨z2, e2, p2⟩, l2, m2⟩ := stepW_ok h2 l1
      have hz : o' = o ++ (z1 ++ z2) := by rw [e2, e1, List.append_assoc]
      have m1' : on th 0 ∈ o' := by rw [e2]; exact List.mem_append_left _ m1
      refine ⟨⟨fun x hx => ?_, l2, by rw [List.length_append, hz, List.length_append]; show _ + 1 ≤ _; omega, fun r hr => ?_⟩, _, hz⟩
      · rw [hz] at hx
        rcases List.mem_append.mp hx with z | z
        · exact w.p x z
        · rcases List.mem_append.mp z with z | z
          · rw [p1 x z]; exact hon th 0 hp (by decide)
          · rw [p2 x z]; exact hon th 1 hp (by decide)
      · rcases List.mem_append.mp hr with z | z
        · obtain ⟨a, b⟩ := w.r r z
          exact ⟨a, fun s hs => by have := b s hs; rw [hz, List.length_append]; omega⟩
        · rw [List.mem_singleton.mp z]
          refine ⟨rfl, fun s hs => ?_⟩
          rcases List.mem_cons.mp hs with y | y
          · rw [y]; exact List.idxOf_lt_length_of_mem m1'
          · rw [List.mem_singleton.mp y]; exact List.idxOf_lt_length_of_mem m2
theorem walk_ok {P : Th → Prop} {on : Th → Nat → Th} (hon : ∀ th k, P th → k < 2 → P (on th k)) : ∀ (n : Nat) (o o' : List Th) (rs rs' : List (List Nat)), WkOk P o rs → 101 ≤ n + rs.length → walk on n o rs = some (o', rs') → WkOk P o' rs' ∧ rs'.length = o'.length ∧ ∃ zs, o' = o ++ zs
  | 0, o, o', rs, rs', w, hn, h => by
    have := w.l
    have := w.le
    omega
  | n + 1, o, o', rs, rs', w, hn, h => by
    rw [walk] at h
    split at h
    · rename_i hlt
      have hp : P (o.getD rs.length (0, [])) := w.p _ (by rw [List.getD_eq_getElem?_getD, List.getElem?_eq_getElem hlt]; exact List.getElem_mem hlt)
      cases hr : walkRow on o (o.getD rs.length (0, [])) with
      | none => rw [hr] at h; cases h
      | some q =>
        obtain ⟨o1, r⟩ := q
        rw [hr] at h
        obtain ⟨w1, zs, e⟩ := walkRow_ok hon w hp hlt hr
        obtain ⟨w2, l2, ys, e2⟩ := walk_ok hon n o1 o' (rs ++ [r]) rs' w1 (by rw [List.length_append]; show _ ≤ _ + (_ + 1); omega) h
        exact ⟨w2, l2, zs ++ ys, by rw [e2, e, List.append_assoc]⟩
    · cases h
      have := w.le
      exact ⟨w, by omega, [], by simp⟩
theorem walked_ok {P : Th → Prop} {on : Th → Nat → Th} (hon : ∀ th k, P th → k < 2 → P (on th k)) {first : Th} {o : List Th} {rs : List (List Nat)} (hp : P first) (h : walked on first = some (o, rs)) : WkOk P o rs ∧ rs.length = o.length ∧ 1 ≤ o.length := by
  obtain ⟨w, l, zs, e⟩ := walk_ok hon 101 [first] o [] rs ⟨fun th h => by rw [List.mem_singleton.mp h]; exact hp, by simp, by simp, by simp⟩ (by simp) h
  exact ⟨w, l, by rw [e]; simp⟩
theorem onOf_ok {b : Bool} {one two : Mc} (o1 : McOk 40 one) (o2 : McOk 40 two) : ∀ th k, thOkOf b one two th → k < 2 → thOkOf b one two (onOf b one two th k) := by
  intro th k h hk
  cases b with
  | false =>
    have h : ThOk one.l.length one.r.length two.l.length th := h
    show ThOk one.l.length one.r.length two.l.length (leftOn one two th k)
    refine ⟨nth_lt o1.lo h.a k hk, by simp [leftOn], fun s hs => ?_⟩
    obtain ⟨j, hj, rfl⟩ := List.mem_map.mp hs
    have hj := List.mem_range.mp hj
    have hs : nth one.r k j < th.2.length := by rw [h.b]; exact nth_lt o1.ro hj k hk
    have hw := (o1.tab.cell h.a hj).2
    exact nth_lt o2.lo (h.c _ (getD_mem hs)) _ (hw.at hk)
  | true =>
    have h : ThOk one.r.length one.l.length two.r.length th := h
    show ThOk one.r.length one.l.length two.r.length (rightOn one two th k)
    refine ⟨nth_lt o1.ro h.a k hk, by simp [rightOn], fun s hs => ?_⟩
    obtain ⟨j, hj, rfl⟩ := List.mem_map.mp hs
    have hj := List.mem_range.mp hj
    have hs : nth one.l k j < th.2.length := by rw [h.b]; exact nth_lt o1.lo hj k hk
    have hw := (o1.tab.cell hj h.a).2
    exact nth_lt o2.ro (h.c _ (getD_mem hs)) _ (hw.at hk)

/-! ### a nested def keeps its promise -/
theorem bindsN2 {b : Bool} {F : NF} (h : Fam b F) (doc pm ctv : Value) (us : List Value) (hl : us.length = 2) : bindArgs (F.fd doc pm ctv) ⟨us, []⟩ = pure ((["thing", "k"] : List Str).zip us) := by
  match us, hl with
  | [x, y], _ =>
    rw [h]
    cases b <;> rfl
def t_on (c : Ct) (b : Bool) : TS := tRet (tCall (if b then sp_right_onward c else sp_left_onward c) [] E0 (tCons (tVar 2) (tCons (tVar 3) (tCons (tVar 0) (tCons (tVar 1) tNil)))))
section
variable {P : Program} {w : World} {K : PySem.W.Frag} {mg : Str → Option Value} {base : Heap} {tabs : List NTab} {ad : Ads}
theorem nsL : NScope ["thing", "k", "one", "two"] ["thing", "k"] ["one", "two"] (C8.fnScope sLf) := nscope_by (by decide +kernel)
theorem nsR : NScope ["thing", "k", "one", "two"] ["thing", "k"] ["one", "two"] (C8.fnScope sRt) := nscope_by (by decide +kernel)
theorem run_on {c : Ct} {b : Bool} (hB : c.B = none) {ws : List (Option V)} {vs : List V} {H : Hp} {Q : VK} {E : XK} (h : spN c b ws vs H Q E) : t_on c b { nx := fun _ H' => Q .non H', rt := Q } (startF ["thing", "k", "one", "two"] vs ws) H := by
  obtain ⟨vws, rfl, h2, i, G, ok, r, hp, q⟩ := h
  obtain ⟨v0, v1, rfl⟩ : ∃ a b, vs = [a, b] := by
    match vs, h2 with
    | [a, b], _ => exact ⟨a, b, rfl⟩
  have hl := r.len
  obtain ⟨v2, v3, rfl⟩ : ∃ a b, vws = [a, b] := by
    match vws, hl with
    | [a, b], _ => exact ⟨a, b, rfl⟩
  cases r with
  | cons r0 r => cases r with
    | cons r1 r => cases r with
      | cons r2 r => cases r with
        | cons r3 r =>
          cases r
          refine ⟨v2, rfl, v3, rfl, v0, rfl, v1, rfl, ?_⟩
          cases b with
          | false => exact ⟨i, G, ok, .cons r2 (.cons r3 (.cons r0 (.cons r1 .nil))), hp, fun d v G' H' pd s rd => q d v G' H' pd s rd⟩
          | true => exact ⟨i, G, ok, .cons r2 (.cons r3 (.cons r0 (.cons r1 .nil))), hp, fun d v G' H' pd s rd => q d v G' H' pd s rd⟩
theorem nok_on (CL : Cal P w K mg base CX0 1 "_left_onward" ["one", "two", "thing", "k"] (sp_left_onward (ct P w K tabs ad))) (CR : Cal P w K mg base CX0 1 "_right_onward" ["one", "two", "thing", "k"] (sp_right_onward (ct P w K tabs ad))) (f : Addr) (F : NF) (b : Bool) (h : Fam b F) :
    NOk P w K mg base CX0 2 f F ["thing", "k"] ["one", "two"] (spN (ct P w K tabs ad) b) := by
  have hF : F = NF.of (if b then sRt else sLf) (onQ b) ((("compose" : Str) ++ ".<locals>.") ++ onQ b) F.cl F.c := h
  have S : NScope ["thing", "k", "one", "two"] ["thing", "k"] ["one", "two"] F.scope := by
    rw [hF]
    cases b
    · exact nsL
    · exact nsR
  refine nok_of S (fun doc pm ctv us hl => bindsN2 h doc pm ctv us hl) (fun ws vs H Q E hh => hh.choose_spec.2.1) fun A outer s H vs ws Q E hr hf hc hw hsp => ⟨t_on (ct P w K tabs ad) b, ?_, run_on rfl hsp⟩
  generalize hcl : F.cl = cl at *
  generalize hcc : F.c = cc at *
  subst hF
  cases b with
  | false => exact pss_one (ps_ret (pe_cal CL (hr.mono (Nat.le_refl _)) rfl pass0 (pa_cons (pv 2) (pa_cons (pv 3) (pa_cons (pv 0) (pa_cons (pv 1) pa_nil))))))
  | true => exact pss_one (ps_ret (pe_cal CR (hr.mono (Nat.le_refl _)) rfl pass0 (pa_cons (pv 2) (pa_cons (pv 3) (pa_cons (pv 0) (pa_cons (pv 1) pa_nil))))))
end
end Fx
/-! text FxWalk2 -/
namespace Fx
open PySem L2 Evl PyProof.Rows Mir NdefX

theorem thv (o : List Th) (x : Th) : keyV (nmb (o.map eTh)) (eTh x).key = if x ∈ o then some (eI (o.idxOf x)) else none := by
  rw [nmb_val, List.map_map]
  have hi : ∀ y ∈ o, (D.key ∘ eTh) y = (eTh x).key → y = x := fun y _ e => eK_inj e
  by_cases h : x ∈ o
  · have hm : (eTh x).key ∈ o.map (D.key ∘ eTh) := List.mem_map.mpr ⟨x, h, rfl⟩
    rw [if_pos h, if_pos hm]
    have := idxOf_map (f := D.key ∘ eTh) (x := x) (o := o) hi
    rw [← this]
    rfl
  · rw [if_neg h, if_neg]
    intro z
    obtain ⟨y, hy, e⟩ := List.mem_map.mp z
    exact h (hi y hy e ▸ hy)
def wk (on : Th → Nat → Th) (o : List Th) (th : Th) : Nat → Option (List Th)
  | 0 => some o
  | k + 1 => (wk on o th k).bind fun o' => stepW on o' th k
theorem walkRow_wk (on : Th → Nat → Th) (o : List Th) (th : Th) : walkRow on o th = (wk on o th 2).bind fun o2 => some (o2, [o2.idxOf (on th 0), o2.idxOf (on th 1)]) := by
  unfold walkRow wk wk wk
  show (stepW on o th 0).bind _ = ((stepW on o th 0).bind _).bind _
  cases stepW on o th 0 with
  | none => rfl
  | some o1 => rfl
section
variable {c : Ct} {E : XK}
theorem wk_none {on : Th → Nat → Th} {o : List Th} {th : Th} {k : Nat} (hk : k < 2) {o' : List Th} (h : wk on o th k = some o') (hs : stepW on o' th k = none) : walkRow on o th = none := by
  rw [walkRow_wk]
  have h1 : wk on o th (k + 1) = none := by rw [wk, h]; exact hs
  have hk : k = 0 ∨ k = 1 := by omega
  rcases hk with rfl | rfl
  · have : wk on o th 2 = none := by rw [wk, h1]; rfl
    rw [this]
    rfl
  · rw [h1]
    rfl
abbrev rW (c : Ct) (al : Al) (one two first : D) (F : NF) (vws : List V) (o : List Th) (rs : List (List Nat)) (a b : Option Cell) : Env :=
  [some (.dat first), some (.fn F vws [one, two]), some (.dat (.int 2)), some (.ml (o.map eTh)), some (.mn (nmb (o.map eTh))), some (.ml (rs.map eIs)), a, b, none, none]
theorem as_walked {b : Bool} {al : Al} {one two : Mc} {first : Th} {F : NF} {vws : List V} (hal : al ∈ Als) (o1 : McOk 40 one) (o2 : McOk 40 two) (hfam : Fam b F) (hp : thOkOf b one two first) :
    AS c E (t_walked c E F.cl (vws.map some)) [some (.dat (eTh first)), some (.fn F vws [eM c.A.M al one, eM c.A.M al two]), some (.dat (.int 2)), none, none, none, none, none, none, none]
      { nx := fun _ => False, rt := fun d => ∃ o r, walked (onOf b one two) first = some (o, r) ∧ d = .tup [.lst (o.map eTh), eRows r], ex := fun C s => walked (onOf b one two) first = none ∧ C = c.A.ME ∧ s = tooMany } := by
  have hon := onOf_ok (b := b) o1 o2
  generalize hong : onOf b one two = on at hon
  refine as_seq (as_new (ea_cons (ev_var rfl) ea_nil) (by simp) ?_)
  refine as_seq (as_ndisp1 (x := eTh first) (ev_var rfl) ev_int (eK_ok first) ?_ (by show 4 < 10; decide))
  refine as_seq (as_new ea_nil (by simp) ?_)
  refine as_seq (as_while (fun m ρ => ∃ o rs a b', m = 101 - rs.length ∧ WkOk (thOkOf b one two) o rs ∧ walk on (101 - rs.length) o rs = walked on first ∧ ρ = rW c al (eM c.A.M al one) (eM c.A.M al two) (eTh first) F vws o rs a b') 101 ?_ ?_)
  · exact ⟨[first], [], none, none, rfl, ⟨fun th h => by rw [List.mem_singleton.mp h]; exact hp, by simp, by simp, by simp⟩, rfl, rfl⟩
  · rintro m ρ ⟨o, rs, a, b', rfl, w, hw, rfl⟩
    have wl := w.l
    have wle := w.le
    refine ⟨decide (rs.length < o.length), et_test (EvE.to (ev_opE (x := .int ((rs.map eIs).length : Nat)) (y := .int ((o.map eTh).length : Nat)) (ev_lenM rfl) (ev_lenM rfl) rop_B0) ?_), fun hb => ?_, fun hb => ?_⟩
    · rw [List.length_map, List.length_map]
      congr 1
      rw [decide_eq_decide]
      omega
    · have hlt : rs.length < o.length := by simpa using hb
      obtain ⟨fu, hfu⟩ : ∃ k, 101 - rs.length = k + 1 := ⟨101 - rs.length - 1, by omega⟩
      rw [hfu, walk, if_pos hlt] at hw
      generalize hth : o.getD rs.length (0, []) = th at hw
      have hpt : thOkOf b one two th := by
        rw [← hth, List.getD_eq_getElem?_getD, List.getElem?_eq_getElem hlt]
        exact w.p _ (List.getElem_mem hlt)
      have hgt : (o.map eTh)[(rs.map eIs).length]? = some (eTh th) := by
        rw [List.length_map, List.getElem?_map, ← hth, List.getD_eq_getElem?_getD, List.getElem?_eq_getElem hlt]
        rfl
      refine as_seq (as_setE (ev_ixM (ds := o.map eTh) (j := ((rs.map eIs).length : Nat)) rfl (ev_lenM rfl) (at_nat hgt)) ?_)
      refine as_seq (as_new ea_nil (by simp) ?_)
      show AS c E _ (rW c al (eM c.A.M al one) (eM c.A.M al two) (eTh first) F vws o rs (some (.dat (eTh th))) (some (.ml []))) _
      refine as_seq (as_for (ei_rng1 (ea_cons (ev_var (i := 2) (d := .int 2) rfl) ea_nil) (by decide))
        (fun k ρ => k ≤ 2 ∧ ∃ o', wk on o th k = some o' ∧ WkOk (thOkOf b one two) o' rs ∧ (∃ zs, o' = o ++ zs) ∧ (∀ j, j < k → on th j ∈ o') ∧
          ρ = rW c al (eM c.A.M al one) (eM c.A.M al two) (eTh first) F vws o' rs (some (.dat (eTh th))) (some (.ml (((List.range k).map fun j => o'.idxOf (on th j)).map eI)))) ?_ ?_ ?_)
      · exact ⟨by omega, o, rfl, w, ⟨[], by simp⟩, fun j hj => by omega, rfl⟩
      · rintro k x ρ hx ⟨_, o', hwk, w', ⟨zs, hz⟩, hmem, rfl⟩
        obtain ⟨hk, rfl⟩ := upTo_get hx
        have hk : k < 2 := hk
        rw [show (0 : Int) + (k : Nat) = (k : Nat) by omega]
        refine ⟨_, _, eg_name, ?_⟩
        have wl' := w'.l
        have call : EvE c (tCallC Fam F.cl (vws.map some) 1 (spN c) (tCons (tVar 6) (tCons (tVar 8) tNil))) [some (.dat (eTh first)), some (.fn F vws [eM c.A.M al one, eM c.A.M al two]), some (.dat (.int 2)), some (.ml (o'.map eTh)), some (.mn (nmb (o'.map eTh))), some (.ml (rs.map eIs)), some (.dat (eTh th)), some (.ml (((List.range k).map fun j => o'.idxOf (on th j)).map eI)), some (.dat (eI k)), none] (eTh (on th k)) := by
          have := ev_callC (c := c) (ι := fun _ => Al × Mc × Mc × Th × Nat) (args := fun _ => argN c) (pre := preN) (post := postN) (Fam := Fam) (F := F) (vws := vws) (ds := [eM c.A.M al one, eM c.A.M al two]) (es := [eTh th, eI k]) (b := b) (i := 1)
            (ρ := [some (.dat (eTh first)), some (.fn F vws [eM c.A.M al one, eM c.A.M al two]), some (.dat (.int 2)), some (.ml (o'.map eTh)), some (.mn (nmb (o'.map eTh))), some (.ml (rs.map eIs)), some (.dat (eTh th)), some (.ml (((List.range k).map fun j => o'.idxOf (on th j)).map eI)), some (.dat (eI k)), none])
            rfl hfam (al, one, two, th, k) (ea_cons (ev_var (i := 6) rfl) (ea_cons (ev_var (i := 8) rfl) ea_nil)) rfl rfl ⟨hal, o1, o2, hpt, hk⟩
          exact this.imp fun d hd => by rw [← hong]; exact hd
        refine as_seq (as_setE call ?_)
        clear call
        show AS c E _ [some (.dat (eTh first)), some (.fn F vws [eM c.A.M al one, eM c.A.M al two]), some (.dat (.int 2)), some (.ml (o'.map eTh)), some (.mn (nmb (o'.map eTh))), some (.ml (rs.map eIs)), some (.dat (eTh th)), some (.ml (((List.range k).map fun j => o'.idxOf (on th j)).map eI)), some (.dat (eI k)), some (.dat (eTh (on th k)))] _
        have hpo := hon th k hpt hk
        generalize hx0 : on th k = x0 at hpo
        have hstep : stepW on o' th k = if x0 ∈ o' then some o' else if 100 ≤ o'.length then none else some (o' ++ [x0]) := by
          unfold stepW
          rw [hx0]
        have hrow : ∀ (o2 : List Th), (∃ ys, o2 = o' ++ ys) → ((List.range k).map fun j => o'.idxOf (on th j)) = (List.range k).map fun j => o2.idxOf (on th j) := fun o2 ⟨ys, e⟩ => by
          refine List.map_congr_left fun j hj => ?_
          rw [e, idxOf_pre (hmem j (List.mem_range.mp hj))]
        refine as_seq (as_ifT (b := !decide (x0 ∈ o')) ((et_test (ev_nnotinN (ev_var rfl) rfl (eK_ok x0))).to ?_) (fun hb => ?_) (fun hb => ?_))
        · rw [thv]
          split <;> rename_i hz <;> simp [hz]
        · have hno : x0 ∉ o' := by simpa using hb
          rw [if_neg hno] at hstep
          refine as_seq (as_ifT (b := decide (100 ≤ o'.length)) ((et_test (EvE.to (ev_opE (x := .int ((o'.map eTh).length : Nat)) (ev_lenM rfl) ev_int rop_B0) ?_))) (fun hb2 => ?_) (fun hb2 => ?_))
          · rw [List.length_map]
            congr 1
            rw [decide_eq_decide]
            omega
          · have h100 : 100 ≤ o'.length := by simpa using hb2
            rw [if_pos h100] at hstep
            refine as_raise (ea_cons ev_str ea_nil) ⟨?_, rfl, rfl⟩
            have hr := wk_none hk hwk hstep
            rw [hr] at hw
            exact hw.symm
          · have h100 : ¬ 100 ≤ o'.length := by simpa using hb2
            rw [if_neg h100] at hstep
            refine as_next ?_
            refine as_seq (as_putN (x := eTh x0) rfl (ev_lenM rfl) (ev_var rfl) (eK_ok x0) (by rw [thv, if_neg hno]) (by rw [nmb_length, List.length_map]; omega) ?_)
            refine as_appE rfl (ev_var rfl) (by rw [List.length_map]; omega) ?_
            rw [← nmb_snoc]
            have hm : o'.map eTh ++ [eTh x0] = (o' ++ [x0]).map eTh := by rw [List.map_append]; rfl
            rw [hm]
            show AS c E _ [some (.dat (eTh first)), some (.fn F vws [eM c.A.M al one, eM c.A.M al two]), some (.dat (.int 2)), some (.ml ((o' ++ [x0]).map eTh)), some (.mn (nmb ((o' ++ [x0]).map eTh))), some (.ml (rs.map eIs)), some (.dat (eTh th)), some (.ml (((List.range k).map fun j => o'.idxOf (on th j)).map eI)), some (.dat (eI k)), some (.dat (eTh x0))] _
            refine as_appE rfl (ev_getN (x := eTh x0) (d := eI ((o' ++ [x0]).idxOf x0)) rfl (ev_var rfl) (eK_ok x0) (by rw [thv, if_pos (by simp)])) (by rw [List.length_map, List.length_map, List.length_range]; omega) ?_
            refine ⟨rW c al (eM c.A.M al one) (eM c.A.M al two) (eTh first) F vws (o' ++ [x0]) rs (some (.dat (eTh th))) (some (.ml (((List.range (k + 1)).map fun j => (o' ++ [x0]).idxOf (on th j)).map eI))), ?_, by omega, o' ++ [x0], ?_, ⟨fun y hy => ?_, ?_, ?_, fun r hr => ?_⟩, ⟨zs ++ [x0], by rw [hz, List.append_assoc]⟩, fun j hj => ?_, rfl⟩
            · have e1 : (List.range (k + 1)).map (fun j => (o' ++ [x0]).idxOf (on th j)) = ((List.range k).map fun j => (o' ++ [x0]).idxOf (on th j)) ++ [(o' ++ [x0]).idxOf x0] := by rw [List.range_succ, List.map_append, ← hx0]; rfl
              rw [hrow (o' ++ [x0]) ⟨[x0], rfl⟩, e1, List.map_append (f := eI)]
              exact .keep (.keep (.keep (.keep (.keep (.keep (.keep (.keep (.drop (.drop .nil)))))))))
            · rw [wk, hwk]
              exact hstep
            · rcases List.mem_append.mp hy with z | z
              · exact w'.p y z
              · rw [List.mem_singleton.mp z]; exact hpo
            · rw [List.length_append]; show _ + 1 ≤ _; omega
            · have := w'.le; rw [List.length_append]; omega
            · obtain ⟨q1, q2⟩ := w'.r r hr
              exact ⟨q1, fun s hs => by have := q2 s hs; rw [List.length_append]; omega⟩
            · by_cases e : j = k
              · subst e; rw [hx0]; simp
              · exact List.mem_append_left _ (hmem j (by omega))
        · have hno : x0 ∈ o' := by simpa using hb
          rw [if_pos hno] at hstep
          refine as_next ?_
          refine as_appE rfl (ev_getN (x := eTh x0) (d := eI (o'.idxOf x0)) rfl (ev_var rfl) (eK_ok x0) (by rw [thv, if_pos hno])) (by rw [List.length_map, List.length_map, List.length_range]; omega) ?_
          refine ⟨rW c al (eM c.A.M al one) (eM c.A.M al two) (eTh first) F vws o' rs (some (.dat (eTh th))) (some (.ml (((List.range (k + 1)).map fun j => o'.idxOf (on th j)).map eI))), ?_, by omega, o', ?_, w', ⟨zs, hz⟩, fun j hj => ?_, rfl⟩
          · have e1 : (List.range (k + 1)).map (fun j => o'.idxOf (on th j)) = ((List.range k).map fun j => o'.idxOf (on th j)) ++ [o'.idxOf x0] := by rw [List.range_succ, List.map_append, ← hx0]; rfl
            rw [e1, List.map_append (f := eI)]
            exact .keep (.keep (.keep (.keep (.keep (.keep (.keep (.keep (.drop (.drop .nil)))))))))
          · rw [wk, hwk]
            exact hstep
          · by_cases e : j = k
            · subst e; rw [hx0]; exact hno
            · exact hmem j (by omega)
      · rintro ρ ⟨_, o', hwk, w', ⟨zs, hz⟩, hmem, rfl⟩
        have e2 : (upTo 0 (Int.toNat 2)).length = 2 := by rw [upTo_length]; rfl
        rw [e2] at hwk hmem ⊢
        have hr : walkRow on o th = some (o', [o'.idxOf (on th 0), o'.idxOf (on th 1)]) := by rw [walkRow_wk, hwk]; rfl
        rw [hr] at hw
        have hlt' : rs.length < o'.length := by rw [hz, List.length_append]; omega
        obtain ⟨wn, _⟩ := walkRow_ok hon w hpt hlt hr
        refine as_frz (i := 7) rfl ?_
        refine as_appE rfl (ev_var rfl) (by rw [List.length_map]; omega) ?_
        refine ⟨rW c al (eM c.A.M al one) (eM c.A.M al two) (eTh first) F vws o' (rs ++ [[o'.idxOf (on th 0), o'.idxOf (on th 1)]]) (some (.dat (eTh th))) none, 101 - (rs ++ [[o'.idxOf (on th 0), o'.idxOf (on th 1)]]).length, ?_, by rw [List.length_append]; show 101 - (_ + 1) < _; omega, o', _, _, none, rfl, wn, ?_, rfl⟩
        · rw [show rs.map eIs ++ [D.lst (((List.range 2).map fun j => o'.idxOf (on th j)).map eI)] = (rs ++ [[o'.idxOf (on th 0), o'.idxOf (on th 1)]]).map eIs from by rw [List.map_append]; rfl]
          exact .keep (.keep (.keep (.keep (.keep (.keep (.keep (.drop (.keep (.keep .nil)))))))))
        · rw [List.length_append]
          have : 101 - (rs.length + 1) = fu := by omega
          show walk on (101 - (rs.length + 1)) _ _ = _
          rw [this]
          exact hw
    · have hge : ¬ rs.length < o.length := by simpa using hb
      have hw2 : walked on first = some (o, rs) := by
        rw [← hw]
        cases hn : 101 - rs.length with
        | zero => rfl
        | succ n => rw [walk, if_neg hge]
      refine as_frz (i := 3) rfl ?_
      refine as_frz (i := 5) rfl ?_
      exact as_retE (ev_tup (ea_cons (ev_var rfl) (ea_cons (ev_var rfl) ea_nil))) ⟨o, rs, hw2, rfl⟩
theorem run_walked (hB : c.B = none) {cl : List (Str × Addr)} {ws : List (Option V)} {vs : List V} {H : Hp} {Q : VK} (h : sp_walked c cl ws vs H Q E) : t_walked c E cl ws { nx := fun _ H' => Q .non H', rt := Q } (L2.start N_walked vs) H := by
  obtain ⟨b, al, one, two, first, G, f, F, v0, vws, rfl, rfl, ok, r0, hf, hc, hfam, rfl, rv, ⟨hal, o1, o2, hp⟩, q, qx⟩ := h
  have eB : ({ c with B := none } : Ct) = c := by cases c; cases hB; rfl
  rw [eB] at ok q qx
  refine as_walked (c := c) (E := E) hal o1 o2 hfam hp G H _ G H ⟨.refl ok, rfl, fun i cl e => ?_, fun i j ci cj n e1 e2 m1 m2 => ?_⟩ _ (fun _ _ _ _ z => z.elim) (fun d v G' H' pd st _ rd => ?_) fun C s d G' H' xc st ex => ?_
  · match i, e with
    | 0, e => cases e; exact ⟨v0, rfl, r0⟩
    | 1, e => cases e; exact ⟨.ref f, rfl, f, rfl, hf, hc, rv⟩
    | 2, e => cases e; exact ⟨.int 2, rfl, .int 2⟩
    | 3, e => cases e
    | 4, e => cases e
    | 5, e => cases e
    | 6, e => cases e
    | 7, e => cases e
    | 8, e => cases e
    | 9, e => cases e
    | n + 10, e => cases e
  · match i, e1 with
    | 0, e => cases e; cases m1
    | 1, e => cases e; cases m1
    | 2, e => cases e; cases m1
    | 3, e => cases e
    | 4, e => cases e
    | 5, e => cases e
    | 6, e => cases e
    | 7, e => cases e
    | 8, e => cases e
    | 9, e => cases e
    | n + 10, e => cases e
  · obtain ⟨o, r, hw, rfl⟩ := pd
    exact q o r v G' H' hw st rd
  · obtain ⟨hw, rfl, rfl⟩ := xc
    exact qx d G' H' hw st ex
end
end Fx
/-! text FxComp -/
namespace Fx
open PySem L2 Evl PyProof.Rows Mir NdefX

/-! ### plain facts of composing -/
theorem small_40 {m s : Mc} (ok : McOk 100 m) (h : smallP m = some s) : McOk 40 s := by
  have hs : (leastP m).l.length ≤ 40 ∧ (leastP m).r.length ≤ 40 ∧ s = leastP m := by
    have h' : (if (leastP m).l.length > 40 ∨ (leastP m).r.length > 40 then none else some (leastP m)) = some s := h
    split at h'
    · cases h'
    · rename_i hn
      exact ⟨by omega, by omega, (Option.some.inj h').symm⟩
  obtain ⟨h1, h2, rfl⟩ := hs
  have l := least_ok ok
  exact ⟨l.l1, h1, l.r1, h2, l.lo, l.ro, l.t1, l.t2⟩
theorem small_none {m : Mc} (h : (leastP m).l.length > 40 ∨ (leastP m).r.length > 40) : smallP m = none := by
  show (if (leastP m).l.length > 40 ∨ (leastP m).r.length > 40 then none else some (leastP m)) = none
  rw [if_pos h]
theorem small_some {m : Mc} (h : ¬ ((leastP m).l.length > 40 ∨ (leastP m).r.length > 40)) : smallP m = some (leastP m) := by
  show (if (leastP m).l.length > 40 ∨ (leastP m).r.length > 40 then none else some (leastP m)) = _
  rw [if_neg h]
def fstL (one : Mc) : Th := (0, List.replicate one.r.length 0)
def fstR (one : Mc) : Th := (0, List.replicate one.l.length 0)
abbrev compT (one two : Mc) (fs bs : List Th) (l r : List (List Nat)) : Mc := ⟨l, r, fs.map fun p => bs.map fun q => toldP one two p q⟩
theorem composeP_eq (a b : Mc) : composeP a b = (walked (leftOn (leastP a) (leastP b)) (fstL (leastP a))).bind fun x => (walked (rightOn (leastP a) (leastP b)) (fstR (leastP a))).bind fun y => smallP (compT (leastP a) (leastP b) x.1 y.1 x.2 y.2) := rfl
theorem fst_ok {one two : Mc} (o1 : McOk 40 one) (o2 : McOk 40 two) (b : Bool) : thOkOf b one two (if b then fstR one else fstL one) := by
  have h1 := o1.l1
  have h2 := o1.r1
  cases b with
  | false => exact ⟨h1, by simp [fstL], fun s hs => by have : s = 0 := (List.mem_replicate.mp hs).2; subst this; exact o2.l1⟩
  | true => exact ⟨h2, by simp [fstR], fun s hs => by have : s = 0 := (List.mem_replicate.mp hs).2; subst this; exact o2.r1⟩
theorem told_ok {al : Al} {one two : Mc} {p q : Th} (h : TwOk (al, one, two, p, q)) : WOk (toldP one two p q) := by
  have l : ∀ k, k < 2 → letterP one two p q k < 2 := fun k hk => by
    have hw := (h.one.tab.cell h.p.a h.q.a).2
    have a1 : nth one.r k q.1 < p.2.length := by rw [h.p.b]; exact nth_lt h.one.ro h.q.a k hk
    have b1 : nth one.l k p.1 < q.2.length := by rw [h.q.b]; exact nth_lt h.one.lo h.p.a k hk
    exact (h.two.tab.cell (h.p.c _ (getD_mem a1)) (h.q.c _ (getD_mem b1))).2.at (hw.at hk)
  refine ⟨rfl, fun k hk => ?_⟩
  rcases List.mem_cons.mp hk with z | z
  · rw [z]; exact l 0 (by decide)
  · rw [List.mem_singleton.mp z]; exact l 1 (by decide)
theorem compT_ok {al : Al} (hal : al ∈ Als) {one two : Mc} (o1 : McOk 40 one) (o2 : McOk 40 two) {fs bs : List Th} {l r : List (List Nat)} (hf : walked (leftOn one two) (fstL one) = some (fs, l)) (hb : walked (rightOn one two) (fstR one) = some (bs, r)) :
    McOk 100 (compT one two fs bs l r) ∧ (∀ p ∈ fs, ThOk one.l.length one.r.length two.l.length p) ∧ (∀ q ∈ bs, ThOk one.r.length one.l.length two.r.length q) ∧ fs.length ≤ 100 ∧ bs.length ≤ 100 := by
  obtain ⟨wf, lf, nf⟩ := walked_ok (P := thOkOf false one two) (onOf_ok (b := false) o1 o2) (fst_ok o1 o2 false) hf
  obtain ⟨wb, lb, nb⟩ := walked_ok (P := thOkOf true one two) (onOf_ok (b := true) o1 o2) (fst_ok o1 o2 true) hb
  refine ⟨⟨?_, ?_, ?_, ?_, ⟨rfl, ?_⟩, ⟨rfl, ?_⟩, ?_, ?_⟩, wf.p, wb.p, wf.l, wb.l⟩
  · show 1 ≤ l.length; omega
  · show l.length ≤ 100; have := wf.l; omega
  · show 1 ≤ r.length; omega
  · show r.length ≤ 100; have := wb.l; omega
  · intro x hx; obtain ⟨a, b⟩ := wf.r x hx; exact ⟨a, fun s hs => by show s < l.length; rw [lf]; exact b s hs⟩
  · intro x hx; obtain ⟨a, b⟩ := wb.r x hx; exact ⟨a, fun s hs => by show s < r.length; rw [lb]; exact b s hs⟩
  · show (fs.map _).length = l.length; rw [List.length_map, lf]
  · intro row hrow
    obtain ⟨p, hp, rfl⟩ := List.mem_map.mp hrow
    refine ⟨by show (bs.map _).length = r.length; rw [List.length_map, lb], fun w hw => ?_⟩
    obtain ⟨q, hq, rfl⟩ := List.mem_map.mp hw
    exact told_ok (al := al) ⟨hal, o1, o2, wf.p p hp, wb.p q hq⟩
theorem compose_40 {al : Al} (hal : al ∈ Als) {a b m : Mc} (oa : McOk 40 a) (ob : McOk 40 b) (h : composeP a b = some m) : McOk 40 m := by
  rw [composeP_eq] at h
  obtain ⟨⟨fs, l⟩, h1, h⟩ := Option.bind_eq_some_iff.mp h
  obtain ⟨⟨bs, r⟩, h2, h⟩ := Option.bind_eq_some_iff.mp h
  exact small_40 (compT_ok hal (least_ok oa) (least_ok ob) h1 h2).1 h
section
variable {c : Ct} {E : XK} {ρ : Env} {te ta tb : TE}
theorem as_small_machine (i : Al × Mc) (h : i.1 ∈ Als ∧ McOk 100 i.2) : AS c E (t_small_machine c E) (entry N_small_machine [.str (alS i.1), .str (alS i.1), eRows i.2.l, eRows i.2.r, eTab i.1 i.2.t])
    { nx := fun _ => False, rt := fun d => ∃ m, smallP i.2 = some m ∧ d = eM c.A.M i.1 m, ex := fun C s => smallP i.2 = none ∧ C = c.A.ME ∧ s = tooMany } := by
  obtain ⟨al, m⟩ := i
  obtain ⟨hal, ok⟩ := h
  have hal : al ∈ Als := hal
  have ok : McOk 100 m := ok
  have lo := least_ok ok
  refine as_seq (as_asg (ev_callE (f := fun i : Al × Mc => .tup [eRows (leastP i.2).l, eRows (leastP i.2).r, eTab i.1 (leastP i.2).t]) (al, m) (ea_cons (ev_var rfl) (ea_cons (ev_var rfl) (ea_cons (ev_var rfl) (ea_cons (ev_alLen (ev_var rfl)) ea_nil)))) ⟨hal, ok⟩) eg_tup3 ?_)
  show AS c E _ [some (.dat (.str (alS al))), some (.dat (.str (alS al))), some (.dat (eRows m.l)), some (.dat (eRows m.r)), some (.dat (eTab al m.t)), some (.dat (eRows (leastP m).l)), some (.dat (eRows (leastP m).r)), some (.dat (eTab al (leastP m).t))] _
  refine as_seq (as_ifT (b := decide ((leastP m).l.length > 40) || decide ((leastP m).r.length > 40)) (et_or (et_test (EvE.to (ev_opE (ev_rowsLen (ev_var rfl)) ev_int rop_B0) ?_)) fun _ => et_test (EvE.to (ev_opE (ev_rowsLen (ev_var rfl)) ev_int rop_B0) ?_)) (fun hb => ?_) fun hb => ?_)
  · congr 1; rw [decide_eq_decide]; omega
  · congr 1; rw [decide_eq_decide]; omega
  · refine as_raise (ea_cons ev_str ea_nil) ⟨small_none ?_, rfl, rfl⟩
    simpa using hb
  · have hn : ¬ ((leastP m).l.length > 40 ∨ (leastP m).r.length > 40) := by
      have := hb
      simp only [Bool.or_eq_false_iff, decide_eq_false_iff_not] at this
      omega
    refine as_next ?_
    exact as_retE (ev_make (al, leastP m) (ea_cons (ev_var rfl) (ea_cons (ev_var rfl) (ea_cons (ev_var rfl) (ea_cons (ev_var rfl) (ea_cons (ev_var rfl) ea_nil))))) ⟨hal, small_40 ok (small_some hn)⟩) ⟨leastP m, small_some hn, rfl⟩

/-! ### compose -/
theorem evx_callW {b : Bool} {al : Al} {one two : Mc} {first : Th} {F : NF} {j1 j2 i : Nat} {tl : TE} (h1 : ρ[j1]? = some (some (.dat (eM c.A.M al one)))) (h2 : ρ[j2]? = some (some (.dat (eM c.A.M al two)))) (hi : ρ[i]? = some (some (.fn F [] []))) (hfam : Fam b F) (ha : EvE c ta ρ (eTh first)) (hl : EvE c tl ρ (.int 2))
    (hal : al ∈ Als) (o1 : McOk 40 one) (o2 : McOk 40 two) (hp : thOkOf b one two first) : EvX c E (tCallW [j1, j2] (sp_walked c F.cl) E (tCons ta (tCons (tVar i) (tCons tl tNil)))) ρ (fun d => ∃ o r, walked (onOf b one two) first = some (o, r) ∧ d = .tup [.lst (o.map eTh), eRows r])
      (fun C s => walked (onOf b one two) first = none ∧ C = c.A.ME ∧ s = tooMany) := fun G0 H0 σ G H r Q q qx => by
  refine ha _ _ _ _ _ r _ fun x v0 G1 H1 kx s1 rx => ?_
  subst kx
  have r1 := r.stp s1
  obtain ⟨v, e1, f, rfl, hf, hc, _⟩ := r1.slot i _ hi
  refine ⟨_, e1, ?_⟩
  refine hl _ _ _ _ _ r1 _ fun y u G2 H2 ky s2 ry => ?_
  subst ky
  cases ry
  have r2 := r1.stp s2
  obtain ⟨v1, e2, x1⟩ := r2.dat h1
  obtain ⟨v2, e3, x2⟩ := r2.dat h2
  have m2 := s2.hh f _ (r1.ok.nbF hf fun _ z => by unfold NdefX.FnO at z; cases z) NdefX.fnO_ne hf
  have m3 := s2.hh F.c _ (r1.ok.nbF hc fun _ z => by unfold LamX.CodeO at z; cases z) (fun _ z => by unfold LamX.CodeO at z; cases z) hc
  refine ⟨b, al, one, two, first, G2, f, F, v0, [v1, v2], rfl, ?_, s2.ok.noB, rx.up s2.gg, m2, m3, hfam, rfl, .cons x1 (.cons x2 .nil), ⟨hal, o1, o2, hp⟩, fun o rr v G' H' hw s3 rd => ?_, fun d G' H' hw s3 ex => ?_⟩
  · show [slotAt σ j1, slotAt σ j2] = _
    rw [slotAt_of e2, slotAt_of e3]
    rfl
  · exact q _ v G' H' ⟨o, rr, hw, rfl⟩ ((s1.trans s2).trans (s3.withB s2.ok)) rd
  · exact qx _ _ d G' H' ⟨hw, rfl, rfl⟩ ((s1.trans s2).trans (s3.withB s2.ok)) ex
theorem ev_zeros {n : Nat} {rows : List (List Nat)} {j : Nat} (h : EvE c te ρ (eRows rows)) (e : rows.length = n) (hz : n ≤ 100000) : EvE c (tTup (tCons (tC (.int 0)) (tCons (tCB (rTupF c.K) (tCons (tLc (iList c.K te) (gName j) tYes (tC (.int 0)) [j]) tNil)) tNil))) ρ (eTh (0, List.replicate n 0)) := by
  have h1 := ev_lc1 (xs := rows) (e := eIs) (g := fun _ => eI 0) (j := j) (te := tC (.int 0)) (ei_list h) (by omega) fun _ _ _ => ev_int
  have e1 : rows.map (fun _ => eI 0) = (List.replicate n 0).map eI := by rw [List.map_const', e, List.map_replicate]
  rw [e1] at h1
  exact ev_tup (ea_cons ev_int (ea_cons (ev_cbE (ea_cons h1 ea_nil) rcl_tupL) ea_nil))
theorem as_compose (hM : MOk c) {cl1 cl2 : List (Str × Addr)} (i : Al × Mc × Mc) (h : i.1 ∈ Als ∧ McOk 40 i.2.1 ∧ McOk 40 i.2.2) : AS c E (t_compose c E cl1 cl2) (entry N_compose [eM c.A.M i.1 i.2.1, eM c.A.M i.1 i.2.2])
    { nx := fun _ => False, rt := fun d => ∃ m, composeP i.2.1 i.2.2 = some m ∧ d = eM c.A.M i.1 m, ex := fun C s => composeP i.2.1 i.2.2 = none ∧ C = c.A.ME ∧ s = tooMany } := by
  obtain ⟨al, a, b⟩ := i
  obtain ⟨hal, oa, ob⟩ := h
  have hal : al ∈ Als := hal
  have oa : McOk 40 a := oa
  have ob : McOk 40 b := ob
  show AS c E _ _ { nx := fun _ => False, rt := fun d => ∃ m, composeP a b = some m ∧ d = eM c.A.M al m, ex := fun C s => composeP a b = none ∧ C = c.A.ME ∧ s = tooMany }
  rw [composeP_eq]
  refine as_seq (as_ifT (b := false) (et_test (EvE.to (ev_opE (ev_writes hM (ev_var (i := 0) rfl)) (ev_reads hM (ev_var (i := 1) rfl)) rop_neS) (by simp))) (fun z => by cases z) fun _ => as_next ?_)
  refine as_seq (as_setE (ev_callE (f := fun i : Al × Mc => eM c.A.M i.1 (leastP i.2)) (al, a) (ea_cons (ev_var rfl) ea_nil) ⟨hal, oa⟩) ?_)
  refine as_seq (as_setE (ev_callE (f := fun i : Al × Mc => eM c.A.M i.1 (leastP i.2)) (al, b) (ea_cons (ev_var rfl) ea_nil) ⟨hal, ob⟩) ?_)
  have o1 := least_ok oa
  have o2 := least_ok ob
  show AS c E _ [some (.dat (eM c.A.M al a)), some (.dat (eM c.A.M al b)), some (.dat (eM c.A.M al (leastP a))), some (.dat (eM c.A.M al (leastP b))), none, none, none, none, none, none, none, none, none, none, none] _
  generalize leastP a = one at o1 ⊢
  generalize leastP b = two at o2 ⊢
  refine as_seq (as_setE (ev_alLen (ev_reads hM (ev_var rfl))) ?_)
  refine as_seq (as_ndef (fun _ => rfl) fun cL => ?_)
  refine as_seq (as_ndef (fun _ => rfl) fun cR => ?_)
  generalize hFL : NF.of sLf "onward_left" ((("compose" : Str) ++ ".<locals>.") ++ "onward_left") cl1 cL = FL
  generalize hFR : NF.of sRt "onward_right" ((("compose" : Str) ++ ".<locals>.") ++ "onward_right") cl2 cR = FR
  have famL : Fam false FL := by rw [← hFL]; rfl
  have famR : Fam true FR := by rw [← hFR]; rfl
  have eL : cl1 = FL.cl := by rw [← hFL]; rfl
  have eR : cl2 = FR.cl := by rw [← hFR]; rfl
  rw [eL, eR]
  have rN := o1.rN
  have lN := o1.lN
  show AS c E _ [some (.dat (eM c.A.M al a)), some (.dat (eM c.A.M al b)), some (.dat (eM c.A.M al one)), some (.dat (eM c.A.M al two)), some (.dat (.int 2)), some (.fn FL [] []), some (.fn FR [] []), none, none, none, none, none, none, none, none] _
  refine as_seq (as_asgX (evx_callW (b := false) (first := fstL one) rfl rfl rfl famL (ev_zeros (ev_right hM (ev_var rfl)) rfl (by omega)) (ev_var rfl) hal o1 o2 (fst_ok o1 o2 false)) (fun d hd => ?_) fun C s hx => ?_)
  · obtain ⟨fs, l, hf, rfl⟩ := hd
    have hf : walked (leftOn one two) (fstL one) = some (fs, l) := hf
    rw [hf]
    refine ⟨_, _, eg_tup2, ?_⟩
    show AS c E _ [some (.dat (eM c.A.M al a)), some (.dat (eM c.A.M al b)), some (.dat (eM c.A.M al one)), some (.dat (eM c.A.M al two)), some (.dat (.int 2)), some (.fn FL [] []), some (.fn FR [] []), some (.dat (.lst (fs.map eTh))), some (.dat (eRows l)), none, none, none, none, none, none] _
    refine as_seq (as_asgX (evx_callW (b := true) (first := fstR one) rfl rfl rfl famR (ev_zeros (ev_left hM (ev_var rfl)) rfl (by omega)) (ev_var rfl) hal o1 o2 (fst_ok o1 o2 true)) (fun d hd => ?_) fun C s hx => ?_)
    · obtain ⟨bs, r, hb, rfl⟩ := hd
      have hb : walked (rightOn one two) (fstR one) = some (bs, r) := hb
      rw [hb]
      obtain ⟨okT, pf, pb, lf, lb⟩ := compT_ok hal o1 o2 hf hb
      refine ⟨_, _, eg_tup2, ?_⟩
      refine as_seq (as_new ea_nil (by simp) ?_)
      show AS c E _ [some (.dat (eM c.A.M al a)), some (.dat (eM c.A.M al b)), some (.dat (eM c.A.M al one)), some (.dat (eM c.A.M al two)), some (.dat (.int 2)), some (.fn FL [] []), some (.fn FR [] []), some (.dat (.lst (fs.map eTh))), some (.dat (eRows l)), none, some (.dat (.lst (bs.map eTh))), some (.dat (eRows r)), some (.ml []), none, none] _
      refine as_seq (as_for (ei_list (xs := fs.map eTh) (ev_var rfl)) (fun n ρ => ρ = [some (.dat (eM c.A.M al a)), some (.dat (eM c.A.M al b)), some (.dat (eM c.A.M al one)), some (.dat (eM c.A.M al two)), some (.dat (.int 2)), some (.fn FL [] []), some (.fn FR [] []), some (.dat (.lst (fs.map eTh))), some (.dat (eRows l)), none, some (.dat (.lst (bs.map eTh))), some (.dat (eRows r)), some (.ml ((fs.take n).map fun p => .lst ((bs.map fun q => toldP one two p q).map (eW al)))), none, none]) rfl ?_ ?_)
      · rintro n x ρ hx rfl
        obtain ⟨p, hp, rfl⟩ := map_get hx
        refine ⟨_, _, eg_name, ?_⟩
        show AS c E _ [some (.dat (eM c.A.M al a)), some (.dat (eM c.A.M al b)), some (.dat (eM c.A.M al one)), some (.dat (eM c.A.M al two)), some (.dat (.int 2)), some (.fn FL [] []), some (.fn FR [] []), some (.dat (.lst (fs.map eTh))), some (.dat (eRows l)), none, some (.dat (.lst (bs.map eTh))), some (.dat (eRows r)), some (.ml ((fs.take n).map fun p => .lst ((bs.map fun q => toldP one two p q).map (eW al)))), some (.dat (eTh p)), none] _
        refine as_appE rfl (lst_of (List.map_map (f := fun q => toldP one two p q) (g := eW al)).symm (ev_lc1 (xs := bs) (e := eTh) (g := fun q => eW al (toldP one two p q)) (ei_list (ev_var rfl)) (by omega) fun m q hq => ?_)) (by rw [List.length_map]; have := List.length_take_le' n fs; omega) ?_
        · exact ev_callE (f := fun i : Al × Mc × Mc × Th × Th => eW i.1 (toldP i.2.1 i.2.2.1 i.2.2.2.1 i.2.2.2.2)) (al, one, two, p, q) (ea_cons (ev_var rfl) (ea_cons (ev_var rfl) (ea_cons (ev_var rfl) (ea_cons (ev_var rfl) ea_nil)))) ⟨hal, o1, o2, pf p (List.mem_of_getElem? hp), pb q (List.mem_of_getElem? hq)⟩
        · refine ⟨_, .keep (.keep (.keep (.keep (.keep (.keep (.keep (.keep (.keep (.keep (.keep (.keep (.keep (.drop (.keep .nil)))))))))))))), ?_⟩
          rw [take_snoc hp, List.map_append]
          rfl
      · rintro ρ rfl
        rw [List.length_map, List.take_length]
        refine as_frz (i := 12) rfl ?_
        refine as_retX (evx_call (al, compT one two fs bs l r) (ea_cons (ev_reads hM (ev_var rfl)) (ea_cons (ev_writes hM (ev_var rfl)) (ea_cons (ev_var rfl) (ea_cons (ev_var rfl) (ea_cons ((ev_var rfl : EvE c _ _ (.lst (fs.map fun p => .lst ((bs.map fun q => toldP one two p q).map (eW al))))).to ?_) ea_nil))))) ⟨hal, okT⟩) (fun d hd => hd) fun C s hx => hx
        show D.lst _ = D.lst (List.map _ (List.map _ fs))
        rw [List.map_map]
        rfl
    · obtain ⟨hn, h1, h2⟩ := hx
      have hn : walked (rightOn one two) (fstR one) = none := hn
      exact ⟨by rw [hn]; rfl, h1, h2⟩
  · obtain ⟨hn, h1, h2⟩ := hx
    have hn : walked (leftOn one two) (fstL one) = none := hn
    exact ⟨by rw [hn]; rfl, h1, h2⟩
end
end Fx
/-! text FxComp2 -/
namespace Fx
open PySem L2 Evl PyProof.Rows Mir NdefX

theorem foldlM_snoc {α β : Type} (f : β → α → Option β) (xs : List α) (x : α) (a : β) : (xs ++ [x]).foldlM f a = (xs.foldlM f a).bind fun w => f w x := by
  rw [List.foldlM_append]
  show (xs.foldlM f a).bind _ = _
  congr 1
  funext w
  show (f w x).bind _ = _
  cases f w x <;> rfl
theorem foldlM_none {α β : Type} {f : β → α → Option β} {xs : List α} {a : β} {i : Nat} (h : (xs.take i).foldlM f a = none) : xs.foldlM f a = none := by
  rw [← List.take_append_drop i xs, List.foldlM_append, h]
  rfl
theorem cut_tail (x : D) (xs : List D) : cutD (x :: xs) (some 1) none = xs := by
  unfold cutD
  rw [show HT.sIx (x :: xs).length 0 (some 1) = 1 from by rw [show (1 : Int) = ((1 : Nat) : Int) from rfl, HT.sIx_nat, List.length_cons]; omega, HT.sIx_none, List.length_cons]
  show xs.take (xs.length + 1 - 1) = xs
  rw [Nat.add_sub_cancel, List.take_length]
/-! ### forms -/
theorem pl_str {al : Al} (h : al ∈ Als) {n : Nat} {w : List Nat} (hw : ∀ k ∈ w, k < 2) : Pl n (.str (wS al w)) := by
  have hal : ∀ a ∈ Als, a.1 < 0x110000 ∧ a.2 < 0x110000 := by decide
  obtain ⟨h1, h2⟩ := hal al h
  have : PyData.strOk (wS al w) = true := by
    unfold PyData.strOk wS
    rw [Array.all_eq_true]
    intro i hi
    simp only [List.getElem_toArray, List.getElem_map, decide_eq_true_eq]
    unfold lt
    split
    · exact h1
    · exact h2
  cases n <;> exact this
theorem pl_alS {al : Al} (h : al ∈ Als) {n : Nat} : Pl n (.str (alS al)) := pl_str h (by simp)
theorem pl_form {al : Al} (h : al ∈ Als) {m : Mc} (ok : McOk 40 m) : Pl 3 (eF al m) := by
  intro d hd
  simp only [List.mem_cons, List.not_mem_nil, or_false] at hd
  rcases hd with rfl | rfl | rfl | rfl | rfl
  · exact pl_alS h
  · exact pl_alS h
  · intro r hr
    obtain ⟨x, hx, rfl⟩ := List.mem_map.mp hr
    intro s hs
    obtain ⟨y, hy, rfl⟩ := List.mem_map.mp hs
    exact pl_int
  · intro r hr
    obtain ⟨x, hx, rfl⟩ := List.mem_map.mp hr
    intro s hs
    obtain ⟨y, hy, rfl⟩ := List.mem_map.mp hs
    exact pl_int
  · intro r hr
    obtain ⟨x, hx, rfl⟩ := List.mem_map.mp hr
    intro s hs
    obtain ⟨y, hy, rfl⟩ := List.mem_map.mp hs
    exact pl_str h ((ok.t2 x hx).2 y hy).2
theorem rows_inj {f : List D → D} (hf : ∀ x y, f x = f y → x = y) {a b : List (List Nat)} (h : a.map (fun r => f (r.map eI)) = b.map fun r => f (r.map eI)) : a = b :=
  map_inj_on (fun x _ y _ e => ints_inj (hf _ _ e)) h
theorem tab_inj {f : List D → D} (hf : ∀ x y, f x = f y → x = y) {al : Al} (h : al ∈ Als) {a b : List (List (List Nat))} (ha : ∀ r ∈ a, ∀ w ∈ r, WOk w) (hb : ∀ r ∈ b, ∀ w ∈ r, WOk w) (e : a.map (fun r => f (r.map (eW al))) = b.map fun r => f (r.map (eW al))) : a = b :=
  map_inj_on (fun x hx y hy e => map_inj_on (fun u hu v hv z => eW_inj h (ha x hx u hu) (hb y hy v hv) z) (hf _ _ e)) e
theorem tup_inj : ∀ x y : List D, D.tup x = D.tup y → x = y := fun x y e => by injection e
theorem lst_inj : ∀ x y : List D, D.lst x = D.lst y → x = y := fun x y e => by injection e
theorem form_inj {al : Al} (h : al ∈ Als) {a b : Mc} (oa : McOk 40 a) (ob : McOk 40 b) : eF al a = eF al b ↔ a = b := by
  refine ⟨fun e => ?_, fun e => by rw [e]⟩
  injection e with e
  injection e with _ e
  injection e with _ e
  injection e with e1 e
  injection e with e2 e
  injection e with e3 _
  have l1 := rows_inj tup_inj (tup_inj _ _ e1)
  have l2 := rows_inj tup_inj (tup_inj _ _ e2)
  have l3 := tab_inj tup_inj h (fun r hr => (oa.t2 r hr).2) (fun r hr => (ob.t2 r hr).2) (tup_inj _ _ e3)
  cases a
  cases b
  simp only at l1 l2 l3
  rw [l1, l2, l3]
section
variable {c : Ct} {E : XK} {ρ : Env} {te ta tb : TE}
theorem cascade_40 {al : Al} (hal : al ∈ Als) : ∀ {ms : List Mc} {a w : Mc}, (∀ m ∈ ms, McOk 40 m) → McOk 40 a → ms.foldlM (fun w m => composeP w m) a = some w → McOk 40 w
  | [], a, w, _, oa, h => by cases h; exact oa
  | m :: ms, a, w, hm, oa, h => by
    rw [List.foldlM_cons] at h
    obtain ⟨x, h1, h2⟩ := Option.bind_eq_some_iff.mp h
    exact cascade_40 hal (fun y hy => hm y (List.mem_cons_of_mem _ hy)) (compose_40 hal oa (hm m List.mem_cons_self) h1) h2
theorem cascadeP_40 {al : Al} (hal : al ∈ Als) {ms : List Mc} {w : Mc} (hm : ∀ m ∈ ms, McOk 40 m) (h : cascadeP ms = some w) : McOk 40 w := by
  cases ms with
  | nil => cases h; exact id_ok
  | cons m ms => exact cascade_40 hal (fun y hy => hm y (List.mem_cons_of_mem _ hy)) (least_ok (hm m List.mem_cons_self)) h
theorem as_cascade (hM : MOk c) (i : Al × List Mc) (h : i.1 ∈ Als ∧ i.2 ≠ [] ∧ i.2.length ≤ 6 ∧ ∀ m ∈ i.2, McOk 40 m) : AS c E (t_cascade c E) (entry N_cascade [.lst (i.2.map (eM c.A.M i.1))])
    { nx := fun _ => False, rt := fun d => ∃ m, cascadeP i.2 = some m ∧ d = eM c.A.M i.1 m, ex := fun C s => cascadeP i.2 = none ∧ C = c.A.ME ∧ s = tooMany } := by
  obtain ⟨al, ms⟩ := i
  obtain ⟨hal, hne, hlen, hm⟩ := h
  have hal : al ∈ Als := hal
  have hlen : ms.length ≤ 6 := hlen
  obtain ⟨m0, mr, rfl⟩ := List.exists_cons_of_ne_nil hne
  have hm : ∀ m ∈ m0 :: mr, McOk 40 m := hm
  have h0 := hm m0 List.mem_cons_self
  refine as_seq (as_setE (ev_callE (f := fun i : Al × Mc => eM c.A.M i.1 (leastP i.2)) (al, m0) (ea_cons (ev_opE (ev_var rfl) ev_int (rop_ixL (d := eM c.A.M al m0) (show L2.atI _ ((0 : Nat) : Int) = _ from at_nat rfl))) ea_nil) ⟨hal, h0⟩) ?_)
  refine as_seq (as_for (ei_list (xs := mr.map (eM c.A.M al)) ((ev_slL (ds := eM c.A.M al m0 :: mr.map (eM c.A.M al)) (ev_var rfl) (eo_some ev_int) eo_none : EvE c _ _ _).to (by rw [cut_tail])))
    (fun n ρ => ∃ w, (mr.take n).foldlM (fun w m => composeP w m) (leastP m0) = some w ∧ McOk 40 w ∧ ρ = [some (.dat (.lst ((m0 :: mr).map (eM c.A.M al)))), some (.dat (eM c.A.M al w)), none]) ⟨leastP m0, rfl, least_ok h0, rfl⟩ ?_ ?_)
  · rintro n x ρ hx ⟨w, hw, ow, rfl⟩
    obtain ⟨m, hmm, rfl⟩ := map_get hx
    have om := hm m (List.mem_cons_of_mem _ (List.mem_of_getElem? hmm))
    refine ⟨_, _, eg_name, ?_⟩
    refine as_setX (evx_call (al, w, m) (ea_cons (ev_var rfl) (ea_cons (ev_var rfl) ea_nil)) ⟨hal, ow, om⟩) (fun d hd => ?_) fun C s hx => ?_
    · obtain ⟨w2, h2, rfl⟩ := hd
      exact ⟨_, .keep (.keep (.drop .nil)), w2, by rw [take_snoc hmm, foldlM_snoc, hw]; exact h2, compose_40 hal ow om h2, rfl⟩
    · obtain ⟨h1, h2, h3⟩ := hx
      refine ⟨?_, h2, h3⟩
      show (mr.foldlM (fun w m => composeP w m) (leastP m0)) = none
      refine foldlM_none (i := n + 1) ?_
      rw [take_snoc hmm, foldlM_snoc, hw]
      exact h1
  · rintro ρ ⟨w, hw, ow, rfl⟩
    rw [List.length_map, List.take_length] at hw
    exact as_retE (ev_var rfl) ⟨w, hw, rfl⟩
theorem as_both_orders (hM : MOk c) (i : Al × Mc × Mc) (h : i.1 ∈ Als ∧ McOk 40 i.2.1 ∧ McOk 40 i.2.2) : AS c E (t_both_orders c E) (entry N_both_orders [eM c.A.M i.1 i.2.1, eM c.A.M i.1 i.2.2])
    { nx := fun _ => False, rt := fun d => ∃ a b, composeP i.2.1 i.2.2 = some a ∧ composeP i.2.2 i.2.1 = some b ∧ d = .tup [eM c.A.M i.1 a, eM c.A.M i.1 b], ex := fun C s => (composeP i.2.1 i.2.2 = none ∨ composeP i.2.2 i.2.1 = none) ∧ C = c.A.ME ∧ s = tooMany } := by
  obtain ⟨al, a, b⟩ := i
  obtain ⟨hal, oa, ob⟩ := h
  refine as_seq (as_ifT (b := false) (et_test (EvE.to (ev_opE (ev_lenSet4 (ev_reads hM (ev_var (i := 0) rfl)) (ev_writes hM (ev_var (i := 0) rfl)) (ev_reads hM (ev_var (i := 1) rfl)) (ev_writes hM (ev_var (i := 1) rfl))) ev_int rop_neI) rfl)) (fun z => by cases z) fun _ => as_next ?_)
  refine as_retX (k := fun d => ∃ x y, composeP a b = some x ∧ composeP b a = some y ∧ d = .tup [eM c.A.M al x, eM c.A.M al y]) (x := fun C s => (composeP a b = none ∨ composeP b a = none) ∧ C = c.A.ME ∧ s = tooMany)
    (evx_tup2 (k := fun d => ∃ m, composeP a b = some m ∧ d = eM c.A.M al m) ((evx_call (al, a, b) (ea_cons (ev_var rfl) (ea_cons (ev_var rfl) ea_nil)) ⟨hal, oa, ob⟩).imp (fun d hd => hd) fun C s hx => ⟨.inl hx.1, hx.2⟩) fun d hd => ((evx_call (al, b, a) (ea_cons (ev_var rfl) (ea_cons (ev_var rfl) ea_nil)) ⟨hal, ob, oa⟩).imp (fun e he => ?_) fun C s hx => ⟨.inr hx.1, hx.2⟩)) (fun d hd => hd) fun C s hx => hx
  obtain ⟨x, hx, rfl⟩ := hd
  obtain ⟨y, hy, rfl⟩ := he
  exact ⟨x, y, hx, hy, rfl⟩
theorem as_commutes (hM : MOk c) (i : Al × Mc × Mc) (h : i.1 ∈ Als ∧ McOk 40 i.2.1 ∧ McOk 40 i.2.2) : AS c E (t_commutes c E) (entry N_commutes [eM c.A.M i.1 i.2.1, eM c.A.M i.1 i.2.2])
    { nx := fun _ => False, rt := fun d => ∃ a b, composeP i.2.1 i.2.2 = some a ∧ composeP i.2.2 i.2.1 = some b ∧ d = .bl (decide (a = b)), ex := fun C s => (composeP i.2.1 i.2.2 = none ∨ composeP i.2.2 i.2.1 = none) ∧ C = c.A.ME ∧ s = tooMany } := by
  obtain ⟨al, a, b⟩ := i
  obtain ⟨hal, oa, ob⟩ := h
  have hal : al ∈ Als := hal
  refine as_seq (as_asgX (evx_call (al, a, b) (ea_cons (ev_var rfl) (ea_cons (ev_var rfl) ea_nil)) ⟨hal, oa, ob⟩) (fun d hd => ?_) fun C s hx => hx)
  obtain ⟨x, y, hx, hy, rfl⟩ := hd
  have ox := compose_40 hal oa ob hx
  have oy := compose_40 hal ob oa hy
  refine ⟨_, _, eg_tup2, ?_⟩
  refine as_retE (ev_opE (ev_callE (f := fun i : Al × Mc => eF i.1 i.2) (al, x) (ea_cons (ev_var rfl) ea_nil) ⟨hal, ox⟩) (ev_callE (f := fun i : Al × Mc => eF i.1 i.2) (al, y) (ea_cons (ev_var rfl) ea_nil) ⟨hal, oy⟩) (rop_eqD (b := decide (x = y)) (pl_form hal ox) (pl_form hal oy) ?_)) ⟨x, y, hx, hy, rfl⟩
  rw [decide_eq_true_iff, form_inj hal ox oy]
theorem as_whole (i : Al × List Mc) (h : i.1 ∈ Als ∧ i.2.length ≤ 6 ∧ ∀ m ∈ i.2, McOk 40 m) : AS c E (t_whole c E) (entry N_whole [.str (alS i.1), .lst (i.2.map (eM c.A.M i.1))])
    { nx := fun _ => False, rt := fun d => ∃ m, cascadeP i.2 = some m ∧ d = eM c.A.M i.1 m, ex := fun C s => cascadeP i.2 = none ∧ C = c.A.ME ∧ s = tooMany } := by
  obtain ⟨al, ms⟩ := i
  obtain ⟨hal, hlen, hm⟩ := h
  refine as_seq (as_ifT (et_not (et_trL (ds := ms.map (eM c.A.M al)) (ev_var rfl))) (fun hb => ?_) fun hb => as_next ?_)
  · have he : ms = [] := by
      cases ms with
      | nil => rfl
      | cons a r => cases hb
    subst he
    exact as_ret (ev_callE (f := fun al => eM c.A.M al idM) al (ea_cons (ev_var rfl) ea_nil) hal) fun d hd => ⟨idM, rfl, hd⟩
  · have he : ms ≠ [] := fun z => by subst z; cases hb
    exact as_retX (evx_call (al, ms) (ea_cons (ev_var rfl) ea_nil) ⟨hal, he, hlen, hm⟩) (fun d hd => hd) fun C s hx => hx
end
end Fx
/-! text LawI -/
namespace Fx
open PySem L2 Evl PyProof.Rows NdefX Mir MirL
section
variable {c : Ct} {E : XK} {b : Addr} {ρ : Env} {te ta : TE} {al : Al} {m : Mc} {k : D → Prop}
theorem marksOf_length {α : Type} [DecidableEq α] (xs : List α) : (marksOf xs).length = xs.length := by simp [marksOf]
theorem pl_ints {n : Nat} (ns : List Nat) : Pl (n + 1) (eIs ns) := fun d hd => by
  obtain ⟨x, _, rfl⟩ := List.mem_map.mp hd
  exact pl_int
theorem as_law_classes (i : Al × List (List Nat) × List (List (List Nat))) (h : i.1 ∈ Als ∧ RowsOk i.2.1.length i.2.1 ∧ 1 ≤ i.2.1.length ∧ i.2.1.length ≤ 100 ∧ i.2.2.length = i.2.1.length ∧ ∀ r ∈ i.2.2, ∀ w ∈ r, w.length = 2 ∧ ∀ k ∈ w, k < 2) :
    AS c E (t_law_classes c) (entry N_law_classes [eRows i.2.1, eTab i.1 i.2.2]) { nx := fun _ => False, rt := fun d => d = eIs (classesL i.2.1 i.2.2) } := by
  obtain ⟨al, rows, tab⟩ := i
  obtain ⟨hal, ok, n1, nN, tl, to⟩ := h
  have nN : rows.length ≤ 100 := nN
  have tl : tab.length = rows.length := tl
  have hal : al ∈ Als := hal
  show AS c E _ [some (.dat (eRows rows)), some (.dat (eTab al tab)), none, none, none, none, none, none] _
  refine as_seq (as_setE (ev_marks (xs := tab) (e := fun r => .lst (r.map (eW al))) (n := 1) (i := 1) (j := 3) (fun x hx y hy e => map_inj (fun u hu v hv => eW_inj hal (to x hx u hu) (to y hy v hv)) (D.lst.inj e)) rfl (by decide) (by show 3 < 8; decide) (by omega) (fun x hx d hd => by obtain ⟨u, hu, rfl⟩ := List.mem_map.mp hd; exact pl_str hal (to x hx u hu).2) (by decide)) ?_)
  refine as_seq (as_for (ei_rng1 (n := (rows.length : Int) + 1) (ea_cons (ev_opE (ev_rowsLen (ev_var rfl)) ev_int rop_I0) ea_nil)) (fun i ρ => ∃ ms, ms.length = rows.length ∧ turns rows (rows.length + 1 - i) ms = classesL rows tab ∧ ρ = [some (.dat (eRows rows)), some (.dat (eTab al tab)), some (.dat (eIs ms)), none, none, none, none, none]) ⟨marksOf tab, by rw [marksOf_length, tl], rfl, rfl⟩ ?_ ?_)
  · rintro i x ρ hx ⟨ms, ml, ht, rfl⟩
    obtain ⟨hi, rfl⟩ := upTo0_get hx
    have hi : i < rows.length + 1 := by omega
    refine ⟨_, _, eg_name, ?_⟩
    show AS c E _ [some (.dat (eRows rows)), some (.dat (eTab al tab)), some (.dat (eIs ms)), none, some (.dat (eI i)), none, none, none] _
    refine as_seq (as_setE (d := .lst (((List.range rows.length).map fun s => ms.getD s 0 :: (row rows s).map fun o => ms.getD o 0).map eIs)) ?_ ?_)
    · refine EvE.to (ev_lc1 (xs := List.range rows.length) (e := eI) (g := fun s => eIs (ms.getD s 0 :: (row rows s).map fun o => ms.getD o 0)) (by rw [← upTo_map]; exact ei_rng1 (n := rows.length) (ea_cons (ev_rowsLen (ev_var rfl)) ea_nil)) (by rw [List.length_range]; omega) fun l s hs => ?_) (by rw [List.map_map]; rfl)
      have hs2 : s < rows.length := by simpa using List.mem_of_getElem? hs
      refine EvE.to (ev_opE (ev_lst (ea_cons (ev_opE (ev_var rfl) (ev_var rfl) (rop_ixL (at_ints (by omega)))) ea_nil)) (ev_lc1 (xs := row rows s) (e := eI) (g := fun o => eI (ms.getD o 0)) (ei_list (ev_opE (ev_var rfl) (ev_var rfl) (rop_ixL (at_rows hs2)))) (by rw [row_len ok hs2]; decide) fun l o ho => ev_opE (ev_var rfl) (ev_var rfl) (rop_ixL (at_ints (by rw [ml]; exact (ok.2 _ (row_mem hs2)).2 o (List.mem_of_getElem? ho))))) (rop_catL (by rw [List.length_map, row_len ok hs2]; show 1 + 2 ≤ 100000; decide))) ?_
      show D.lst _ = D.lst _
      rw [List.map_cons, List.map_map]
      rfl
    show AS c E _ [some (.dat (eRows rows)), some (.dat (eTab al tab)), some (.dat (eIs ms)), none, some (.dat (eI i)), some (.dat (.lst (((List.range rows.length).map fun s => ms.getD s 0 :: (row rows s).map fun o => ms.getD o 0).map eIs))), none, none] _
    refine as_setE (ev_marks (n := 1) (i := 5) (j := 3) (fun x _ y _ e => eIs_inj e) rfl (by decide) (by show 3 < 8; decide) (by rw [List.length_map, List.length_range]; omega) (fun x _ => pl_ints x) (by decide)) ?_
    refine ⟨_, .keep (.keep (.keep (.keep (.drop (.drop (.keep (.keep .nil))))))), _, ?_, ?_, rfl⟩
    · rw [marksOf_length, List.length_map, List.length_range]
    · rw [← ht, show rows.length + 1 - i = (rows.length + 1 - (i + 1)) + 1 by omega]
      rfl
  · rintro ρ ⟨ms, ml, ht, rfl⟩
    rw [upTo_length, show rows.length + 1 - ((rows.length : Int) + 1).toNat = 0 by omega] at ht
    exact as_retE (ev_var rfl) (by rw [← ht]; rfl)
end
end Fx
set_option maxHeartbeats 200000
/-! text Plain1 -/
namespace Fx
open Mir MirL
theorem lay_nil (rows : List (List Nat)) (side : Bool) : ∀ (n : Nat) (o : List Nat), lay rows side n o [] = o
  | 0, o => rfl
  | n + 1, o => by
    have e : cand rows side [] = [] := by cases side <;> rfl
    have e2 : addRow o [] = o := rfl
    unfold lay
    rw [e, e2, List.drop_length]
    exact lay_nil rows side n o
theorem lay_levels (rows : List (List Nat)) : ∀ (n : Nat) (o lv : List Nat), lay rows true n o lv = levels rows 2 n o lv
  | 0, o, lv => rfl
  | n + 1, o, lv => by
    cases lv with
    | nil => rw [lay_nil]; rfl
    | cons a lv =>
      have e : addLevel rows 2 o (a :: lv) = addRow o (cand rows true (a :: lv)) := addLevel_addRow rows o (a :: lv)
      show lay rows true n _ _ = levels rows 2 n (addLevel rows 2 o (a :: lv)) _
      rw [e]
      exact lay_levels rows n _ _
theorem levels_nil (rows : List (List Nat)) (n : Nat) (o : List Nat) : levels rows 2 n o [] = o := by cases n <;> rfl
theorem cand_lt {rows : List (List Nat)} (ok : RowsOk rows.length rows) {lv : List Nat} (h : ∀ s ∈ lv, s < rows.length) : ∀ s ∈ lv.map (nth rows 0) ++ lv.map (nth rows 1), s < rows.length := fun s hs => by
  rcases List.mem_append.mp hs with z | z
  · obtain ⟨t, ht, rfl⟩ := List.mem_map.mp z
    exact nth_lt ok (h _ ht) 0 (by decide)
  · obtain ⟨t, ht, rfl⟩ := List.mem_map.mp z
    exact nth_lt ok (h _ ht) 1 (by decide)
theorem levels_fuel {rows : List (List Nat)} (ok : RowsOk rows.length rows) : ∀ (n m : Nat) (o lv : List Nat), o.Nodup → (∀ s ∈ o, s < rows.length) → (∀ s ∈ lv, s ∈ o) → rows.length - o.length < n → rows.length - o.length < m → levels rows 2 n o lv = levels rows 2 m o lv
  | n, m, o, [], _, _, _, _, _ => by rw [levels_nil, levels_nil]
  | 0, _, _, _ :: _, _, _, _, h, _ => absurd h (Nat.not_lt_zero _)
  | _ + 1, 0, _, _ :: _, _, _, _, _, h => absurd h (Nat.not_lt_zero _)
  | n + 1, m + 1, o, a :: lv, nd, lt, sub, hn, hm => by
    show levels rows 2 n (addLevel rows 2 o (a :: lv)) ((addLevel rows 2 o (a :: lv)).drop o.length) = levels rows 2 m (addLevel rows 2 o (a :: lv)) ((addLevel rows 2 o (a :: lv)).drop o.length)
    rw [addLevel_addRow]
    generalize hc : (a :: lv).map (nth rows 0) ++ (a :: lv).map (nth rows 1) = cs
    have cl : ∀ s ∈ cs, s < rows.length := by rw [← hc]; exact cand_lt ok fun s hs => lt s (sub s hs)
    have hnd := addRow_nodup (xs := cs) nd
    have hlt : ∀ s ∈ addRow o cs, s < rows.length := fun s hs => by
      rcases addRow_mem.mp hs with z | z
      · exact lt s z
      · exact cl s z
    obtain ⟨zs, e⟩ := addRow_pre cs o
    cases zs with
    | nil =>
      rw [e, List.append_nil, List.drop_length, levels_nil, levels_nil]
    | cons z zs =>
      have h2 := nodup_le hnd hlt
      rw [e, List.length_append, List.length_cons] at h2
      refine levels_fuel ok n m _ _ hnd hlt (fun s hs => List.mem_of_mem_drop hs) ?_ ?_ <;> rw [e, List.length_append, List.length_cons] <;> omega
theorem firstsL_front {rows : List (List Nat)} (ok : RowsOk rows.length rows) (h1 : 1 ≤ rows.length) (h2 : rows.length ≤ 100) : firstsL rows true = front rows := by
  unfold firstsL front
  rw [lay_levels]
  exact levels_fuel ok _ _ _ _ (by simp) (by simp; omega) (by simp) (by simp; omega) (by simp; omega)
end Fx
/-! text Plain2 -/
namespace Fx
open Mir MirL
/-- a layer of the queue: its states, one after the other -/
theorem queue_layer (rows : List (List Nat)) : ∀ (lv : List Nat) (f at_ : Nat) (o : List Nat), (∀ (j : Nat) s, lv[j]? = some s → o[at_ + j]? = some s) → queue rows (lv.length + f) at_ o = queue rows f (at_ + lv.length) (addRow o (lv.flatMap (row rows)))
  | [], f, at_, o, _ => by
    rw [List.length_nil, Nat.zero_add]
    rfl
  | s :: lv, f, at_, o, h => by
    have h0 : o[at_]? = some s := h 0 s rfl
    have hlt : at_ < o.length := (List.getElem?_eq_some_iff.mp h0).1
    have hg : o.getD at_ 0 = s := by rw [List.getD_eq_getElem?_getD, h0]; rfl
    obtain ⟨zs, e⟩ := addRow_pre (row rows s) o
    rw [List.length_cons, show lv.length + 1 + f = (lv.length + f) + 1 by omega]
    show (if at_ < o.length then queue rows (lv.length + f) (at_ + 1) (addRow o (row rows (o.getD at_ 0))) else o) = _
    rw [if_pos hlt, hg, queue_layer rows lv f (at_ + 1) _ (fun j t ht => ?_), List.flatMap_cons, addRow_append, show at_ + 1 + lv.length = at_ + (lv.length + 1) by omega]
    have := h (j + 1) t (by simpa using ht)
    rw [e, List.getElem?_append_left (by have := (List.getElem?_eq_some_iff.mp this).1; omega), show at_ + 1 + j = at_ + (j + 1) by omega]
    exact this
theorem cand_flat {rows : List (List Nat)} (ok : RowsOk rows.length rows) : ∀ {lv : List Nat}, (∀ s ∈ lv, s < rows.length) → cand rows false lv = lv.flatMap (row rows)
  | [], _ => rfl
  | s :: lv, h => by
    have e := cand_flat ok (lv := lv) fun t ht => h t (List.mem_cons_of_mem _ ht)
    have e2 : row rows s = [(row rows s).getD 0 0, (row rows s).getD 1 0] := row_two ok (h s List.mem_cons_self)
    show [(row rows s).getD 0 0, (row rows s).getD 1 0] ++ cand rows false lv = row rows s ++ lv.flatMap (row rows)
    rw [e, ← e2]
theorem lay_queue {rows : List (List Nat)} (ok : RowsOk rows.length rows) : ∀ (n f at_ : Nat) (o lv : List Nat), o.Nodup → (∀ s ∈ o, s < rows.length) → o.drop at_ = lv → at_ ≤ o.length → rows.length - o.length + 1 ≤ n → rows.length - at_ + 1 ≤ f → lay rows false n o lv = queue rows f at_ o
  | n, 0, _, _, _, _, _, _, _, _, h => absurd h (by omega)
  | n, f + 1, at_, o, [], nd, lt, hd, hle, hn, hf => by
    rw [lay_nil]
    have : ¬ at_ < o.length := fun z => by
      have := congrArg List.length hd
      rw [List.length_drop, List.length_nil] at this
      omega
    show o = if at_ < o.length then _ else o
    rw [if_neg this]
  | 0, _ + 1, _, _, _ :: _, _, _, _, _, hn, _ => absurd hn (by omega)
  | n + 1, f + 1, at_, o, a :: lv, nd, lt, hd, hle, hn, hf => by
    have hl := congrArg List.length hd
    rw [List.length_drop] at hl
    have hN := nodup_le nd lt
    have sub : ∀ s ∈ a :: lv, s < rows.length := fun s hs => lt s (by rw [← hd] at hs; exact List.mem_of_mem_drop hs)
    rw [show f + 1 = (a :: lv).length + (f + 1 - (a :: lv).length) by omega, queue_layer rows (a :: lv) _ at_ o fun j s hs => by rw [← hd, List.getElem?_drop] at hs; exact hs]
    show lay rows false n (addRow o (cand rows false (a :: lv))) ((addRow o (cand rows false (a :: lv))).drop o.length) = _
    rw [cand_flat ok sub]
    have hc : ∀ s ∈ (a :: lv).flatMap (row rows), s < rows.length := fun s hs => by
      obtain ⟨t, ht, h⟩ := List.mem_flatMap.mp hs
      exact (ok.2 _ (row_mem (sub t ht))).2 s h
    generalize (a :: lv).flatMap (row rows) = cs at hc
    have hnd := addRow_nodup (xs := cs) nd
    have hlt : ∀ s ∈ addRow o cs, s < rows.length := fun s hs => by
      rcases addRow_mem.mp hs with z | z
      · exact lt s z
      · exact hc s z
    obtain ⟨zs, e⟩ := addRow_pre cs o
    have hat : at_ + (a :: lv).length = o.length := by omega
    have h2 := nodup_le hnd hlt
    rw [hat]
    cases zs with
    | nil =>
      rw [e, List.append_nil, List.drop_length, lay_nil]
      obtain ⟨g, hg⟩ : ∃ g, f + 1 - (a :: lv).length = g + 1 := ⟨f - (a :: lv).length, by omega⟩
      rw [hg]
      show o = if o.length < o.length then _ else o
      rw [if_neg (Nat.lt_irrefl _)]
    | cons z zs =>
      refine lay_queue ok n _ o.length _ _ hnd hlt rfl ?_ ?_ ?_
      · rw [e, List.length_append]; omega
      · rw [e, List.length_append, List.length_cons] at h2 ⊢
        omega
      · omega
theorem firstsL_behind {rows : List (List Nat)} (ok : RowsOk rows.length rows) (h1 : 1 ≤ rows.length) (h2 : rows.length ≤ 100) : firstsL rows false = behind rows :=
  lay_queue ok 102 (rows.length + 1) 0 [0] [0] (by simp) (by simp; omega) rfl (by simp) (by simp; omega) (by omega)
end Fx
set_option maxHeartbeats 4000000
/-! text LawJ -/
namespace Fx
open PySem L2 Evl PyProof.Rows NdefX Mir MirL
section
variable {c : Ct} {E : XK} {b : Addr} {ρ : Env} {te ta : TE} {al : Al} {m : Mc} {k : D → Prop}
theorem ev_firsts {side : Bool} (h : EvE c te ρ (eLM al m)) (hs : EvE c ta ρ (eI (if side then 1 else 0))) (hal : al ∈ Als) (ok : McOk 100 m) : EvE c (tOp (rIxL c.K) (tCall (sp_law_firsts c) [] E0 (tCons te (tCons ta tNil))) (tC (.int 0))) ρ (eIs (firstsL (if side then m.r else m.l) side)) :=
  ev_op (ka := fun d => ∃ v, d = .lst [eIs (firstsL (if side then m.r else m.l) side), .raw v]) (kb := fun _ d => d = .int 0) (ev_call (al, m, side) (ea_cons h (ea_cons hs ea_nil)) ⟨hal, ok⟩) (fun _ _ => ev_int) fun x y ⟨v, e1⟩ e2 => by
    subst e1 e2
    exact rop_ixL rfl
theorem as_law_trim (i : Al × Mc) (h : i.1 ∈ Als ∧ McOk 100 i.2) : AS c E (t_law_trim c) (entry N_law_trim [eLM i.1 i.2]) { nx := fun _ => False, rt := fun d => d = eLM i.1 (trimL i.2) } := by
  obtain ⟨al, m⟩ := i
  obtain ⟨hal, ok⟩ := h
  have hal : al ∈ Als := hal
  have ok : McOk 100 m := ok
  have kl : OrdOk m.l (firstsL m.l false) := by rw [firstsL_behind ok.lo ok.l1 ok.lN]; exact behind_ok ok.lo ok.l1
  have kr : OrdOk m.r (firstsL m.r true) := by rw [firstsL_front ok.ro ok.r1 ok.rN]; exact front_ok ok.ro ok.r1
  have hN := ok.lN
  have hM := ok.rN
  show AS c E _ [some (.dat (eLM al m)), none, none, none, none, none, none, none] _
  refine as_seq (as_setE (ev_firsts (side := false) (ev_var rfl) ev_int hal ok) ?_)
  refine as_seq (as_setE (ev_firsts (side := true) (ev_var rfl) ev_int hal ok) ?_)
  show AS c E _ [some (.dat (eLM al m)), some (.dat (eIs (firstsL m.l false))), some (.dat (eIs (firstsL m.r true))), none, none, none, none, none] _
  have e3 : trimL m = ⟨kept m.l (firstsL m.l false), kept m.r (firstsL m.r true), small m (firstsL m.l false) (firstsL m.r true)⟩ := rfl
  rw [e3]
  generalize firstsL m.l false = ls at kl
  generalize firstsL m.r true = rs at kr
  have ll := kl.le
  have rl := kr.le
  refine as_seq (as_setE (d := eRows (kept m.l ls)) (EvE.to (ev_lc1 (xs := ls) (e := eI) (g := fun s => eIs ((row m.l s).map fun o => ls.idxOf o)) (ei_list (ev_var rfl)) (by omega) fun l s hs => ?_) (by show D.lst _ = D.lst _; rw [kept, List.map_map]; rfl)) ?_)
  · have hs := List.mem_of_getElem? hs
    have sl := kl.lt s hs
    refine EvE.to (ev_lc1 (xs := row m.l s) (e := eI) (g := fun o => eI (ls.idxOf o)) (ei_list (ev_opE (lm2 (ev_var rfl)) (ev_var rfl) (rop_ixL (at_rows sl)))) (by rw [row_len ok.lo sl]; decide) fun n o ho => ?_) (by show D.lst _ = D.lst _; rw [List.map_map]; rfl)
    exact ev_idxOf (n := 0) (fun x _ y _ => eI_inj) (kl.cl s hs o (List.mem_of_getElem? ho)) (ev_var rfl) (ev_var rfl) (fun _ _ => pl_int) (by decide)
  show AS c E _ [some (.dat (eLM al m)), some (.dat (eIs ls)), some (.dat (eIs rs)), some (.dat (eRows (kept m.l ls))), none, none, none, none] _
  refine as_seq (as_setE (d := eRows (kept m.r rs)) (EvE.to (ev_lc1 (xs := rs) (e := eI) (g := fun s => eIs ((row m.r s).map fun o => rs.idxOf o)) (ei_list (ev_var rfl)) (by omega) fun l s hs => ?_) (by show D.lst _ = D.lst _; rw [kept, List.map_map]; rfl)) ?_)
  · have hs := List.mem_of_getElem? hs
    have sl := kr.lt s hs
    refine EvE.to (ev_lc1 (xs := row m.r s) (e := eI) (g := fun o => eI (rs.idxOf o)) (ei_list (ev_opE (lm3 (ev_var rfl)) (ev_var rfl) (rop_ixL (at_rows sl)))) (by rw [row_len ok.ro sl]; decide) fun n o ho => ?_) (by show D.lst _ = D.lst _; rw [List.map_map]; rfl)
    exact ev_idxOf (n := 0) (fun x _ y _ => eI_inj) (kr.cl s hs o (List.mem_of_getElem? ho)) (ev_var rfl) (ev_var rfl) (fun _ _ => pl_int) (by decide)
  show AS c E _ [some (.dat (eLM al m)), some (.dat (eIs ls)), some (.dat (eIs rs)), some (.dat (eRows (kept m.l ls))), none, none, some (.dat (eRows (kept m.r rs))), none] _
  refine as_retE (ev_lst (ea_cons (lm0 (ev_var rfl)) (ea_cons (lm1 (ev_var rfl)) (ea_cons (ev_var rfl) (ea_cons (ev_var rfl) (ea_cons (EvE.to (ev_lc1 (xs := ls) (e := eI) (g := fun s => .lst (rs.map fun j => eW al (cell m.t s j))) (ei_list (ev_var rfl)) (by omega) fun l s hs => ?_) ?_) ea_nil)))))) rfl
  · have sl := kl.lt s (List.mem_of_getElem? hs)
    refine ev_lc1 (xs := rs) (e := eI) (g := fun j => eW al (cell m.t s j)) (ei_list (ev_var rfl)) (by omega) fun n j hj => ?_
    have jl := kr.lt j (List.mem_of_getElem? hj)
    exact ev_cell ok.tab (lm4 (ev_var rfl)) (ev_var rfl) (ev_var rfl) sl jl
  · show D.lst _ = D.lst _
    rw [small, List.map_map]
    refine congrArg D.lst (List.map_congr_left fun s _ => ?_)
    show D.lst _ = D.lst _
    rw [List.map_map]
    rfl
end
end Fx
set_option maxHeartbeats 200000
/-! text Plain3 -/
namespace Fx
open Mir MirL
section
variable {α β γ : Type} [DecidableEq α] [DecidableEq β] [DecidableEq γ]
/-! ### one partition, two namings -/
theorem idxOf_kern {f : α → β} {g : α → γ} {a : α} : ∀ {zs : List α}, (∀ b ∈ zs, f b = f a ↔ g b = g a) → (zs.map f).idxOf (f a) = (zs.map g).idxOf (g a)
  | [], _ => rfl
  | z :: zs, h => by
    rw [List.map_cons, List.map_cons, List.idxOf_cons, List.idxOf_cons]
    have ih := idxOf_kern (f := f) (g := g) (a := a) (zs := zs) fun b hb => h b (List.mem_cons_of_mem _ hb)
    by_cases e : f z = f a
    · have e' := (h z List.mem_cons_self).mp e
      rw [show (f z == f a) = true from beq_iff_eq.mpr e, show (g z == g a) = true from beq_iff_eq.mpr e']
      rfl
    · have e' : ¬ g z = g a := fun y => e ((h z List.mem_cons_self).mpr y)
      rw [show (f z == f a) = false from beq_eq_false_iff_ne.mpr e, show (g z == g a) = false from beq_eq_false_iff_ne.mpr e', ih]
theorem marksOf_kern {f : α → β} {g : α → γ} {zs : List α} (h : ∀ a ∈ zs, ∀ b ∈ zs, f a = f b ↔ g a = g b) : marksOf (zs.map f) = marksOf (zs.map g) := by
  unfold marksOf
  rw [List.map_map, List.map_map]
  exact List.map_congr_left fun a ha => idxOf_kern fun b hb => h b hb a ha
theorem idxOf_inj {xs : List α} {a b : α} (ha : a ∈ xs) (hb : b ∈ xs) (e : xs.idxOf a = xs.idxOf b) : a = b := by
  have h1 := List.getElem_idxOf (List.idxOf_lt_length_of_mem ha)
  have h2 := List.getElem_idxOf (List.idxOf_lt_length_of_mem hb)
  rw [← h1, ← h2]
  congr 1
theorem marksOf_numb (xs : List α) : marksOf (numb xs) = marksOf xs := by
  have := marksOf_kern (f := fun x => (firsts xs).idxOf x) (g := fun x : α => x) (zs := xs) fun a ha b hb => ⟨fun e => idxOf_inj ((mem_firsts xs).mpr ha) ((mem_firsts xs).mpr hb) e, fun e => by rw [e]⟩
  rw [List.map_id'] at this
  exact this
theorem numb_idem (xs : List α) : numb (numb xs) = numb xs := numb_map (f := fun x => (firsts xs).idxOf x) fun a ha b hb e => idxOf_inj ((mem_firsts xs).mpr ha) ((mem_firsts xs).mpr hb) e
theorem marksOf_get {xs : List Nat} {i : Nat} (h : i < xs.length) : (marksOf xs).getD i 0 = xs.idxOf (xs.getD i 0) := by
  unfold marksOf
  rw [List.getD_eq_getElem?_getD, List.getElem?_map, List.getD_eq_getElem?_getD, List.getElem?_eq_getElem h]
  rfl
theorem getD_in {xs : List Nat} {i : Nat} (h : i < xs.length) : xs.getD i 0 ∈ xs := by
  rw [List.getD_eq_getElem?_getD, List.getElem?_eq_getElem h]
  exact List.getElem_mem h
theorem marks_iff {xs : List Nat} {i j : Nat} (hi : i < xs.length) (hj : j < xs.length) : (marksOf xs).getD i 0 = (marksOf xs).getD j 0 ↔ xs.getD i 0 = xs.getD j 0 := by
  rw [marksOf_get hi, marksOf_get hj]
  exact ⟨fun e => idxOf_inj (getD_in hi) (getD_in hj) e, fun e => by rw [e]⟩
theorem maps_iff {xs : List Nat} : ∀ {us vs : List Nat}, (∀ o ∈ us, o < xs.length) → (∀ o ∈ vs, o < xs.length) → ((us.map fun o => (marksOf xs).getD o 0) = (vs.map fun o => (marksOf xs).getD o 0) ↔ (us.map fun o => xs.getD o 0) = vs.map fun o => xs.getD o 0)
  | [], [], _, _ => by simp
  | [], _ :: _, _, _ => by simp
  | _ :: _, [], _, _ => by simp
  | u :: us, v :: vs, h1, h2 => by
    rw [List.map_cons, List.map_cons, List.map_cons, List.map_cons, List.cons.injEq, List.cons.injEq, marks_iff (h1 u List.mem_cons_self) (h2 v List.mem_cons_self),
      maps_iff (fun o ho => h1 o (List.mem_cons_of_mem _ ho)) fun o ho => h2 o (List.mem_cons_of_mem _ ho)]
end
/-! ### turns -/
def rit (rows : List (List Nat)) : Nat → List Nat → List Nat
  | 0, p => p
  | n + 1, p => rit rows n (refine rows p)
theorem refineL_marks {rows : List (List Nat)} {ps : List Nat} (ok : RowsOk rows.length rows) (hl : ps.length = rows.length) : refineL rows (marksOf ps) = marksOf (refine rows ps) := by
  unfold refine
  rw [marksOf_numb]
  refine marksOf_kern fun a ha b hb => ?_
  have la := List.mem_range.mp ha
  have lb := List.mem_range.mp hb
  have ra : ∀ o ∈ row rows a, o < ps.length := fun o ho => by rw [hl]; exact (ok.2 _ (row_mem la)).2 o ho
  have rb : ∀ o ∈ row rows b, o < ps.length := fun o ho => by rw [hl]; exact (ok.2 _ (row_mem lb)).2 o ho
  rw [List.cons.injEq, Prod.mk.injEq, marks_iff (by omega) (by omega), maps_iff ra rb]
theorem turns_marks {rows : List (List Nat)} (ok : RowsOk rows.length rows) : ∀ (n : Nat) (ps : List Nat), ps.length = rows.length → turns rows n (marksOf ps) = marksOf (rit rows n ps)
  | 0, _, _ => rfl
  | n + 1, ps, hl => by
    show turns rows n (refineL rows (marksOf ps)) = marksOf (rit rows n (refine rows ps))
    rw [refineL_marks ok hl]
    exact turns_marks ok n _ (refine_length _ _)
/-- the number of classes stays: the classes stay -/
theorem refine_fix {rows : List (List Nat)} {ps : List Nat} (h1 : 1 ≤ rows.length) (hl : ps.length = rows.length) (hd : Dense ps) (hn : numb ps = ps) (he : maxL (refine rows ps) = maxL ps) : refine rows ps = ps := by
  have hne : rkeys rows ps ≠ [] := fun z => by
    have := congrArg List.length z
    rw [List.length_map, List.length_range] at this
    rw [this] at h1
    exact absurd h1 (by decide)
  have hm := numb_max hne
  have he' : maxL (numb (rkeys rows ps)) = maxL ps := he
  rw [he'] at hm
  have hf : (rkeys rows ps).map Prod.fst = ps := by
    rw [List.map_map]
    show (List.range rows.length).map (fun s => ps.getD s 0) = ps
    rw [← hl]
    exact range_getD ps
  have inj : ∀ x ∈ rkeys rows ps, ∀ y ∈ rkeys rows ps, x.1 = y.1 → x = y := fun x hx y hy e => by
    by_cases ne : x = y
    · exact ne
    · exfalso
      have hx' := (mem_firsts _).mpr hx
      have hy' := (mem_firsts _).mpr hy
      have : (List.range (maxL ps + 1)).length ≤ (((firsts (rkeys rows ps)).erase x).map Prod.fst).length := by
        refine nodup_sub List.nodup_range fun p hp => ?_
        have hp' : p ∈ ps := hd p (by have := List.mem_range.mp hp; omega)
        rw [← hf] at hp'
        obtain ⟨z, hz, ez⟩ := List.mem_map.mp hp'
        by_cases zx : z = x
        · refine List.mem_map.mpr ⟨y, (List.mem_erase_of_ne fun w => ne w.symm).mpr hy', ?_⟩
          rw [← e, ← zx, ez]
        · exact List.mem_map.mpr ⟨z, (List.mem_erase_of_ne zx).mpr ((mem_firsts _).mpr hz), ez⟩
      rw [List.length_range, List.length_map, List.length_erase_of_mem hx'] at this
      have := List.length_pos_of_mem hx'
      omega
  have := numb_map (f := Prod.fst) (xs := rkeys rows ps) inj
  rw [hf, hn] at this
  exact this.symm
theorem rit_fix {rows : List (List Nat)} {ps : List Nat} (h : refine rows ps = ps) : ∀ n, rit rows n ps = ps
  | 0 => rfl
  | n + 1 => by
    show rit rows n (refine rows ps) = ps
    rw [h]
    exact rit_fix h n
theorem settle_rit {rows : List (List Nat)} (h1 : 1 ≤ rows.length) : ∀ (n m : Nat) (count : Int) (ps : List Nat), ps.length = rows.length → Dense ps → numb ps = ps → (count = (maxL ps : Int) → refine rows ps = ps) →
    rows.length - maxL ps + 1 ≤ n → rows.length - maxL ps ≤ m → Mir.settle rows n count ps = rit rows m ps
  | 0, _, _, _, _, _, _, _, h, _ => absurd h (by omega)
  | n + 1, m, count, ps, hl, hd, hn, hc, hf, hm => by
    have hp : ps ≠ [] := fun z => by rw [z] at hl; simp at hl; omega
    have hlt := maxL_lt hp hd
    rw [Mir.settle]
    by_cases hcm : count = (maxL ps : Int)
    · rw [if_neg (by simpa using hcm), rit_fix (hc hcm)]
    · rw [if_pos hcm]
      obtain ⟨m, rfl⟩ : ∃ m', m = m' + 1 := ⟨m - 1, by omega⟩
      show _ = rit rows m (refine rows ps)
      have hge := refine_ge hl h1 hd
      have hn2 : numb (refine rows ps) = refine rows ps := numb_idem _
      by_cases he : maxL (refine rows ps) = maxL ps
      · have fx := refine_fix h1 hl hd hn he
        rw [fx, rit_fix fx]
        obtain ⟨n, rfl⟩ : ∃ n', n = n' + 1 := ⟨n - 1, by omega⟩
        rw [Mir.settle, if_neg (by simp)]
      · refine settle_rit h1 n m _ _ (refine_length _ _) (dense_refine h1) hn2 (fun z => ?_) (by omega) (by omega)
        have : maxL ps = maxL (refine rows ps) := Int.ofNat.inj z
        exact absurd this.symm he
section
variable {α : Type} [DecidableEq α]
theorem classesL_marks {rows : List (List Nat)} {xs : List α} (ok : RowsOk rows.length rows) (h1 : 1 ≤ rows.length) (hl : xs.length = rows.length) : classesL rows xs = marksOf (classesP rows xs) := by
  have hne : xs ≠ [] := fun z => by rw [z] at hl; simp at hl; omega
  unfold classesL classesP
  rw [← marksOf_numb xs, turns_marks ok _ _ (by rw [numb_length, hl])]
  rw [settle_rit h1 (rows.length + 2) (rows.length + 1) (-1) (numb xs) (by rw [numb_length, hl]) (numb_dense hne) (numb_idem xs) (fun z => by omega) (by omega) (by omega)]
theorem rit_numb (rows : List (List Nat)) : ∀ (n : Nat) (ps : List Nat), numb ps = ps → numb (rit rows n ps) = rit rows n ps
  | 0, _, h => h
  | n + 1, ps, h => rit_numb rows n _ (numb_idem _)
theorem classesP_numb {rows : List (List Nat)} {xs : List α} (h1 : 1 ≤ rows.length) (hl : xs.length = rows.length) : numb (classesP rows xs) = classesP rows xs := by
  have hne : xs ≠ [] := fun z => by rw [z] at hl; simp at hl; omega
  unfold classesP
  rw [settle_rit h1 (rows.length + 2) (rows.length + 1) (-1) (numb xs) (by rw [numb_length, hl]) (numb_dense hne) (numb_idem xs) (fun z => by omega) (by omega) (by omega)]
  exact rit_numb _ _ _ (numb_idem xs)
/-! ### the first of each class -/
theorem snoc_ind {P : List Nat → Prop} (h0 : P []) (hs : ∀ xs x, P xs → P (xs ++ [x])) (xs : List Nat) : P xs := by
  have : ∀ ys : List Nat, P ys.reverse := fun ys => by
    induction ys with
    | nil => exact h0
    | cons a r ih => rw [List.reverse_cons]; exact hs _ _ ih
  have h := this xs.reverse
  rwa [List.reverse_reverse] at h
theorem keep_firsts (xs : List Nat) : (List.range xs.length).filter (fun i => xs.idxOf (xs.getD i 0) == i) = (firsts xs).map xs.idxOf := by
  refine snoc_ind (P := fun xs => (List.range xs.length).filter (fun i => xs.idxOf (xs.getD i 0) == i) = (firsts xs).map xs.idxOf) rfl (fun xs x ih => ?_) xs
  have e1 : ∀ i, i < xs.length → (xs ++ [x]).idxOf ((xs ++ [x]).getD i 0) = xs.idxOf (xs.getD i 0) := fun i hi => by
    have e : (xs ++ [x]).getD i 0 = xs.getD i 0 := by rw [List.getD_eq_getElem?_getD, List.getD_eq_getElem?_getD, List.getElem?_append_left hi]
    rw [e, idxOf_pre (getD_in hi)]
  have e2 : (xs ++ [x]).getD xs.length 0 = x := by rw [List.getD_eq_getElem?_getD, List.getElem?_append_right (Nat.le_refl _), Nat.sub_self]; rfl
  rw [List.length_append, List.length_singleton, List.range_succ, List.filter_append]
  have e3 : (List.range xs.length).filter (fun i => (xs ++ [x]).idxOf ((xs ++ [x]).getD i 0) == i) = (List.range xs.length).filter (fun i => xs.idxOf (xs.getD i 0) == i) :=
    List.filter_congr fun i hi => by rw [e1 i (List.mem_range.mp hi)]
  have e4 : (firsts xs).map (xs ++ [x]).idxOf = (firsts xs).map xs.idxOf := List.map_congr_left fun y hy => idxOf_pre ((mem_firsts xs).mp hy)
  rw [e3, ih, firsts_snoc]
  by_cases h : x ∈ xs
  · have hlt := List.idxOf_lt_length_of_mem h
    have e5 : ((xs ++ [x]).idxOf ((xs ++ [x]).getD xs.length 0) == xs.length) = false := by
      rw [e2, idxOf_pre h]
      exact beq_eq_false_iff_ne.mpr (by omega)
    rw [if_pos ((mem_firsts xs).mpr h), e4, List.filter_cons_of_neg (by rw [e5]; decide), List.filter_nil, List.append_nil]
  · have e6 : (xs ++ [x]).idxOf x = xs.length := by rw [List.idxOf_append, if_neg h]; simp
    have e5 : ((xs ++ [x]).idxOf ((xs ++ [x]).getD xs.length 0) == xs.length) = true := by
      rw [e2, e6]
      exact beq_iff_eq.mpr rfl
    have e7 : [xs.length].filter (fun i => (xs ++ [x]).idxOf ((xs ++ [x]).getD i 0) == i) = [xs.length] := List.filter_cons_of_pos (p := fun i => (xs ++ [x]).idxOf ((xs ++ [x]).getD i 0) == i) e5
    rw [if_neg (fun z => h ((mem_firsts xs).mp z)), List.map_append, e4, e7]
    show _ = _ ++ [(xs ++ [x]).idxOf x]
    rw [e6]
theorem chosen_firsts {xs : List Nat} (hne : xs ≠ []) (hn : numb xs = xs) : chosen xs = (firsts xs).map xs.idxOf := by
  have hm := numb_max hne
  rw [hn] at hm
  unfold chosen
  rw [hm]
  refine List.ext_getElem (by simp) fun i h1 h2 => ?_
  rw [List.length_map] at h2
  rw [List.getElem_map, List.getElem_map, List.getElem_range]
  have e : numb xs = xs.map fun x => (firsts xs).idxOf x := rfl
  have ei : (firsts xs).idxOf (firsts xs)[i] = i := (firsts_nodup xs).idxOf_getElem i h2
  have hx : (firsts xs)[i] ∈ xs := (mem_firsts xs).mp (List.getElem_mem h2)
  have := idxOf_map (f := fun x => (firsts xs).idxOf x) (x := (firsts xs)[i]) (o := xs) fun y hy z => idxOf_inj ((mem_firsts xs).mpr hy) ((mem_firsts xs).mpr hx) z
  rw [← e, hn, ei] at this
  exact this
theorem keepL_chosen {xs : List Nat} (hne : xs ≠ []) (hn : numb xs = xs) : keepL (marksOf xs) = chosen xs := by
  rw [chosen_firsts hne hn, ← keep_firsts]
  unfold keepL
  rw [show (marksOf xs).length = xs.length by simp [marksOf]]
  exact List.filter_congr fun i hi => by rw [marksOf_get (List.mem_range.mp hi)]
theorem keep_idx {xs : List Nat} (hne : xs ≠ []) (hn : numb xs = xs) {o : Nat} (ho : o < xs.length) : (chosen xs).idxOf ((marksOf xs).getD o 0) = xs.getD o 0 := by
  rw [chosen_firsts hne hn, marksOf_get ho, idxOf_map fun y hy z => idxOf_inj ((mem_firsts xs).mp hy) (getD_in ho) z]
  have e : numb xs = xs.map fun x => (firsts xs).idxOf x := rfl
  rw [hn] at e
  have := congrArg (fun l => l.getD o 0) e
  have e8 : (xs.map fun x => (firsts xs).idxOf x).getD o 0 = (firsts xs).idxOf (xs.getD o 0) := by
    rw [List.getD_eq_getElem?_getD, List.getElem?_map, List.getD_eq_getElem?_getD, List.getElem?_eq_getElem ho]
    rfl
  exact (this.trans e8).symm
theorem keptL_chosen {rows : List (List Nat)} {xs : List Nat} (ok : RowsOk rows.length rows) (hl : xs.length = rows.length) (hd : Dense xs) (hne : xs ≠ []) (hn : numb xs = xs) : keptL rows (marksOf xs) (chosen xs) = chosenRows rows xs := by
  unfold keptL chosenRows
  refine List.map_congr_left fun s hs => List.map_congr_left fun o ho => ?_
  have hs2 := chosen_lt hd hl s hs
  exact keep_idx hne hn (by rw [hl]; exact (ok.2 _ (row_mem hs2)).2 o ho)
end
theorem leastL_eq {N : Nat} {m : Mc} (ok : McOk N m) (hN : N ≤ 100) : leastL m = leastP m := by
  have l1 := ok.l1
  have r1 := ok.r1
  have lN := ok.lN
  have rN := ok.rN
  have kl : OrdOk m.l (behind m.l) := behind_ok ok.lo ok.l1
  have kr : OrdOk m.r (front m.r) := front_ok ok.ro ok.r1
  have e1 : firstsL m.l false = behind m.l := firstsL_behind ok.lo ok.l1 (by omega)
  have e2 : firstsL m.r true = front m.r := firstsL_front ok.ro ok.r1 (by omega)
  unfold leastL leastP trimL
  simp only [e1, e2, kept_length]
  generalize behind m.l = ls at kl
  generalize front m.r = rs at kr
  have tb := small_ok (ls := ls) (rs := rs) ok.tab kl.lt kr.lt
  have o1 : RowsOk (kept m.l ls).length (kept m.l ls) := by rw [kept_length]; exact kept_ok ok.lo kl
  have o2 : RowsOk (kept m.r rs).length (kept m.r rs) := by rw [kept_length]; exact kept_ok ok.ro kr
  have n1 : 1 ≤ (kept m.l ls).length := by rw [kept_length]; exact kl.pos
  have n2 : 1 ≤ (kept m.r rs).length := by rw [kept_length]; exact kr.pos
  have s1 : (small m ls rs).length = (kept m.l ls).length := by rw [kept_length]; exact tb.1
  have s2 : (columns (small m ls rs) rs.length).length = (kept m.r rs).length := by rw [kept_length]; simp [columns]
  obtain ⟨a1, a2⟩ := classesP_ok n1 s1
  obtain ⟨b1, b2⟩ := classesP_ok n2 s2
  have a3 := classesP_numb n1 s1
  have b3 := classesP_numb n2 s2
  rw [classesL_marks o1 n1 s1, classesL_marks o2 n2 s2]
  generalize classesP (kept m.l ls) (small m ls rs) = pl at a1 a2 a3
  generalize classesP (kept m.r rs) (columns (small m ls rs) rs.length) = pr at b1 b2 b3
  have a4 : pl ≠ [] := fun z => by rw [z] at a1; simp at a1; omega
  have b4 : pr ≠ [] := fun z => by rw [z] at b1; simp at b1; omega
  rw [keepL_chosen a4 a3, keepL_chosen b4 b3, keptL_chosen o1 a1 a2 a4 a3, keptL_chosen o2 b1 b2 b4 b3]
end Fx
set_option maxHeartbeats 4000000
/-! text LawK -/
namespace Fx
open PySem L2 Evl PyProof.Rows NdefX Mir MirL
theorem trim_ok {m : Mc} (ok : McOk 100 m) : McOk 100 (trimL m) := by
  have kl : OrdOk m.l (firstsL m.l false) := by rw [firstsL_behind ok.lo ok.l1 ok.lN]; exact behind_ok ok.lo ok.l1
  have kr : OrdOk m.r (firstsL m.r true) := by rw [firstsL_front ok.ro ok.r1 ok.rN]; exact front_ok ok.ro ok.r1
  have e3 : trimL m = ⟨kept m.l (firstsL m.l false), kept m.r (firstsL m.r true), small m (firstsL m.l false) (firstsL m.r true)⟩ := rfl
  rw [e3]
  generalize firstsL m.l false = ls at kl
  generalize firstsL m.r true = rs at kr
  have ll := kl.le
  have rl := kr.le
  have hN := ok.lN
  have hM := ok.rN
  have tb := small_ok (ls := ls) (rs := rs) ok.tab kl.lt kr.lt
  refine ⟨?_, ?_, ?_, ?_, ?_, ?_, ?_, ?_⟩
  · show 1 ≤ (kept m.l ls).length; rw [kept_length]; exact kl.pos
  · show (kept m.l ls).length ≤ 100; rw [kept_length]; omega
  · show 1 ≤ (kept m.r rs).length; rw [kept_length]; exact kr.pos
  · show (kept m.r rs).length ≤ 100; rw [kept_length]; omega
  · show RowsOk (kept m.l ls).length (kept m.l ls); rw [kept_length]; exact kept_ok ok.lo kl
  · show RowsOk (kept m.r rs).length (kept m.r rs); rw [kept_length]; exact kept_ok ok.ro kr
  · show (small m ls rs).length = (kept m.l ls).length; rw [kept_length]; exact tb.1
  · show ∀ row ∈ small m ls rs, row.length = (kept m.r rs).length ∧ ∀ w ∈ row, w.length = 2 ∧ ∀ k ∈ w, k < 2
    rw [kept_length]
    exact tb.2
def leastT (t : Mc) : Mc := ⟨keptL t.l (classesL t.l t.t) (keepL (classesL t.l t.t)), keptL t.r (classesL t.r (columns t.t t.r.length)) (keepL (classesL t.r (columns t.t t.r.length))),
  (keepL (classesL t.l t.t)).map fun i => (keepL (classesL t.r (columns t.t t.r.length))).map fun j => cell t.t i j⟩
theorem keepL_lt {ms : List Nat} {s : Nat} (h : s ∈ keepL ms) : s < ms.length := List.mem_range.mp (List.mem_filter.mp h).1
theorem keepL_len (ms : List Nat) : (keepL ms).length ≤ ms.length := by
  have := List.length_filter_le (fun i => ms.getD i 0 == i) (List.range ms.length)
  rw [List.length_range] at this
  exact this
theorem classesL_ok {α : Type} [DecidableEq α] {rows : List (List Nat)} {xs : List α} (ok : RowsOk rows.length rows) (h1 : 1 ≤ rows.length) (hl : xs.length = rows.length) : (classesL rows xs).length = rows.length ∧ ∀ o, o < rows.length → (classesL rows xs).getD o 0 ∈ keepL (classesL rows xs) := by
  rw [classesL_marks ok h1 hl]
  obtain ⟨a1, a2⟩ := classesP_ok h1 hl
  have a3 := classesP_numb h1 hl
  generalize classesP rows xs = ps at a1 a2 a3
  have a4 : ps ≠ [] := fun z => by rw [z] at a1; simp at a1; omega
  refine ⟨by rw [marksOf_length, a1], fun o ho => ?_⟩
  rw [keepL_chosen a4 a3, chosen_firsts a4 a3, marksOf_get (by omega)]
  exact List.mem_map.mpr ⟨_, (mem_firsts ps).mpr (getD_in (by omega)), rfl⟩
theorem columns_ok {t : List (List (List Nat))} {n m : Nat} (h : TabOk n m t) : ∀ r ∈ columns t m, ∀ w ∈ r, w.length = 2 ∧ ∀ k ∈ w, k < 2 := fun r hr w hw => by
  obtain ⟨j, hj, rfl⟩ := List.mem_map.mp hr
  obtain ⟨row, hrow, rfl⟩ := List.mem_map.mp hw
  obtain ⟨h1, h2⟩ := h.2 row hrow
  have jl := List.mem_range.mp hj
  have e : row.getD j [] ∈ row := by
    rw [List.getD_eq_getElem?_getD, List.getElem?_eq_getElem (by omega)]
    exact List.getElem_mem _
  exact h2 _ e
theorem range_map_get {α β : Type} (d : α) (xs : List α) (f : α → β) : (List.range xs.length).map (fun i => f (xs.getD i d)) = xs.map f := by
  refine List.ext_getElem (by simp) fun i h1 h2 => ?_
  rw [List.length_map] at h2
  rw [List.getElem_map, List.getElem_range, List.getElem_map, List.getD_eq_getElem?_getD, List.getElem?_eq_getElem h2]
  rfl
def pK (ns : List Nat) : D → Bool
  | .int z => ns.getD z.toNat 0 == z.toNat
  | _ => false
section
variable {c : Ct} {E : XK} {b : Addr} {ρ : Env} {te ta : TE} {al : Al} {m : Mc} {k : D → Prop}
theorem ev_keep {ns : List Nat} {i j : Nat} (h0 : ρ[i]? = some (some (.dat (eIs ns)))) (hij : j ≠ i) (hjl : j < ρ.length) (hz : ns.length ≤ 1000) :
    EvE c (tLc (iRng1 (tCons (tCB (rLenF c.K) (tCons (tVar i) tNil)) tNil)) (gName j) (tTest (tOp rEq (tOp (rIxL c.K) (tVar i) (tVar j)) (tVar j))) (tVar j) [j]) ρ (eIs (keepL ns)) := by
  refine EvE.to (ev_lcF (xs := upTo 0 ns.length) (ei_rng1 (n := (ns.length : Nat)) (ea_cons (ev_lenEq (ev_var h0) (by rw [List.length_map])) ea_nil) (by omega)) (by rw [upTo_length]; omega) (pK ns) id fun n x hx => ?_) ?_
  · obtain ⟨hn, rfl⟩ := upTo0_get hx
    have v1 : EvE c (tVar i) ((wipeE ρ [j]).set j (some (.dat (eI n)))) (eIs ns) := ev_var (by
      show (((ρ.set j none).set j _))[i]? = _
      rw [List.getElem?_set_ne hij, List.getElem?_set_ne hij]
      exact h0)
    have v2 : EvE c (tVar j) ((wipeE ρ [j]).set j (some (.dat (eI n)))) (eI n) := ev_var (by
      show (((ρ.set j none).set j _))[j]? = _
      rw [List.getElem?_set_self (by rw [List.length_set]; exact hjl)])
    refine ⟨_, _, eg_name, fun _ h => h, EvT.to (et_test (ev_opE (ev_opE v1 v2 (rop_ixL (at_ints hn))) v2 rop_eqI)) ?_, fun _ => v2⟩
    show decide _ = (ns.getD n 0 == n)
    rw [Bool.eq_iff_iff, decide_eq_true_iff, beq_iff_eq]
    exact ⟨Int.ofNat.inj, fun e => by rw [e]⟩
  · show D.lst _ = D.lst _
    rw [List.map_id, upTo_map, List.filter_map]
    rfl
theorem as_law_least (i : Al × Mc) (h : i.1 ∈ Als ∧ McOk 100 i.2) : AS c E (t_law_least c) (entry N_law_least [eLM i.1 i.2]) { nx := fun _ => False, rt := fun d => d = eLM i.1 (leastL i.2) } := by
  obtain ⟨al, m⟩ := i
  obtain ⟨hal, ok⟩ := h
  have hal : al ∈ Als := hal
  have ok : McOk 100 m := ok
  have tk := trim_ok ok
  show AS c E _ [some (.dat (eLM al m)), none, none, none, none, none, none, none, none, none, none, none] { nx := fun _ => False, rt := fun d => d = eLM al (leastT (trimL m)) }
  refine as_seq (as_setE (ev_callE (al, m) (ea_cons (ev_var rfl) ea_nil) ⟨hal, ok⟩) ?_)
  show AS c E _ [some (.dat (eLM al m)), some (.dat (eLM al (trimL m))), none, none, none, none, none, none, none, none, none, none] _
  generalize trimL m = t at tk
  have l1 := tk.l1
  have lN := tk.lN
  have r1 := tk.r1
  have rN := tk.rN
  refine as_seq (as_setE (d := eTab al (columns t.t t.r.length)) (EvE.to (ev_lc1 (xs := List.range t.r.length) (e := eI) (g := fun j => .lst ((t.t.map fun row => row.getD j []).map (eW al))) (by rw [← upTo_map]; exact ei_rng1 (n := t.r.length) (ea_cons (ev_rowsLen (lm3 (ev_var rfl))) ea_nil)) (by rw [List.length_range]; omega) fun n j hj => ?_) (by show D.lst _ = D.lst _; rw [columns, List.map_map]; rfl)) ?_)
  · have jl : j < t.r.length := by simpa using List.mem_of_getElem? hj
    refine EvE.to (ev_lc1 (xs := List.range t.l.length) (e := eI) (g := fun i => eW al (cell t.t i j)) (by rw [← upTo_map]; exact ei_rng1 (n := t.l.length) (ea_cons (ev_rowsLen (lm2 (ev_var rfl))) ea_nil)) (by rw [List.length_range]; omega) fun n i hi => ?_) ?_
    · have il : i < t.l.length := by simpa using List.mem_of_getElem? hi
      exact ev_cell tk.tab (lm4 (ev_var rfl)) (ev_var rfl) (ev_var rfl) il jl
    · show D.lst _ = D.lst _
      rw [List.map_map, ← tk.t1]
      exact congrArg D.lst (range_map_get [] t.t fun row => eW al (row.getD j []))
  have cl : (columns t.t t.r.length).length = t.r.length := by simp [columns]
  have cw := columns_ok tk.tab
  have cf : leastT t = ⟨keptL t.l (classesL t.l t.t) (keepL (classesL t.l t.t)), keptL t.r (classesL t.r (columns t.t t.r.length)) (keepL (classesL t.r (columns t.t t.r.length))),
    (keepL (classesL t.l t.t)).map fun i => (keepL (classesL t.r (columns t.t t.r.length))).map fun j => cell t.t i j⟩ := rfl
  rw [cf]
  generalize columns t.t t.r.length = cols at cl cw
  show AS c E _ [some (.dat (eLM al m)), some (.dat (eLM al t)), some (.dat (eTab al cols)), none, none, none, none, none, none, none, none, none] _
  refine as_seq (as_setE (ev_callE (al, t.l, t.t) (ea_cons (lm2 (ev_var rfl)) (ea_cons (lm4 (ev_var rfl)) ea_nil)) ⟨hal, tk.lo, tk.l1, tk.lN, tk.t1, fun r hr => (tk.t2 r hr).2⟩) ?_)
  refine as_seq (as_setE (ev_callE (al, t.r, cols) (ea_cons (lm3 (ev_var rfl)) (ea_cons (ev_var rfl) ea_nil)) ⟨hal, tk.ro, tk.r1, tk.rN, cl, cw⟩) ?_)
  show AS c E _ [some (.dat (eLM al m)), some (.dat (eLM al t)), some (.dat (eTab al cols)), none, none, some (.dat (eIs (classesL t.l t.t))), some (.dat (eIs (classesL t.r cols))), none, none, none, none, none] _
  obtain ⟨a1, a2⟩ := classesL_ok tk.lo tk.l1 tk.t1
  obtain ⟨b1, b2⟩ := classesL_ok tk.ro tk.r1 cl
  generalize classesL t.l t.t = ls at a1 a2
  generalize classesL t.r cols = rs at b1 b2
  refine as_seq (as_setE (ev_keep (i := 5) (j := 3) rfl (by decide) (by show 3 < 12; decide) (by omega)) ?_)
  refine as_seq (as_setE (ev_keep (i := 6) (j := 4) rfl (by decide) (by show 4 < 12; decide) (by omega)) ?_)
  have kl : ∀ s ∈ keepL ls, s < t.l.length := fun s hs => by rw [← a1]; exact keepL_lt hs
  have kr : ∀ s ∈ keepL rs, s < t.r.length := fun s hs => by rw [← b1]; exact keepL_lt hs
  have nl := keepL_len ls
  have nr := keepL_len rs
  generalize keepL ls = kls at a2 kl nl
  generalize keepL rs = krs at b2 kr nr
  show AS c E _ [some (.dat (eLM al m)), some (.dat (eLM al t)), some (.dat (eTab al cols)), none, none, some (.dat (eIs ls)), some (.dat (eIs rs)), some (.dat (eIs kls)), some (.dat (eIs krs)), none, none, none] _
  refine as_seq (as_setE (d := eRows (keptL t.l ls kls)) (EvE.to (ev_lc1 (xs := kls) (e := eI) (g := fun i => eIs ((row t.l i).map fun o => kls.idxOf (ls.getD o 0))) (ei_list (ev_var rfl)) (by omega) fun n s hs => ?_) (by show D.lst _ = D.lst _; rw [keptL, List.map_map]; rfl)) ?_)
  · have sl := kl s (List.mem_of_getElem? hs)
    refine EvE.to (ev_lc1 (xs := row t.l s) (e := eI) (g := fun o => eI (kls.idxOf (ls.getD o 0))) (ei_list (ev_opE (lm2 (ev_var rfl)) (ev_var rfl) (rop_ixL (at_rows sl)))) (by rw [row_len tk.lo sl]; decide) fun n o ho => ?_) (by show D.lst _ = D.lst _; rw [List.map_map]; rfl)
    have ol : o < t.l.length := (tk.lo.2 _ (row_mem sl)).2 o (List.mem_of_getElem? ho)
    exact ev_idxOf (n := 0) (fun x _ y _ => eI_inj) (a2 o ol) (ev_var rfl) (ev_opE (ev_var rfl) (ev_var rfl) (rop_ixL (at_ints (by omega)))) (fun _ _ => pl_int) (by decide)
  show AS c E _ [some (.dat (eLM al m)), some (.dat (eLM al t)), some (.dat (eTab al cols)), none, none, some (.dat (eIs ls)), some (.dat (eIs rs)), some (.dat (eIs kls)), some (.dat (eIs krs)), some (.dat (eRows (keptL t.l ls kls))), none, none] _
  refine as_seq (as_setE (d := eRows (keptL t.r rs krs)) (EvE.to (ev_lc1 (xs := krs) (e := eI) (g := fun i => eIs ((row t.r i).map fun o => krs.idxOf (rs.getD o 0))) (ei_list (ev_var rfl)) (by omega) fun n s hs => ?_) (by show D.lst _ = D.lst _; rw [keptL, List.map_map]; rfl)) ?_)
  · have sl := kr s (List.mem_of_getElem? hs)
    refine EvE.to (ev_lc1 (xs := row t.r s) (e := eI) (g := fun o => eI (krs.idxOf (rs.getD o 0))) (ei_list (ev_opE (lm3 (ev_var rfl)) (ev_var rfl) (rop_ixL (at_rows sl)))) (by rw [row_len tk.ro sl]; decide) fun n o ho => ?_) (by show D.lst _ = D.lst _; rw [List.map_map]; rfl)
    have ol : o < t.r.length := (tk.ro.2 _ (row_mem sl)).2 o (List.mem_of_getElem? ho)
    exact ev_idxOf (n := 0) (fun x _ y _ => eI_inj) (b2 o ol) (ev_var rfl) (ev_opE (ev_var rfl) (ev_var rfl) (rop_ixL (at_ints (by omega)))) (fun _ _ => pl_int) (by decide)
  show AS c E _ [some (.dat (eLM al m)), some (.dat (eLM al t)), some (.dat (eTab al cols)), none, none, some (.dat (eIs ls)), some (.dat (eIs rs)), some (.dat (eIs kls)), some (.dat (eIs krs)), some (.dat (eRows (keptL t.l ls kls))), none, some (.dat (eRows (keptL t.r rs krs)))] _
  exact as_retE (ev_lst (ea_cons (lm0 (ev_var rfl)) (ea_cons (lm1 (ev_var rfl)) (ea_cons (ev_var rfl) (ea_cons (ev_var rfl) (ea_cons (ev_pick tk.tab kl kr ⟨by omega, by omega⟩ (ev_var rfl) (fun _ => ev_var rfl) (fun _ _ => lm4 (ev_var rfl)) (fun _ _ => ev_var rfl) (fun _ _ => ev_var rfl)) ea_nil)))))) rfl
end
end Fx
/-! text PsE3 -/
namespace Fx
open PySem L2 Evl PyProof.Rows Mir NdefX LamX
section
variable {P : Program} {w : World} {K : PySem.W.Frag} {mg : Str → Option Value} {base : Heap} {tabs : List NdefX.NTab} {ad : Ads} {cdv : Value} {A : Around} {outer : List PySem.Env} {s : Shared} {H : Hp} {E : XK} {f : Addr}
/-! ### _law_grown -/
abbrev s_law_grown : Stmt := topS 58
abbrev N_law_grown : List Str := ["_law_one", "_law_two", "_law_side", "_law_many", "_law_start", "_law_order", "_law_moves", "_law_turn", "_law_state", "_law_line", "_law_k", "_law_row_here", "_law_other", "_law_text", "_law_behind", "_law_to"]
theorem sc_law_grown : FnScope N_law_grown ["_law_one", "_law_two", "_law_side"] (defScope s_law_grown) := ⟨rfl, rfl, rfl, by decide +kernel, rfl, by decide +kernel, by decide +kernel⟩
def t_law_grown (c : Ct) : TS :=
      (tSeq (tAsg (tCB (rLenF c.K) (tCons (tOp (rIxL c.K) (tVar 0) (tOp (rI0 fun i j => .int (i - j)) (tC (.int 3)) (tVar 2))) tNil)) (gName 3))
      (tSeq (tAsg (tOp (rCatA c.K) (tTup (tCons (tC (.int 0)) tNil)) (tOp (rRepF c.K) (tTup (tCons (tC (.int 0)) tNil)) (tVar 3))) (gName 4))
      (tSeq (tAsg (tLst (tCons (tVar 4) tNil)) (gName 5))
      (tSeq (tAsg (tLst tNil) (gName 6))
      (tSeq (tFor (iRng1 (tCons (tC (.int 102)) tNil)) (gName 7)
      (tIfS (tAnd (tTest (tOp (rI0 fun i j => .bl (decide (i < j))) (tVar 7) (tCB (rLenF c.K) (tCons (tVar 5) tNil)))) (tTest (tOp (rI0 fun i j => .bl (decide (i ≤ j))) (tCB (rLenF c.K) (tCons (tVar 5) tNil)) (tC (.int 100))))) (tSeq (tAsg (tOp (rIxL c.K) (tVar 5) (tVar 7)) (gName 8))
      (tSeq (tAsg (tLst tNil) (gName 9))
      (tSeq (tFor (iRng1 (tCons (tCB (rLenF c.K) (tCons (tOp (rIxL c.K) (tVar 0) (tC (.int 0))) tNil)) tNil)) (gName 10)
      (tSeq (tAsg (tLst tNil) (gName 11))
      (tSeq (tFor (iRng1 (tCons (tVar 3) tNil)) (gName 12)
      (tSeq (tAsg (tIf (tTest (tOp rEq (tVar 2) (tC (.int 0)))) (tOp (rIxL c.K) (tOp (rIxL c.K) (tOp (rIxL c.K) (tVar 0) (tC (.int 4))) (tOp (rIxT c.K) (tVar 8) (tC (.int 0)))) (tVar 12)) (tOp (rIxL c.K) (tOp (rIxL c.K) (tOp (rIxL c.K) (tVar 0) (tC (.int 4))) (tVar 12)) (tOp (rIxT c.K) (tVar 8) (tC (.int 0))))) (gName 13))
      (tSeq (tAsg (tOp (rIxT c.K) (tVar 8) (tOp (rI0 fun i j => .int (i + j)) (tC (.int 1)) (tOp (rIxL c.K) (tOp (rIxL c.K) (tOp (rIxL c.K) (tVar 0) (tOp (rI0 fun i j => .int (i - j)) (tC (.int 3)) (tVar 2))) (tVar 12)) (tVar 10)))) (gName 14))
      (tDrop (tBM c.K "list" rAppend (tVar 11) (tCons (tOp (rIxL c.K) (tOp (rIxL c.K) (tOp (rIxL c.K) (tVar 1) (tOp (rI0 fun i j => .int (i + j)) (tC (.int 2)) (tVar 2))) (tVar 14)) (tM1 rIdxS (tOp (rIxL c.K) (tVar 1) (tC (.int 0))) (tOp rIxS (tVar 13) (tVar 10)))) tNil))))))
      (tSeq (tAsg (tOp (rCatA c.K) (tTup (tCons (tOp (rIxL c.K) (tOp (rIxL c.K) (tOp (rIxL c.K) (tVar 0) (tOp (rI0 fun i j => .int (i + j)) (tC (.int 2)) (tVar 2))) (tOp (rIxT c.K) (tVar 8) (tC (.int 0)))) (tVar 10)) tNil)) (tCB (rTupF c.K) (tCons (tVar 11) tNil))) (gName 15))
      (tSeq (tIfS (tTest (tOp (rNotInD c.K) (tVar 15) (tVar 5))) (tDrop (tBM c.K "list" rAppend (tVar 5) (tCons (tVar 15) tNil))) tNext)
      (tDrop (tBM c.K "list" rAppend (tVar 9) (tCons (tBM c.K "list" (rIndexD c.K) (tVar 5) (tCons (tVar 15) tNil)) tNil))))))))
      (tDrop (tBM c.K "list" rAppend (tVar 6) (tCons (tVar 9) tNil)))))) tNext))
      (tRet (tLst (tCons (tVar 5) (tCons (tVar 6) tNil)))))))))
theorem p_law_grown (hr : Room 0 (A.deeper (envOfC "_law_grown" (defScope s_law_grown) s.heap.objs.size f cdv))) (T : Top K mg) :
    PSs (cxOf CX0 P w K mg base N_law_grown "_law_grown" (defScope s_law_grown) f cdv A outer s H E).nox (defBody s_law_grown) (t_law_grown (ct P w K tabs ad)) :=
    have scN := sc_law_grown
    (pss_cons (ps_set (i := 3) scN.nd rfl (Or.inl rfl) (pe_callB call_lenF rfl T.n_len boot_len (pa_cons (pe_ix ix_list (pv 0) (pe_op op_sub pe_int (pv 2)) (fun _ _ => rfl)) pa_nil)))
      (pss_cons (ps_set (i := 4) scN.nd rfl (Or.inl rfl) (pe_op op_catA (pe_tup (pa_cons pe_int pa_nil)) (pe_op op_repF (pe_tup (pa_cons pe_int pa_nil)) (pv 3))))
      (pss_cons (ps_set (i := 5) scN.nd rfl (Or.inl rfl) (pe_lst (pa_cons (pv 4) pa_nil)))
      (pss_cons (ps_set (i := 6) scN.nd rfl (Or.inl rfl) (pe_lst pa_nil))
      (pss_cons (ps_for PassesOwn.never rfl (pi_range1 rfl T.n_range (pa_cons pe_int pa_nil)) (pg_name (i := 7) scN.nd rfl (Or.inl rfl))
      (pss_one (ps_if (PW.pt (pw_and (pt_cmpR op_lt (pv 7) (pe_callB call_lenF rfl T.n_len boot_len (pa_cons (pv 5) pa_nil)) (nomark _)) (pw_and1 (pt_cmpR op_le (pe_callB call_lenF rfl T.n_len boot_len (pa_cons (pv 5) pa_nil)) pe_int (nomark _))))) (pss_cons (ps_set (i := 8) scN.nd rfl (Or.inl rfl) (pe_ix ix_list (pv 5) (pv 7) (fun _ _ => rfl)))
      (pss_cons (ps_set (i := 9) scN.nd rfl (Or.inl rfl) (pe_lst pa_nil))
      (pss_cons (ps_for PassesOwn.never rfl (pi_range1 rfl T.n_range (pa_cons (pe_callB call_lenF rfl T.n_len boot_len (pa_cons (pe_ix ix_list (pv 0) pe_int (fun _ _ => rfl)) pa_nil)) pa_nil)) (pg_name (i := 10) scN.nd rfl (Or.inl rfl))
      (pss_cons (ps_set (i := 11) scN.nd rfl (Or.inl rfl) (pe_lst pa_nil))
      (pss_cons (ps_for PassesOwn.never rfl (pi_range1 rfl T.n_range (pa_cons (pv 3) pa_nil)) (pg_name (i := 12) scN.nd rfl (Or.inl rfl))
      (pss_cons (ps_set (i := 13) scN.nd rfl (Or.inl rfl) (pe_ifExp (pt_cmpR op_eq (pv 2) pe_int (nomark _)) (pe_ix ix_list (pe_ix ix_list (pe_ix ix_list (pv 0) pe_int (fun _ _ => rfl)) (pe_ix ix_tup (pv 8) pe_int (fun _ _ => rfl)) (fun _ _ => rfl)) (pv 12) (fun _ _ => rfl)) (pe_ix ix_list (pe_ix ix_list (pe_ix ix_list (pv 0) pe_int (fun _ _ => rfl)) (pv 12) (fun _ _ => rfl)) (pe_ix ix_tup (pv 8) pe_int (fun _ _ => rfl)) (fun _ _ => rfl))))
      (pss_cons (ps_set (i := 14) scN.nd rfl (Or.inl rfl) (pe_ix ix_tup (pv 8) (pe_op op_add pe_int (pe_ix ix_list (pe_ix ix_list (pe_ix ix_list (pv 0) (pe_op op_sub pe_int (pv 2)) (fun _ _ => rfl)) (pv 12) (fun _ _ => rfl)) (pv 10) (fun _ _ => rfl))) (fun _ _ => rfl)))
      (pss_one (ps_expr (pe_bm PySem.F.plainAttrs_list PySem.F.slot_list_append PySem.F.type_list_append mt_append (pv 11) (pa_cons (pe_ix ix_list (pe_ix ix_list (pe_ix ix_list (pv 1) (pe_op op_add pe_int (pv 2)) (fun _ _ => rfl)) (pv 14) (fun _ _ => rfl)) (pe_m1 PySem.F.slot_str_index PySem.F.type_str_index mt_idxS (pe_ix ix_list (pv 1) pe_int (fun _ _ => rfl)) (pe_ix ix_str (pv 13) (pv 10) (fun _ _ => rfl))) (fun _ _ => rfl)) pa_nil)))))))
      (pss_cons (ps_set (i := 15) scN.nd rfl (Or.inl rfl) (pe_op op_catA (pe_tup (pa_cons (pe_ix ix_list (pe_ix ix_list (pe_ix ix_list (pv 0) (pe_op op_add pe_int (pv 2)) (fun _ _ => rfl)) (pe_ix ix_tup (pv 8) pe_int (fun _ _ => rfl)) (fun _ _ => rfl)) (pv 10) (fun _ _ => rfl)) pa_nil)) (pe_callTy call_tupF rfl T.n_tuple boot_tuple (pa_cons (pv 11) pa_nil))))
      (pss_cons (ps_if (pt_cmpR (op_notInD (hu65 hr)) (pv 15) (pv 5) rfl) (pss_one (ps_expr (pe_bm PySem.F.plainAttrs_list PySem.F.slot_list_append PySem.F.type_list_append mt_append (pv 5) (pa_cons (pv 15) pa_nil)))) pss_nil)
      (pss_one (ps_expr (pe_bm PySem.F.plainAttrs_list PySem.F.slot_list_append PySem.F.type_list_append mt_append (pv 9) (pa_cons (pe_bm PySem.F.plainAttrs_list PySem.F.slot_list_index PySem.F.type_list_index (mt_indexD (hu65 hr)) (pv 5) (pa_cons (pv 15) pa_nil)) pa_nil)))))))))
      (pss_one (ps_expr (pe_bm PySem.F.plainAttrs_list PySem.F.slot_list_append PySem.F.type_list_append mt_append (pv 6) (pa_cons (pv 9) pa_nil))))))) pss_nil)))
      (pss_one (ps_ret (pe_lst (pa_cons (pv 5) (pa_cons (pv 6) pa_nil))))))))))
end
end Fx
/-! text PsD -/
namespace Fx
open PySem L2 Evl PyProof.Rows Mir NdefX LamX
section
variable {P : Program} {w : World} {K : PySem.W.Frag} {mg : Str → Option Value} {base : Heap} {tabs : List NdefX.NTab} {ad : Ads} {cdv : Value} {A : Around} {outer : List PySem.Env} {s : Shared} {H : Hp} {E : XK} {f : Addr}
/-! ### Book.__init__ -/
abbrev s_Book___init__ : Stmt := inClass (topS 44) 0
abbrev N_Book___init__ : List Str := ["self", "alphabet"]
theorem sc_Book___init__ : FnScope N_Book___init__ ["self", "alphabet"] (defScope s_Book___init__) := ⟨rfl, rfl, rfl, by decide +kernel, rfl, by decide +kernel, by decide +kernel⟩
def t_Book___init__ (c : Ct) : TS :=
      (tSeq (sFld c.K (tVar 0) (tVar 1) "alphabet")
      (tSeq (sFld c.K (tVar 0) (tLst tNil) "rows")
      (sFld c.K (tVar 0) (tLst tNil) "before")))
theorem p_Book___init__ (hr : Room 0 (A.deeper (envOfC "Book.__init__" (defScope s_Book___init__) s.heap.objs.size f cdv))) (T : Top K mg) :
    PSs (cxOf CX0 P w K mg base N_Book___init__ "Book.__init__" (defScope s_Book___init__) f cdv A outer s H E).nox (defBody s_Book___init__) (t_Book___init__ (ct P w K tabs ad)) :=
    have scN := sc_Book___init__
    (pss_cons (ps_fld (pv 0) (pv 1) rfl)
      (pss_cons (ps_fld (pv 0) (pe_lst pa_nil) rfl)
      (pss_one (ps_fld (pv 0) (pe_lst pa_nil) rfl))))
/-! ### Book._change -/
abbrev s_Book__change : Stmt := inClass (topS 44) 3
abbrev N_Book__change : List Str := ["self", "rows"]
theorem sc_Book__change : FnScope N_Book__change ["self", "rows"] (defScope s_Book__change) := ⟨rfl, rfl, rfl, by decide +kernel, rfl, by decide +kernel, by decide +kernel⟩
def t_Book__change (c : Ct) : TS :=
      (tSeq (sFld c.K (tVar 0) (tOp rCat (tFld c.K (tVar 0) "before") (tLst (tCons (tFld c.K (tVar 0) "rows") tNil))) "before")
      (sFld c.K (tVar 0) (tVar 1) "rows"))
theorem p_Book__change (hr : Room 0 (A.deeper (envOfC "Book._change" (defScope s_Book__change) s.heap.objs.size f cdv))) (T : Top K mg) :
    PSs (cxOf CX0 P w K mg base N_Book__change "Book._change" (defScope s_Book__change) f cdv A outer s H E).nox (defBody s_Book__change) (t_Book__change (ct P w K tabs ad)) :=
    have scN := sc_Book__change
    (pss_cons (ps_fld (pv 0) (pe_op op_cat (pe_fld (pv 0) rfl) (pe_lst (pa_cons (pe_fld (pv 0) rfl) pa_nil))) rfl)
      (pss_one (ps_fld (pv 0) (pv 1) rfl)))
/-! ### Book.insert -/
abbrev s_Book_insert : Stmt := inClass (topS 44) 5
abbrev N_Book_insert : List Str := ["self", "index", "machine"]
theorem sc_Book_insert : FnScope N_Book_insert ["self", "index", "machine"] (defScope s_Book_insert) := ⟨rfl, rfl, rfl, by decide +kernel, rfl, by decide +kernel, by decide +kernel⟩
def t_Book_insert (c : Ct) : TS :=
      (tSeq (tIfS (tNot (tTest (tChain (rI0 fun i j => .bl (decide (i ≤ j))) (rI0 fun i j => .bl (decide (i ≤ j))) (tC (.int 0)) (tVar 1) (tCB (rLenF c.K) (tCons (tFld c.K (tVar 0) "rows") tNil))))) tNever tNext)
      (tSeq (tIfS (tTest (tOp (rI0 fun i j => .bl (decide (j ≤ i))) (tCB (rLenF c.K) (tCons (tFld c.K (tVar 0) "rows") tNil)) (tC (.int 6)))) tNever tNext)
      (tSeq (tIfS (tOr (tTest (tOp rNe (tFld c.K (tVar 2) "reads") (tFld c.K (tVar 0) "alphabet"))) (tTest (tOp rNe (tFld c.K (tVar 2) "writes") (tFld c.K (tVar 0) "alphabet")))) tNever tNext)
      (tDrop (tMeth c.A.Bk "_change" (sp_Book__change c) [] E0 (tVar 0) (tCons (tOp rCat (tOp rCat (tSl (rSlL c.K) (tFld c.K (tVar 0) "rows") tNoPart (tPart (tVar 1))) (tLst (tCons (tCall (sp_copied c) [] E0 (tCons (tVar 2) tNil)) tNil))) (tSl (rSlL c.K) (tFld c.K (tVar 0) "rows") (tPart (tVar 1)) tNoPart)) tNil))))))
theorem p_Book_insert (hr : Room 5 (A.deeper (envOfC "Book.insert" (defScope s_Book_insert) s.heap.objs.size f cdv))) (T : Top K mg) (C_copied : Cal P w K mg base CX0 5 "copied" ["machine"] (sp_copied (ct P w K tabs ad))) (C_Book__change : CalT P w K mg base CX0 1 ad.Bk "_change" (sp_Book__change (ct P w K tabs ad))) :
    PSs (cxOf CX0 P w K mg base N_Book_insert "Book.insert" (defScope s_Book_insert) f cdv A outer s H E).nox (defBody s_Book_insert) (t_Book_insert (ct P w K tabs ad)) :=
    have scN := sc_Book_insert
    (pss_cons (ps_if (pt_not (pt_chain op_le op_le pe_int (pv 1) (pe_callB call_lenF rfl T.n_len boot_len (pa_cons (pe_fld (pv 0) rfl) pa_nil)))) (pss_one ps_never) pss_nil)
      (pss_cons (ps_if (pt_cmpR op_ge (pe_callB call_lenF rfl T.n_len boot_len (pa_cons (pe_fld (pv 0) rfl) pa_nil)) (pe_gi rfl T.g_MOST_PASSES) (nomark _)) (pss_one ps_never) pss_nil)
      (pss_cons (ps_if (PW.pt (pw_or (pt_cmpR op_ne (pe_fld (pv 2) rfl) (pe_fld (pv 0) rfl) (nomark _)) (pw_or1 (pt_cmpR op_ne (pe_fld (pv 2) rfl) (pe_fld (pv 0) rfl) (nomark _))))) (pss_one ps_never) pss_nil)
      (pss_one (ps_expr (pe_mtc C_Book__change (hr.mono (by decide)) pass0 (pv 0) (pa_cons (pe_op op_cat (pe_op op_cat (pe_slice sl_list (pe_fld (pv 0) rfl) po_none (po_some (pv 1))) (pe_lst (pa_cons (pe_cal C_copied (hr.mono (by decide)) rfl pass0 (pa_cons (pv 2) pa_nil)) pa_nil))) (pe_slice sl_list (pe_fld (pv 0) rfl) (po_some (pv 1)) po_none)) pa_nil)))))))
/-! ### Book._require -/
abbrev s_Book__require : Stmt := inClass (topS 44) 4
abbrev N_Book__require : List Str := ["self", "index"]
theorem sc_Book__require : FnScope N_Book__require ["self", "index"] (defScope s_Book__require) := ⟨rfl, rfl, rfl, by decide +kernel, rfl, by decide +kernel, by decide +kernel⟩
def t_Book__require (c : Ct) (E : XK) : TS :=
      (tIfS (tNot (tTest (tChain (rI0 fun i j => .bl (decide (i ≤ j))) (rI0 fun i j => .bl (decide (i < j))) (tC (.int 0)) (tVar 1) (tCB (rLenF c.K) (tCons (tFld c.K (tVar 0) "rows") tNil))))) (tRaise c.A.BE (tCons (tC (.str "no such pass")) tNil) E) tNext)
theorem p_Book__require (hr : Room 2 (A.deeper (envOfC "Book._require" (defScope s_Book__require) s.heap.objs.size f cdv))) (T : Top K mg) (R_BookError : CalR P w K mg base 1 "BookError" ad.BE) :
    PSs (cxOf (L2.CX P w) P w K mg base N_Book__require "Book._require" (defScope s_Book__require) f cdv A outer s H E) (defBody s_Book__require) (t_Book__require (ct P w K tabs ad) E) :=
    have scN := sc_Book__require
    (pss_one (ps_if (pt_not (pt_chain op_le op_lt pe_int (pv 1) (pe_callB call_lenF rfl T.n_len boot_len (pa_cons (pe_fld (pv 0) rfl) pa_nil)))) (pss_one (ps_rz R_BookError rfl takesX (hr.mono (by decide)) rfl (pa_cons pe_str pa_nil))) pss_nil))
/-! ### Book.whole -/
abbrev s_Book_whole : Stmt := inClass (topS 44) 10
abbrev N_Book_whole : List Str := ["self"]
theorem sc_Book_whole : FnScope N_Book_whole ["self"] (defScope s_Book_whole) := ⟨rfl, rfl, rfl, by decide +kernel, rfl, by decide +kernel, by decide +kernel⟩
def t_Book_whole (c : Ct) (E : XK) : TS :=
      (tRet (tCall (sp_whole c) [] E (tCons (tFld c.K (tVar 0) "alphabet") (tCons (tFld c.K (tVar 0) "rows") tNil))))
theorem p_Book_whole (hr : Room 8 (A.deeper (envOfC "Book.whole" (defScope s_Book_whole) s.heap.objs.size f cdv))) (T : Top K mg) (C_whole : Cal P w K mg base (L2.CX P w) 8 "_whole" ["alphabet", "machines"] (sp_whole (ct P w K tabs ad))) :
    PSs (cxOf (L2.CX P w) P w K mg base N_Book_whole "Book.whole" (defScope s_Book_whole) f cdv A outer s H E) (defBody s_Book_whole) (t_Book_whole (ct P w K tabs ad) E) :=
    have scN := sc_Book_whole
    (pss_one (ps_ret (pe_cal C_whole (hr.mono (by decide)) rfl (passX takesX) (pa_cons (pe_fld (pv 0) rfl) (pa_cons (pe_fld (pv 0) rfl) pa_nil)))))
/-! ### Book.can_swap -/
abbrev s_Book_can_swap : Stmt := inClass (topS 44) 11
abbrev N_Book_can_swap : List Str := ["self", "index"]
theorem sc_Book_can_swap : FnScope N_Book_can_swap ["self", "index"] (defScope s_Book_can_swap) := ⟨rfl, rfl, rfl, by decide +kernel, rfl, by decide +kernel, by decide +kernel⟩
def t_Book_can_swap (c : Ct) (E : XK) : TS :=
      (tSeq (tDrop (tMeth c.A.Bk "_require" (sp_Book__require c) [] E (tVar 0) (tCons (tVar 1) tNil)))
      (tSeq (tDrop (tMeth c.A.Bk "_require" (sp_Book__require c) [] E (tVar 0) (tCons (tOp (rI0 fun i j => .int (i + j)) (tVar 1) (tC (.int 1))) tNil)))
      (tRet (tCall (sp_commutes c) [] E (tCons (tOp (rIxL c.K) (tFld c.K (tVar 0) "rows") (tVar 1)) (tCons (tOp (rIxL c.K) (tFld c.K (tVar 0) "rows") (tOp (rI0 fun i j => .int (i + j)) (tVar 1) (tC (.int 1)))) tNil))))))
theorem p_Book_can_swap (hr : Room 8 (A.deeper (envOfC "Book.can_swap" (defScope s_Book_can_swap) s.heap.objs.size f cdv))) (T : Top K mg) (C_commutes : Cal P w K mg base (L2.CX P w) 8 "commutes" ["one", "two"] (sp_commutes (ct P w K tabs ad))) (C_Book__require : CalT P w K mg base (L2.CX P w) 3 ad.Bk "_require" (sp_Book__require (ct P w K tabs ad))) :
    PSs (cxOf (L2.CX P w) P w K mg base N_Book_can_swap "Book.can_swap" (defScope s_Book_can_swap) f cdv A outer s H E) (defBody s_Book_can_swap) (t_Book_can_swap (ct P w K tabs ad) E) :=
    have scN := sc_Book_can_swap
    (pss_cons (ps_expr (pe_mtc C_Book__require (hr.mono (by decide)) (passX takesX) (pv 0) (pa_cons (pv 1) pa_nil)))
      (pss_cons (ps_expr (pe_mtc C_Book__require (hr.mono (by decide)) (passX takesX) (pv 0) (pa_cons (pe_op op_add (pv 1) pe_int) pa_nil)))
      (pss_one (ps_ret (pe_cal C_commutes (hr.mono (by decide)) rfl (passX takesX) (pa_cons (pe_ix ix_list (pe_fld (pv 0) rfl) (pv 1) (fun _ _ => rfl)) (pa_cons (pe_ix ix_list (pe_fld (pv 0) rfl) (pe_op op_add (pv 1) pe_int) (fun _ _ => rfl)) pa_nil)))))))
/-! ### Book.idle_passes -/
abbrev s_Book_idle_passes : Stmt := inClass (topS 44) 12
abbrev N_Book_idle_passes : List Str := ["self", "whole", "idle", "index", "rest"]
theorem sc_Book_idle_passes : FnScope N_Book_idle_passes ["self"] (defScope s_Book_idle_passes) := ⟨rfl, rfl, rfl, by decide +kernel, rfl, by decide +kernel, by decide +kernel⟩
def t_Book_idle_passes (c : Ct) (E : XK) : TS :=
      (tSeq (tAsg (tCall (sp_form c) [] E0 (tCons (tMeth c.A.Bk "whole" (sp_Book_whole c) [] E (tVar 0) tNil) tNil)) (gName 1))
      (tSeq (tAsg (tLst tNil) (gName 2))
      (tSeq (tFor (iRng1 (tCons (tCB (rLenF c.K) (tCons (tFld c.K (tVar 0) "rows") tNil)) tNil)) (gName 3)
      (tSeq (tAsg (tOp rCat (tSl (rSlL c.K) (tFld c.K (tVar 0) "rows") tNoPart (tPart (tVar 3))) (tSl (rSlL c.K) (tFld c.K (tVar 0) "rows") (tPart (tOp (rI0 fun i j => .int (i + j)) (tVar 3) (tC (.int 1)))) tNoPart)) (gName 4))
      (tIfS (tTest (tOp (rEqD c.K) (tCall (sp_form c) [] E0 (tCons (tCall (sp_whole c) [] E (tCons (tFld c.K (tVar 0) "alphabet") (tCons (tVar 4) tNil))) tNil)) (tVar 1))) (tDrop (tBM c.K "list" rAppend (tVar 2) (tCons (tVar 3) tNil))) tNext)))
      (tRet (tVar 2)))))
theorem p_Book_idle_passes (hr : Room 9 (A.deeper (envOfC "Book.idle_passes" (defScope s_Book_idle_passes) s.heap.objs.size f cdv))) (T : Top K mg) (C_form : Cal P w K mg base CX0 1 "form" ["machine"] (sp_form (ct P w K tabs ad))) (C_whole : Cal P w K mg base (L2.CX P w) 8 "_whole" ["alphabet", "machines"] (sp_whole (ct P w K tabs ad))) (C_Book_whole : CalT P w K mg base (L2.CX P w) 9 ad.Bk "whole" (sp_Book_whole (ct P w K tabs ad))) :
    PSs (cxOf (L2.CX P w) P w K mg base N_Book_idle_passes "Book.idle_passes" (defScope s_Book_idle_passes) f cdv A outer s H E) (defBody s_Book_idle_passes) (t_Book_idle_passes (ct P w K tabs ad) E) :=
    have scN := sc_Book_idle_passes
    (pss_cons (ps_set (i := 1) scN.nd rfl (Or.inl rfl) (pe_cal C_form (hr.mono (by decide)) rfl pass0 (pa_cons (pe_mtc0 C_Book_whole (hr.mono (by decide)) (passX takesX) (pv 0)) pa_nil)))
      (pss_cons (ps_set (i := 2) scN.nd rfl (Or.inl rfl) (pe_lst pa_nil))
      (pss_cons (ps_for (passes_of rfl) rfl (pi_range1 rfl T.n_range (pa_cons (pe_callB call_lenF rfl T.n_len boot_len (pa_cons (pe_fld (pv 0) rfl) pa_nil)) pa_nil)) (pg_name (i := 3) scN.nd rfl (Or.inl rfl))
      (pss_cons (ps_set (i := 4) scN.nd rfl (Or.inl rfl) (pe_op op_cat (pe_slice sl_list (pe_fld (pv 0) rfl) po_none (po_some (pv 3))) (pe_slice sl_list (pe_fld (pv 0) rfl) (po_some (pe_op op_add (pv 3) pe_int)) po_none)))
      (pss_one (ps_if (pt_cmpR (op_eqD hr.units) (pe_cal C_form (hr.mono (by decide)) rfl pass0 (pa_cons (pe_cal C_whole (hr.mono (by decide)) rfl (passX takesX) (pa_cons (pe_fld (pv 0) rfl) (pa_cons (pv 4) pa_nil))) pa_nil)) (pv 1) (nomark _)) (pss_one (ps_expr (pe_bm PySem.F.plainAttrs_list PySem.F.slot_list_append PySem.F.type_list_append mt_append (pv 2) (pa_cons (pv 3) pa_nil)))) pss_nil))))
      (pss_one (ps_ret (pv 2))))))
end
end Fx
/-! text FxBook -/
namespace Fx
open PySem L2 Evl PyProof.Rows Mir NdefX

/-! ### self written -/
def putDs : List Str → List D → Str → D → List D
  | n :: ns, x :: ds, f, d => if n = f then d :: ds else x :: putDs ns ds f d
  | _, _, _, _ => []
theorem putF_in {K : PySem.W.Frag} {G : Hp} {f : Str} {v : V} {d : D} (rv : Rp K G d v) : ∀ {fs : List (Str × V)} {ds : List D}, f ∈ fs.map (·.1) → RpL K G ds (fs.map (·.2)) → (putF f v fs).map (·.1) = fs.map (·.1) ∧ RpL K G (putDs (fs.map (·.1)) ds f d) ((putF f v fs).map (·.2))
  | [], _, h, _ => by simp at h
  | (g, x) :: fs, ds, h, r => by
    rw [List.map_cons] at r
    cases r with
    | @cons d0 _ ds _ a b =>
      by_cases e : g = f
      · have e1 : putF f v ((g, x) :: fs) = (g, v) :: fs := by rw [putF, if_pos e]
        rw [e1, List.map_cons, List.map_cons, List.map_cons, putDs, if_pos e]
        exact ⟨rfl, .cons rv b⟩
      · have e1 : putF f v ((g, x) :: fs) = (g, x) :: putF f v fs := by rw [putF, if_neg e]
        have hm : f ∈ fs.map (·.1) := by
          rw [List.map_cons] at h
          rcases List.mem_cons.mp h with z | z
          · exact absurd z.symm e
          · exact z
        obtain ⟨h1, h2⟩ := putF_in rv hm b
        rw [e1, List.map_cons, List.map_cons, List.map_cons, putDs, if_neg e]
        exact ⟨by rw [h1], .cons a h2⟩
section
variable {c : Ct} {E : XK} {G H G0 H0 : Hp} {p C dx : Addr} {fs : List (Str × V)} {ρr : Env} {σ : L2.St} {ns : List Str} {ds : List D}
/-- self.f = e, self the caller's -/
theorem st_fldS {tv : TE} {d : D} {f : Str} (r : Rel c G H (some (.rs C ns ds) :: ρr) σ G H) (ha : allDat ρr = true) (h0 : σ[0]? = some (some (.ref p))) (hp : H p = some (.ins C dx fs)) (gp : G p = none) (nb : some p ≠ c.B) (hns : fs.map (·.1) = ns) (hl : RpL c.K G ds (fs.map (·.2))) (hv : EvE c tv (some (.rs C ns ds) :: ρr) d) (hc : Cls c.K C) (hn : NoAttr c.K C f) (hf : f ∈ ns) (hz : fs.length < 1000)
    {Dn : Ends} (q : ∀ fs' G' H', StpP p c G H G' H' → Rel c G' H' (some (.rs C ns (putDs ns ds f d)) :: ρr) σ G' H' → G' p = none → H' p = some (.ins C dx fs') → fs'.map (·.1) = ns → RpL c.K G' (putDs ns ds f d) (fs'.map (·.2)) → Dn.nx σ H') : sFld c.K (tVar 0) tv f Dn σ H := by
  refine hv _ _ _ _ _ r _ fun x v G1 H1 kx s1 rx => ?_
  subst kx
  have hp1 := s1.hh p _ nb (fun _ z => by cases z) hp
  have gp1 := (s1.toP (p := p)).gone gp hp
  refine ⟨_, h0, p, C, dx, fs, rfl, hp1, hc, hn, hz, ?_⟩
  have s2 := StpP.put (fs' := putF f v fs) s1.ok gp1 nb hp1
  subst hns
  obtain ⟨e1, e2⟩ := putF_in rx hf (hl.up s1.gg)
  refine q (putF f v fs) G1 _ (s1.toP.trans s2) ⟨.refl s2.ok, r.len, fun j cl e => ?_, fun j k cj ck n e1 e2 m1 m2 => ?_⟩ gp1 upd_same e1 e2
  · cases j with
    | zero =>
      simp only [List.getElem?_cons_zero, Option.some.injEq] at e
      subst e
      exact ⟨_, h0, p, dx, putF f v fs, rfl, ⟨(by rw [upd_same]; intro z; cases z), gp1, nb⟩, upd_same, e1, e2⟩
    | succ j =>
      rw [List.getElem?_cons_succ] at e
      obtain ⟨d', rfl⟩ := allDat_get ha e
      obtain ⟨v', h1, h2⟩ := r.slot (j + 1) (.dat d') (by rw [List.getElem?_cons_succ]; exact e)
      exact ⟨v', h1, Rp.up s1.gg h2⟩
  · cases j with
    | zero =>
      simp only [List.getElem?_cons_zero, Option.some.injEq] at e1
      subst e1
      cases m1
    | succ j =>
      rw [List.getElem?_cons_succ] at e1
      obtain ⟨d', rfl⟩ := allDat_get ha e1
      cases m1
/-- self.m(..), self the caller's and written -/
theorem ts_methS {ι : Type} {fl args : ι → List D} {pre : ι → Prop} {fl' : ι → List D} {m : Str} {ta : TA} (j : ι) (hB : c.B = none) (r : Rel c G0 H0 (some (.rs C ns (fl j)) :: ρr) σ G H) (h0 : σ[0]? = some (some (.ref p))) (hm : ∀ fs : List (Str × V), fs.map (·.1) = ns → fs.lookup m = none) (ha : EvAE c ta (some (.rs C ns (fl j)) :: ρr) (args j)) (hp : pre j)
    {Dn : Ends} (q : ∀ fs' dx G' H', StpP p c G H G' H' → G' p = none → H' p = some (.ins C dx fs') → fs'.map (·.1) = ns → RpL c.K G' (fl' j) (fs'.map (·.2)) → (∃ fs, H p = some (.ins C dx fs)) → Dn.nx σ H') : tDrop (tMeth C m (SpW c C ns fl args pre fl') [] E (tVar 0) ta) Dn σ H := by
  have eB : ({ c with B := none } : Ct) = c := by cases c; cases hB; rfl
  obtain ⟨v, h1, p', dx, fs, rfl, ow, hpp, hnm, hl⟩ := r.slot 0 _ rfl
  have ep : p' = p := by
    rw [h0] at h1
    have := Option.some.inj (Option.some.inj h1)
    injection this with this
    exact this.symm
  subst ep
  refine ⟨_, h0, p', dx, fs, rfl, hpp, hm fs hnm, ?_⟩
  refine ha _ _ _ _ _ r _ fun x vs G1 H1 kx s1 rx => ?_
  subst kx
  rw [List.append_nil]
  have hp1 := s1.hh p' _ ow.2.2 (fun _ z => by cases z) hpp
  have gp1 := (s1.toP (p := p')).gone ow.2.1 hpp
  refine ⟨j, G1, p', dx, fs, vs, rfl, s1.ok.noB, hp1, gp1, hnm, hl.up s1.gg, rx, hp, fun G' H' fs' s hH gp hnm' hl' => ?_⟩
  rw [eB] at s
  exact q fs' dx G' H' (s1.toP.trans s) gp hH hnm' hl' ⟨fs, hpp⟩
theorem ts_ifF {tt : TT} {t u : TS} {ρ : Env} {Dn : Ends} (h : EvT c tt ρ false) (r : Rel c G0 H0 ρ σ G H) (k : ∀ G' H', Rel c G0 H0 ρ σ G' H' → u Dn σ H') : tSeq (tIfS tt t tNext) u Dn σ H := by
  refine h _ _ _ _ _ r _ fun b G' H' kb s => ?_
  subst kb
  exact iteF (k G' H' (r.stp s))
/-! ### Book -/
theorem ev_bAl (hK : BOk c) {al : Al} {ms : List Mc} {bs : List D} {te : TE} {ρ : Env} (h : EvE c te ρ (eBk c al ms bs)) : EvE c (tFld c.K te "alphabet") ρ (.str (alS al)) := ev_fld h hK.cls (hK.na _ (by decide)) rfl
theorem ev_bRows (hK : BOk c) {al : Al} {ms : List Mc} {bs : List D} {te : TE} {ρ : Env} (h : EvE c te ρ (eBk c al ms bs)) : EvE c (tFld c.K te "rows") ρ (.lst (ms.map (eM c.A.M al))) := ev_fld h hK.cls (hK.na _ (by decide)) rfl
theorem init_Book (hK : BOk c) {vs : List V} {H : Hp} {Q : VK} {E' : XK} (hB : c.B = none) (h : sp_Book___init__ c vs H Q E') : t_Book___init__ c { nx := fun _ H' => Q .non H', rt := Q } (L2.start N_Book___init__ vs) H := by
  obtain ⟨al, G, p, dx, ws, rfl, ok, hp, gp, ra, hal, q⟩ := h
  have eB : ({ c with B := none } : Ct) = c := by cases c; cases hB; rfl
  rw [eB] at ok q
  have nb : some p ≠ c.B := by rw [hB]; exact fun z => by cases z
  have r0 : Rel c G H ([some (.dat (.raw (.ref p))), some (.dat (.str (alS al)))] : Env) _ G H := Rel.init ok (.cons (.raw (.ref p)) ra) N_Book___init__
  have ad : allDat ([some (.dat (.raw (.ref p))), some (.dat (.str (alS al)))] : Env) = true := rfl
  refine st_fld r0 ad rfl gp nb hp (ev_var (i := 1) rfl) hK.cls (hK.na _ (by decide)) (by decide) fun v4 G4 H4 s4 r4 gp4 hp4 rv4 => ?_
  have hp4 : H4 p = some (.ins c.A.Bk dx [("alphabet", v4)]) := hp4
  refine st_fld r4 ad rfl gp4 nb hp4 (ev_lst ea_nil) hK.cls (hK.na _ (by decide)) (by show 1 < 1000; decide) fun v5 G5 H5 s5 r5 gp5 hp5 rv5 => ?_
  have hp5 : H5 p = some (.ins c.A.Bk dx [("alphabet", v4), ("rows", v5)]) := hp5
  refine st_fld r5 ad rfl gp5 nb hp5 (ev_lst ea_nil) hK.cls (hK.na _ (by decide)) (by show 2 < 1000; decide) fun v6 G6 H6 s6 r6 gp6 hp6 rv6 => ?_
  refine q G6 H6 _ ((s4.trans s5).trans s6) hp6 gp6 rfl ?_
  exact .cons ((rv4.up s5.gg).up s6.gg) (.cons (rv5.up s6.gg) (.cons rv6 .nil))
theorem run_change (hK : BOk c) {vs : List V} {H : Hp} {Q : VK} {E' : XK} (hB : c.B = none) (h : sp_Book__change c vs H Q E') : t_Book__change c { nx := fun _ H' => Q .non H', rt := Q } (L2.start N_Book__change vs) H := by
  obtain ⟨⟨⟨al, ms, bs⟩, ns⟩, G, p, dx, fs, ws, rfl, ok, hp, gp, hn, hl, hw, hz, q⟩ := h
  have eB : ({ c with B := none } : Ct) = c := by cases c; cases hB; rfl
  rw [eB] at ok q
  have hz : bs.length ≤ 1000 := hz
  have nb : some p ≠ c.B := by rw [hB]; exact fun z => by cases z
  have hlen : fs.length = 3 := by rw [← List.length_map (f := Prod.fst), hn]; rfl
  have r0 : Rel c G H (some (.rs c.A.Bk bNames (bFlds c al ms bs)) :: [some (.dat (.lst (ns.map (eM c.A.M al))))]) _ G H := Rel.initS ok hp gp nb hn hl hw N_Book__change
  refine st_fldS r0 rfl rfl hp gp nb hn hl (ev_opE (x := .lst bs) (ev_fldS (i := 0) rfl hK.cls (hK.na _ (by decide)) rfl) (ev_lst (ea_cons (ev_fldS (i := 0) (d := .lst (ms.map (eM c.A.M al))) rfl hK.cls (hK.na _ (by decide)) rfl) ea_nil)) (rop_catL (by show bs.length + 1 ≤ 100000; omega))) hK.cls (hK.na _ (by decide)) (by decide) (by omega) fun fs1 G1 H1 s1 r1 gp1 hp1 hn1 hl1 => ?_
  have hlen1 : fs1.length = 3 := by rw [← List.length_map (f := Prod.fst), hn1]; rfl
  refine st_fldS r1 rfl rfl hp1 gp1 nb hn1 hl1 (ev_var (i := 1) rfl) hK.cls (hK.na _ (by decide)) (by decide) (by omega) fun fs2 G2 H2 s2 r2 gp2 hp2 hn2 hl2 => ?_
  exact q G2 H2 fs2 (s1.trans s2) hp2 gp2 hn2 hl2
theorem run_insert (hM : MOk c) (hK : BOk c) {vs : List V} {H : Hp} {Q : VK} {E' : XK} (hB : c.B = none) (h : sp_Book_insert c vs H Q E') : t_Book_insert c { nx := fun _ H' => Q .non H', rt := Q } (L2.start N_Book_insert vs) H := by
  obtain ⟨⟨⟨al, ms, bs⟩, m⟩, G, p, dx, fs, ws, rfl, ok, hp, gp, hn, hl, hw, ⟨bk, h6, hz, hm⟩, q⟩ := h
  have eB : ({ c with B := none } : Ct) = c := by cases c; cases hB; rfl
  rw [eB] at ok q
  have hz : bs.length ≤ 1000 := hz
  have h6 : ms.length < 6 := h6
  have nb : some p ≠ c.B := by rw [hB]; exact fun z => by cases z
  have r0 : Rel c G H ([some (.rs c.A.Bk bNames (bFlds c al ms bs)), some (.dat (eI ms.length)), some (.dat (eM c.A.M al m))] : Env) _ G H := Rel.initS ok hp gp nb hn hl hw N_Book_insert
  have rows : EvE c (tFld c.K (tVar 0) "rows") ([some (.rs c.A.Bk bNames (bFlds c al ms bs)), some (.dat (eI ms.length)), some (.dat (eM c.A.M al m))] : Env) (.lst (ms.map (eM c.A.M al))) := ev_fldS (i := 0) rfl hK.cls (hK.na _ (by decide)) rfl
  have alph : EvE c (tFld c.K (tVar 0) "alphabet") ([some (.rs c.A.Bk bNames (bFlds c al ms bs)), some (.dat (eI ms.length)), some (.dat (eM c.A.M al m))] : Env) (.str (alS al)) := ev_fldS (i := 0) rfl hK.cls (hK.na _ (by decide)) rfl
  have hlen : EvE c (tCB (rLenF c.K) (tCons (tFld c.K (tVar 0) "rows") tNil)) ([some (.rs c.A.Bk bNames (bFlds c al ms bs)), some (.dat (eI ms.length)), some (.dat (eM c.A.M al m))] : Env) (.int (ms.length : Nat)) := ev_lenEq rows (by rw [List.length_map])
  refine ts_ifF (EvT.to (et_not (et_test (ev_chain ev_int (ev_var (i := 1) rfl) rop_B0 (fun _ => hlen) fun _ => rop_B0))) ?_) r0 fun G1 H1 r1 => ?_
  · rw [decide_eq_true (show (0 : Int) ≤ (ms.length : Nat) by omega), decide_eq_true (show ((ms.length : Nat) : Int) ≤ (ms.length : Nat) by omega)]
    rfl
  refine ts_ifF (EvT.to (et_test (ev_opE hlen ev_int rop_B0)) ?_) r1 fun G2 H2 r2 => ?_
  · rw [decide_eq_false (show ¬ (6 : Int) ≤ (ms.length : Nat) by omega)]
  refine ts_ifF (et_or (a := false) (b := false) (EvT.to (et_test (ev_opE (ev_reads hM (ev_var (i := 2) rfl)) alph rop_neS)) (by simp)) fun _ => EvT.to (et_test (ev_opE (ev_writes hM (ev_var (i := 2) rfl)) alph rop_neS)) (by simp)) r2 fun G3 H3 r3 => ?_
  refine ts_methS (j := (((al, ms, bs), ms ++ [m]) : Bk × List Mc)) hB r3 rfl (fun fs hfs => ?_) (ea_cons (EvE.to (ev_opE (x := .lst (ms.map (eM c.A.M al) ++ [eM c.A.M al m])) (y := .lst []) (ev_opE (x := .lst (ms.map (eM c.A.M al))) (y := .lst [eM c.A.M al m]) ((ev_slL rows eo_none (eo_some (ev_var (i := 1) rfl)) : EvE c _ _ _).to ?_) (ev_lst (ea_cons (ev_callE (f := fun i : Al × Mc => eM c.A.M i.1 i.2) (al, m) (ea_cons (ev_var (i := 2) rfl) ea_nil) ⟨bk.al, hm⟩) ea_nil)) (rop_catL (by rw [List.length_map]; show ms.length + 1 ≤ 100000; omega)))
    ((ev_slL rows (eo_some (ev_var (i := 1) rfl)) eo_none : EvE c _ _ _).to ?_) (rop_catL (by rw [List.length_append, List.length_map]; show ms.length + 1 + 0 ≤ 100000; omega))) ?_) ea_nil) hz fun fs' dx' G' H' s gp' hp' hn' hl' ⟨fs0, hp0⟩ => ?_
  · match fs, hfs with
    | [(n1, v1), (n2, v2), (n3, v3)], hfs =>
      have e : [n1, n2, n3] = bNames := hfs
      injection e with e1 e
      injection e with e2 e
      injection e with e3 _
      subst e1 e2 e3
      rfl
  · unfold cutD
    rw [HT.sIx_none, HT.sIx_nat, List.length_map, List.drop_zero, Nat.min_self, Nat.sub_zero, ← List.length_map (f := eM c.A.M al), List.take_length]
  · unfold cutD
    rw [HT.sIx_none, HT.sIx_nat, List.length_map, Nat.min_self, Nat.sub_self, List.take_zero]
  · rw [List.append_nil, List.map_append]
    rfl
  · have hp3 := r3.st.hh p _ nb (fun _ z => by cases z) hp
    have ed : dx' = dx := by
      rw [hp0] at hp3
      injection hp3 with hp3
      injection hp3
    subst ed
    exact q G' H' fs' (r3.st.toP.trans s) hp' gp' hn' hl'
/-! ### reading methods -/
theorem as_Book__require (hK : BOk c) (i : Bk × Int) (_ : True) : AS c E (t_Book__require c E) (entry N_Book__require [eBk c i.1.1 i.1.2.1 i.1.2.2, .int i.2])
    { nx := fun _ => 0 ≤ i.2 ∧ i.2 < i.1.2.1.length, rt := fun d => (0 ≤ i.2 ∧ i.2 < i.1.2.1.length) ∧ d = .non, ex := fun C s => ¬ (0 ≤ i.2 ∧ i.2 < i.1.2.1.length) ∧ C = c.A.BE ∧ s = noPass } := by
  obtain ⟨⟨al, ms, bs⟩, n⟩ := i
  have hlen : EvE c (tCB (rLenF c.K) (tCons (tFld c.K (tVar 0) "rows") tNil)) (entry N_Book__require [eBk c al ms bs, .int n]) (.int (ms.length : Nat)) := ev_lenEq (ev_bRows hK (ev_var (i := 0) rfl)) (by rw [List.length_map])
  refine as_ifT (et_not (et_test (ev_chain ev_int (ev_var (i := 1) rfl) rop_B0 (fun _ => hlen) fun _ => rop_B0))) (fun hb => ?_) fun hb => ?_
  · refine as_raise (ea_cons ev_str ea_nil) ⟨fun z => ?_, rfl, rfl⟩
    have z : 0 ≤ n ∧ n < ms.length := z
    rw [decide_eq_true z.1, decide_eq_true z.2] at hb
    cases hb
  · refine as_next ?_
    simp only [Bool.not_eq_false', Bool.and_eq_true, decide_eq_true_eq] at hb
    exact hb
theorem as_Book_whole (hK : BOk c) (i : Bk) (h : BkOk i) : AS c E (t_Book_whole c E) (entry N_Book_whole [eBk c i.1 i.2.1 i.2.2])
    { nx := fun _ => False, rt := fun d => ∃ m, cascadeP i.2.1 = some m ∧ d = eM c.A.M i.1 m, ex := fun C s => cascadeP i.2.1 = none ∧ C = c.A.ME ∧ s = tooMany } :=
  as_retX (evx_call (i.1, i.2.1) (ea_cons (ev_bAl hK (ev_var rfl)) (ea_cons (ev_bRows hK (ev_var rfl)) ea_nil)) ⟨h.al, h.len, h.ms⟩) (fun d hd => hd) fun C s hx => hx
theorem bk_no {m : Str} (h : m ∉ bNames) (fs : List (Str × V)) (hfs : fs.map (·.1) = bNames) : fs.lookup m = none := by
  match fs, hfs with
  | [(n1, v1), (n2, v2), (n3, v3)], hfs =>
    have e : [n1, n2, n3] = bNames := hfs
    injection e with e1 e
    injection e with e2 e
    injection e with e3 _
    subst e1 e2 e3
    have h1 : (m == ("alphabet" : Str)) = false := beq_eq_false_iff_ne.mpr fun z => h (by rw [z]; simp [bNames])
    have h2 : (m == ("rows" : Str)) = false := beq_eq_false_iff_ne.mpr fun z => h (by rw [z]; simp [bNames])
    have h3 : (m == ("before" : Str)) = false := beq_eq_false_iff_ne.mpr fun z => h (by rw [z]; simp [bNames])
    rw [List.lookup_cons, h1, List.lookup_cons, h2, List.lookup_cons, h3]
    rfl
theorem at_ms {f : Mc → D} {ms : List Mc} {k : Nat} (h : k < ms.length) : L2.atI (ms.map f) (k : Int) = some (f (ms.getD k idM)) := by
  refine at_nat ?_
  rw [List.getElem?_map, List.getD_eq_getElem?_getD, List.getElem?_eq_getElem h]
  rfl
theorem ms_mem {ms : List Mc} {k : Nat} (h : k < ms.length) : ms.getD k idM ∈ ms := by
  rw [List.getD_eq_getElem?_getD, List.getElem?_eq_getElem h]
  exact List.getElem_mem _
theorem as_Book_can_swap (hK : BOk c) (i : Bk × Nat) (h : BkOk i.1) : AS c E (t_Book_can_swap c E) (entry N_Book_can_swap [eBk c i.1.1 i.1.2.1 i.1.2.2, eI i.2])
    { nx := fun _ => False, rt := fun d => i.2 + 1 < i.1.2.1.length ∧ ∃ b, swapP i.1.2.1 i.2 = some b ∧ d = .bl b,
      ex := fun C s => (¬ i.2 + 1 < i.1.2.1.length ∧ C = c.A.BE ∧ s = noPass) ∨ (i.2 + 1 < i.1.2.1.length ∧ swapP i.1.2.1 i.2 = none ∧ C = c.A.ME ∧ s = tooMany) } := by
  obtain ⟨⟨al, ms, bs⟩, k⟩ := i
  refine as_seq (as_dropX (evx_meth (((al, ms, bs), (k : Int)) : Bk × Int) (ev_var (i := 0) rfl) (bk_no (by decide)) (ea_cons (ev_var (i := 1) rfl) ea_nil) rfl True.intro) (fun d hd => ?_) fun C s hx => .inl ⟨?_, hx.2⟩)
  · refine as_seq (as_dropX (evx_meth (((al, ms, bs), (k : Int) + 1) : Bk × Int) (ev_var (i := 0) rfl) (bk_no (by decide)) (ea_cons (ev_opE (ev_var (i := 1) rfl) ev_int rop_I0) ea_nil) rfl True.intro) (fun d hd => ?_) fun C s hx => .inl ⟨?_, hx.2⟩)
    · have hk : k + 1 < ms.length := by
        have := hd.1.2
        have : (k : Int) + 1 < ms.length := this
        omega
      have k0 : k < ms.length := by omega
      have ha : McOk 40 (ms.getD k idM) := h.ms _ (ms_mem k0)
      have hb : McOk 40 (ms.getD (k + 1) idM) := h.ms _ (ms_mem hk)
      refine as_retX (evx_call (al, ms.getD k idM, ms.getD (k + 1) idM) (ea_cons (ev_opE (ev_bRows hK (ev_var rfl)) (ev_var rfl) (rop_ixL (at_ms k0))) (ea_cons (ev_opE (y := .int ((k : Int) + 1)) (ev_bRows hK (ev_var rfl)) (ev_opE (ev_var rfl) ev_int rop_I0) (rop_ixL ?_)) ea_nil)) ⟨h.al, ha, hb⟩) (fun d hd => ⟨hk, ?_⟩) fun C s hx => .inr ⟨hk, ?_, hx.2⟩
      · exact at_ms hk
      · obtain ⟨x, y, hx, hy, rfl⟩ := hd
        exact ⟨_, by unfold swapP; rw [hx]; show (composeP (ms.getD (k + 1) idM) (ms.getD k idM)).bind _ = _; rw [hy]; rfl, rfl⟩
      · show swapP ms k = none
        have hx1 : composeP (ms.getD k idM) (ms.getD (k + 1) idM) = none ∨ composeP (ms.getD (k + 1) idM) (ms.getD k idM) = none := hx.1
        unfold swapP
        rcases hx1 with z | z
        · rw [z]; rfl
        · rw [z]
          cases composeP (ms.getD k idM) (ms.getD (k + 1) idM) <;> rfl
    · intro z
      have z : k + 1 < ms.length := z
      exact hx.1 ⟨by show (0 : Int) ≤ (k : Int) + 1; omega, by show (k : Int) + 1 < ms.length; omega⟩
  · intro z
    have z : k + 1 < ms.length := z
    exact hx.1 ⟨by show (0 : Int) ≤ (k : Int); omega, by show (k : Int) < ms.length; omega⟩
theorem idle_none {ms : List Mc} {w : Mc} {k : Nat} {acc : List Nat} (hw : cascadeP ms = some w) (h : (List.range k).foldlM (idleStep ms w) [] = some acc) (hk : k < ms.length) (hn : cascadeP (ms.take k ++ ms.drop (k + 1)) = none) : idleP ms = none := by
  unfold idleP
  rw [hw]
  refine foldlM_none (i := k + 1) ?_
  rw [List.take_range, Nat.min_eq_left (by omega), List.range_succ, foldlM_snoc, h]
  show idleStep ms w acc k = none
  unfold idleStep
  rw [hn]
  rfl
theorem as_Book_idle_passes (hK : BOk c) (i : Bk) (h : BkOk i) : AS c E (t_Book_idle_passes c E) (entry N_Book_idle_passes [eBk c i.1 i.2.1 i.2.2])
    { nx := fun _ => False, rt := fun d => ∃ ks, idleP i.2.1 = some ks ∧ d = eIs ks, ex := fun C s => idleP i.2.1 = none ∧ C = c.A.ME ∧ s = tooMany } := by
  obtain ⟨al, ms, bs⟩ := i
  have hal : al ∈ Als := h.al
  have hlen6 : ms.length ≤ 6 := h.len
  have hms : ∀ m ∈ ms, McOk 40 m := h.ms
  refine as_seq (as_setX (k := fun d => ∃ w, cascadeP ms = some w ∧ d = eF al w) (evx_call1 (evx_meth (m := "whole") ((al, ms, bs) : Bk) (ev_var (i := 0) rfl) (bk_no (by decide)) ea_nil rfl h) fun d hd => ?_) (fun d hd => ?_) fun C s hx => ?_)
  · obtain ⟨w, hw, rfl⟩ := hd
    exact ⟨(al, w), rfl, ⟨hal, cascadeP_40 hal hms hw⟩, fun e he => ⟨w, hw, he⟩⟩
  · obtain ⟨w, hw, rfl⟩ := hd
    have ow := cascadeP_40 hal hms hw
    refine as_seq (as_new ea_nil (by simp) ?_)
    show AS c E _ [some (.dat (eBk c al ms bs)), some (.dat (eF al w)), some (.ml []), none, none] _
    refine as_seq (as_for (ei_rng1 (n := (ms.length : Nat)) (ea_cons (ev_lenEq (ev_bRows hK (ev_var (i := 0) rfl)) (by rw [List.length_map])) ea_nil) (by omega))
      (fun k ρ => k ≤ ms.length ∧ ∃ acc, (List.range k).foldlM (idleStep ms w) [] = some acc ∧ acc.length ≤ k ∧ ρ = [some (.dat (eBk c al ms bs)), some (.dat (eF al w)), some (.ml (acc.map eI)), none, none]) ⟨Nat.zero_le _, [], rfl, Nat.le_refl _, rfl⟩ ?_ ?_)
    · rintro k x ρ hx ⟨_, acc, hacc, hal', rfl⟩
      obtain ⟨hk, rfl⟩ := upTo_get hx
      have hk : k < ms.length := hk
      rw [show (0 : Int) + (k : Nat) = (k : Nat) by omega]
      refine ⟨_, _, eg_name, ?_⟩
      have c1 : cutD (ms.map (eM c.A.M al)) none (some (k : Int)) = (ms.take k).map (eM c.A.M al) := by
        unfold cutD
        rw [HT.sIx_none, HT.sIx_nat, List.length_map, List.drop_zero, Nat.min_eq_left (by omega), Nat.sub_zero, List.map_take]
      have c2 : cutD (ms.map (eM c.A.M al)) (some ((k : Int) + 1)) none = (ms.drop (k + 1)).map (eM c.A.M al) := by
        unfold cutD
        rw [HT.sIx_none, show (k : Int) + 1 = ((k + 1 : Nat) : Int) by omega, HT.sIx_nat, List.length_map, Nat.min_eq_left (by omega), List.map_drop]
        exact List.take_of_length_le (by rw [List.length_drop, List.length_map]; exact Nat.le_refl _)
      refine as_seq (as_setE (d := .lst ((ms.take k ++ ms.drop (k + 1)).map (eM c.A.M al))) (EvE.to (ev_opE (x := .lst ((ms.take k).map (eM c.A.M al))) (y := .lst ((ms.drop (k + 1)).map (eM c.A.M al))) ((ev_slL (ev_bRows hK (ev_var (i := 0) rfl)) eo_none (eo_some (ev_var (i := 3) rfl)) : EvE c _ _ _).to (by rw [c1]))
        ((ev_slL (ev_bRows hK (ev_var (i := 0) rfl)) (eo_some (ev_opE (ev_var (i := 3) rfl) ev_int rop_I0)) eo_none : EvE c _ _ _).to (by rw [c2])) (rop_catL (by rw [List.length_map, List.length_map, List.length_take, List.length_drop]; omega))) (by rw [List.map_append])) ?_)
      show AS c E _ [some (.dat (eBk c al ms bs)), some (.dat (eF al w)), some (.ml (acc.map eI)), some (.dat (eI k)), some (.dat (.lst ((ms.take k ++ ms.drop (k + 1)).map (eM c.A.M al))))] _
      have hrm : ∀ m ∈ ms.take k ++ ms.drop (k + 1), McOk 40 m := fun m hm => by
        rcases List.mem_append.mp hm with z | z
        · exact hms m (List.mem_of_mem_take z)
        · exact hms m (List.mem_of_mem_drop z)
      have hrl : (ms.take k ++ ms.drop (k + 1)).length ≤ 6 := by rw [List.length_append, List.length_take, List.length_drop]; omega
      refine as_ifX (k := fun d => ∃ r, cascadeP (ms.take k ++ ms.drop (k + 1)) = some r ∧ d = .bl (decide (r = w))) (evx_op (k := fun d => ∃ r, cascadeP (ms.take k ++ ms.drop (k + 1)) = some r ∧ d = eF al r) (evx_call1 (evx_call ((al, ms.take k ++ ms.drop (k + 1)) : Al × List Mc) (ea_cons (ev_bAl hK (ev_var (i := 0) rfl)) (ea_cons (ev_var (i := 4) rfl) ea_nil)) ⟨hal, hrl, hrm⟩) fun d hd => ?_) fun d hd => ?_) (fun d hd => ?_) fun C s hx => ?_
      · obtain ⟨r, hr, rfl⟩ := hd
        exact ⟨(al, r), rfl, ⟨hal, cascadeP_40 hal hrm hr⟩, fun e he => ⟨r, hr, he⟩⟩
      · obtain ⟨r, hr, rfl⟩ := hd
        have orr := cascadeP_40 hal hrm hr
        refine ⟨eF al w, ev_var (i := 1) rfl, fun G H ok v u rv ru Q q => (rop_eqD (b := decide (r = w)) (pl_form hal orr) (pl_form hal ow) (by rw [decide_eq_true_iff, form_inj hal orr ow])) G H ok v u rv ru Q fun d x G' H' e s rd => q d x G' H' ⟨r, hr, e⟩ s rd⟩
      · obtain ⟨r, hr, rfl⟩ := hd
        have hst : (List.range (k + 1)).foldlM (idleStep ms w) [] = some (if r = w then acc ++ [k] else acc) := by
          rw [List.range_succ, foldlM_snoc, hacc]
          show idleStep ms w acc k = _
          unfold idleStep
          rw [hr]
          rfl
        refine ⟨_, rfl, fun hb => ?_, fun hb => ?_⟩
        · have e : r = w := by simpa using hb
          rw [if_pos e] at hst
          refine as_appE rfl (ev_var (i := 3) rfl) (by rw [List.length_map]; omega) ?_
          exact ⟨_, .keep (.keep (.keep (.drop (.drop .nil)))), by omega, acc ++ [k], hst, by rw [List.length_append]; show _ + 1 ≤ _; omega, by rw [List.map_append]; rfl⟩
        · have e : r ≠ w := by simpa using hb
          rw [if_neg e] at hst
          exact as_next ⟨_, .keep (.keep (.keep (.drop (.drop .nil)))), by omega, acc, hst, by omega, rfl⟩
      · obtain ⟨h1, h2⟩ := hx
        exact ⟨idle_none hw hacc hk h1, h2⟩
    · rintro ρ ⟨_, acc, hacc, _, rfl⟩
      rw [upTo_length, show ((ms.length : Nat) : Int).toNat = ms.length by omega] at hacc
      refine as_frz (i := 2) rfl ?_
      exact as_retE (ev_var rfl) ⟨acc, by show idleP ms = _; unfold idleP; rw [hw]; exact hacc, rfl⟩
  · refine ⟨?_, hx.2⟩
    show idleP ms = none
    unfold idleP
    have hx1 : cascadeP ms = none := hx.1
    rw [hx1]
    rfl
end
end Fx
set_option maxHeartbeats 200000
/-! text Plain4 -/
namespace Fx
open Mir MirL
/-! ### the law's states of a composition -/
theorem stepW_some {on : Th → Nat → Th} {o o' : List Th} {th : Th} {k : Nat} (h : stepW on o th k = some o') : o' = if on th k ∈ o then o else o ++ [on th k] := by
  unfold stepW at h
  split at h
  · cases h; rename_i hm; rw [if_pos hm]
  · split at h
    · cases h
    · cases h; rename_i hm _; rw [if_neg hm]
theorem stepW_none {on : Th → Nat → Th} {o : List Th} {th : Th} {k : Nat} (h : stepW on o th k = none) : 100 < (if on th k ∈ o then o else o ++ [on th k]).length := by
  unfold stepW at h
  split at h
  · cases h
  · rename_i hm
    split at h
    · rw [if_neg hm, List.length_append, List.length_singleton]
      omega
    · cases h
theorem step_le (on : Th → Nat → Th) (o : List Th) (th : Th) (k : Nat) : o.length ≤ (if on th k ∈ o then o else o ++ [on th k]).length := by
  split
  · exact Nat.le_refl _
  · rw [List.length_append]; omega
theorem rowL_fst (on : Th → Nat → Th) (o : List Th) (th : Th) : (rowL on o th).1 = if on th 1 ∈ (if on th 0 ∈ o then o else o ++ [on th 0]) then (if on th 0 ∈ o then o else o ++ [on th 0]) else (if on th 0 ∈ o then o else o ++ [on th 0]) ++ [on th 1] := rfl
theorem row_some {on : Th → Nat → Th} {o o' : List Th} {th : Th} {r : List Nat} (h : walkRow on o th = some (o', r)) (hl : o.length ≤ 100) : rowL on o th = (o', r) ∧ o'.length ≤ 100 := by
  unfold walkRow at h
  obtain ⟨o1, h1, h⟩ := Option.bind_eq_some_iff.mp h
  obtain ⟨o2, h2, h⟩ := Option.bind_eq_some_iff.mp h
  obtain ⟨q1, q2⟩ := Prod.mk.inj (Option.some.inj h)
  subst q1 q2
  obtain ⟨_, l1, m1⟩ := stepW_ok h1 hl
  obtain ⟨⟨zs, e2, _⟩, l2, _⟩ := stepW_ok h2 l1
  have e1 := stepW_some h1
  have e3 := stepW_some h2
  refine ⟨?_, l2⟩
  unfold rowL
  simp only
  rw [← e1, ← e3]
  have : o2.idxOf (on th 0) = o1.idxOf (on th 0) := by rw [e2, idxOf_pre m1]
  rw [this]
theorem row_none {on : Th → Nat → Th} {o : List Th} {th : Th} (h : walkRow on o th = none) : 100 < (rowL on o th).1.length := by
  rw [rowL_fst]
  unfold walkRow at h
  cases h1 : stepW on o th 0 with
  | none => exact Nat.lt_of_lt_of_le (stepW_none h1) (step_le _ _ _ _)
  | some o1 =>
    rw [h1] at h
    rw [← stepW_some h1]
    cases h2 : stepW on o1 th 1 with
    | none => exact stepW_none h2
    | some o2 =>
      have h' : (stepW on o1 th 1).bind (fun o2 => some (o2, [o2.idxOf (on th 0), o2.idxOf (on th 1)])) = none := h
      rw [h2] at h'
      cases h'
theorem grow_stop {on : Th → Nat → Th} : ∀ (n at_ : Nat) (o : List Th) (rs : List (List Nat)), (o.length ≤ at_ ∨ 100 < o.length) → grow on n at_ o rs = (o, rs)
  | 0, _, _, _, _ => rfl
  | n + 1, at_, o, rs, h => by
    rw [grow, if_neg (by omega)]
    exact grow_stop n (at_ + 1) o rs (by omega)
theorem grow_walk {on : Th → Nat → Th} : ∀ (n m : Nat) (o : List Th) (rs : List (List Nat)), o.length ≤ 100 → 101 ≤ n + rs.length → 101 ≤ m + rs.length →
    (∀ o' rs', walk on n o rs = some (o', rs') → grow on m rs.length o rs = (o', rs') ∧ o'.length ≤ 100) ∧ (walk on n o rs = none → 100 < (grow on m rs.length o rs).1.length)
  | 0, m, o, rs, hl, hn, hm => by
    refine ⟨fun o' rs' h => ?_, fun h => (by cases h)⟩
    cases h
    exact ⟨grow_stop _ _ _ _ (by omega), hl⟩
  | n + 1, m, o, rs, hl, hn, hm => by
    by_cases hlt : rs.length < o.length
    · obtain ⟨m, rfl⟩ : ∃ m', m = m' + 1 := ⟨m - 1, by omega⟩
      rw [walk, grow, if_pos hlt, if_pos ⟨hlt, hl⟩]
      cases hw : walkRow on o (o.getD rs.length (0, [])) with
      | none =>
        refine ⟨fun o' rs' h => (by cases h), fun _ => ?_⟩
        have := row_none hw
        rw [grow_stop _ _ _ _ (.inr this)]
        exact this
      | some x =>
        obtain ⟨o2, r⟩ := x
        obtain ⟨e, l2⟩ := row_some hw hl
        rw [e]
        have ih := grow_walk (on := on) n m o2 (rs ++ [r]) l2 (by rw [List.length_append, List.length_singleton]; omega) (by rw [List.length_append, List.length_singleton]; omega)
        rw [List.length_append, List.length_singleton] at ih
        exact ih
    · rw [walk, if_neg hlt, grow_stop _ _ _ _ (by omega)]
      refine ⟨fun o' rs' h => ?_, fun h => (by cases h)⟩
      cases h
      exact ⟨rfl, hl⟩
theorem grown_some {on : Th → Nat → Th} {first : Th} {o : List Th} {rs : List (List Nat)} (h : walked on first = some (o, rs)) : grown on first = (o, rs) ∧ o.length ≤ 100 :=
  (grow_walk 101 102 [first] [] (by simp) (by simp) (by simp)).1 o rs h
theorem grown_none {on : Th → Nat → Th} {first : Th} (h : walked on first = none) : 100 < (grown on first).1.length :=
  (grow_walk 101 102 [first] [] (by simp) (by simp) (by simp)).2 h
theorem composedL_eq {al : Al} (hal : al ∈ Als) {a b : Mc} (oa : McOk 40 a) (ob : McOk 40 b) : composedL a b = composeP a b := by
  have la := least_ok oa
  have lb := least_ok ob
  rw [composeP_eq]
  unfold composedL
  rw [leastL_eq oa (by decide), leastL_eq ob (by decide)]
  generalize leastP a = one at la
  generalize leastP b = two at lb
  simp only
  show (if (grown (leftOn one two) (fstL one)).1.length > 100 ∨ (grown (rightOn one two) (fstR one)).1.length > 100 then none else _) = _
  cases hf : walked (leftOn one two) (fstL one) with
  | none => rw [if_pos (.inl (grown_none hf))]; rfl
  | some x =>
    obtain ⟨fs, l⟩ := x
    obtain ⟨ef, lf⟩ := grown_some hf
    cases hb : walked (rightOn one two) (fstR one) with
    | none => rw [if_pos (.inr (grown_none hb))]; rfl
    | some y =>
      obtain ⟨bs, r⟩ := y
      obtain ⟨eb, lb2⟩ := grown_some hb
      have ok := (compT_ok hal la lb hf hb).1
      rw [show grown (leftOn one two) (0, List.replicate one.r.length 0) = (fs, l) from ef, show grown (rightOn one two) (0, List.replicate one.l.length 0) = (bs, r) from eb, ef, eb, if_neg (by simp only; omega)]
      show (if (leastL (compT one two fs bs l r)).l.length > 40 ∨ (leastL (compT one two fs bs l r)).r.length > 40 then none else some (leastL (compT one two fs bs l r))) = smallP (compT one two fs bs l r)
      rw [leastL_eq ok (Nat.le_refl _)]
      rfl
theorem foldlM_congrP {α β : Type} {f g : β → α → Option β} {P : β → Prop} : ∀ {xs : List α} {a : β}, P a → (∀ x ∈ xs, ∀ b, P b → f b x = g b x) → (∀ x ∈ xs, ∀ b c, P b → g b x = some c → P c) → xs.foldlM f a = xs.foldlM g a
  | [], _, _, _, _ => rfl
  | x :: xs, a, pa, h1, h2 => by
    rw [List.foldlM_cons, List.foldlM_cons, h1 x List.mem_cons_self a pa]
    cases q : g a x with
    | none => rfl
    | some y => exact foldlM_congrP (xs := xs) (a := y) (h2 x List.mem_cons_self a y pa q) (fun z hz => h1 z (List.mem_cons_of_mem _ hz)) fun z hz => h2 z (List.mem_cons_of_mem _ hz)
theorem fold_eq {al : Al} (hal : al ∈ Als) {ms : List Mc} {w : Mc} (hm : ∀ m ∈ ms, McOk 40 m) (ow : McOk 40 w) : ms.foldlM (fun w m => composedL w m) w = ms.foldlM (fun w m => composeP w m) w :=
  foldlM_congrP (P := McOk 40) ow (fun m h b ob => composedL_eq hal ob (hm m h)) fun m h b c ob e => compose_40 hal ob (hm m h) e
theorem wholeL_eq {al : Al} (hal : al ∈ Als) {ms : List Mc} (hm : ∀ m ∈ ms, McOk 40 m) : wholeL ms = cascadeP ms := by
  cases ms with
  | nil => rfl
  | cons m ms =>
    have o := hm m List.mem_cons_self
    show ms.foldlM (fun w m => composedL w m) (leastL m) = ms.foldlM (fun w m => composeP w m) (leastP m)
    rw [leastL_eq o (by decide)]
    exact fold_eq hal (fun y hy => hm y (List.mem_cons_of_mem _ hy)) (least_ok o)
theorem swapL_eq {al : Al} (hal : al ∈ Als) {ms : List Mc} (hm : ∀ m ∈ ms, McOk 40 m) {k : Nat} (hk : k + 1 < ms.length) : swapL ms k = swapP ms k := by
  have o1 := hm _ (ms_mem (show k < ms.length by omega))
  have o2 := hm _ (ms_mem hk)
  unfold swapL swapP
  rw [composedL_eq hal o1 o2, composedL_eq hal o2 o1]
theorem rest_ok {ms : List Mc} (hm : ∀ m ∈ ms, McOk 40 m) (k : Nat) : ∀ m ∈ ms.take k ++ ms.drop (k + 1), McOk 40 m := fun m h => by
  rcases List.mem_append.mp h with z | z
  · exact hm m (List.mem_of_mem_take z)
  · exact hm m (List.mem_of_mem_drop z)
theorem idleL_eq {al : Al} (hal : al ∈ Als) {ms : List Mc} (hm : ∀ m ∈ ms, McOk 40 m) : idleL ms = idleP ms := by
  unfold idleL idleP
  rw [wholeL_eq hal hm]
  refine congrArg (Option.bind (cascadeP ms)) (funext fun w => ?_)
  refine foldlM_congrP (P := fun _ => True) trivial (fun k _ acc _ => ?_) fun _ _ _ _ _ _ => trivial
  unfold idleStep
  rw [wholeL_eq hal (rest_ok hm k)]
end Fx
set_option maxHeartbeats 4000000
/-! text LawL -/
namespace Fx
open PySem L2 Evl PyProof.Rows NdefX Mir MirL
/-! ### _law_grown -/
theorem beq_any {α : Type} (i1 i2 : BEq α) [h1 : @LawfulBEq α i1] [h2 : @LawfulBEq α i2] : i1 = i2 := by
  obtain ⟨f⟩ := i1
  obtain ⟨g⟩ := i2
  have e : f = g := by
    funext x y
    have q1 : f x y = true ↔ x = y := @beq_iff_eq α ⟨f⟩ h1 x y
    have q2 : g x y = true ↔ x = y := @beq_iff_eq α ⟨g⟩ h2 x y
    rw [Bool.eq_iff_iff, q1, q2]
  rw [e]
theorem idxOf_any {α : Type} (i1 i2 : BEq α) [h1 : @LawfulBEq α i1] [h2 : @LawfulBEq α i2] (a : α) (xs : List α) : @List.idxOf α i1 a xs = @List.idxOf α i2 a xs := by rw [beq_any i1 i2]
abbrev mine (s : Bool) (m : Mc) : List (List Nat) := if s then m.r else m.l
abbrev oth (s : Bool) (m : Mc) : List (List Nat) := if s then m.l else m.r
def wordS (s : Bool) (one : Mc) (p j : Nat) : List Nat := if s then cell one.t j p else cell one.t p j
def valS (s : Bool) (one two : Mc) (th : Th) (k j : Nat) : Nat := (row (mine s two) (th.2.getD (nth (oth s one) k j) 0)).getD ((wordS s one th.1 j).getD k 0) 0
theorem onL_eq (s : Bool) (one two : Mc) (th : Th) (k : Nat) : onL s one two th k = (nth (mine s one) k th.1, (List.range (oth s one).length).map (valS s one two th k)) := by cases s <;> rfl
theorem fst_eq (s : Bool) (one : Mc) : fstOf s one = (0, List.replicate (oth s one).length 0) := by cases s <;> rfl
def ThS (s : Bool) (one two : Mc) (p : Th) : Prop := ThOk (mine s one).length (oth s one).length (mine s two).length p
theorem thS_eq (s : Bool) (one two : Mc) (p : Th) : ThS s one two p = thOkOf s one two p := by cases s <;> rfl
theorem onL_ok {s : Bool} {one two : Mc} (o1 : McOk 40 one) (o2 : McOk 40 two) {th : Th} {k : Nat} (h : ThS s one two th) (hk : k < 2) : ThS s one two (onL s one two th k) := by
  rw [thS_eq] at h ⊢
  exact onOf_ok (b := s) o1 o2 th k h hk
theorem mine_ok {s : Bool} {m : Mc} {N : Nat} (o : McOk N m) : RowsOk (mine s m).length (mine s m) ∧ 1 ≤ (mine s m).length ∧ (mine s m).length ≤ N := by cases s; exact ⟨o.lo, o.l1, o.lN⟩; exact ⟨o.ro, o.r1, o.rN⟩
theorem oth_ok {s : Bool} {m : Mc} {N : Nat} (o : McOk N m) : RowsOk (oth s m).length (oth s m) ∧ 1 ≤ (oth s m).length ∧ (oth s m).length ≤ N := by cases s; exact ⟨o.ro, o.r1, o.rN⟩; exact ⟨o.lo, o.l1, o.lN⟩
theorem word_ok {s : Bool} {m : Mc} {N p j : Nat} (o : McOk N m) (hp : p < (mine s m).length) (hj : j < (oth s m).length) : WOk (wordS s m p j) := by
  cases s
  · exact (o.tab.cell hp hj).2
  · exact (o.tab.cell hj hp).2
/-- one letter's states -/
def stepL (on : Th → Nat → Th) (o : List Th) (th : Th) (k : Nat) : List Th := if on th k ∈ o then o else o ++ [on th k]
def gkL (on : Th → Nat → Th) (o : List Th) (th : Th) : Nat → List Th × List Nat
  | 0 => (o, [])
  | k + 1 => (stepL on (gkL on o th k).1 th k, (gkL on o th k).2 ++ [(stepL on (gkL on o th k).1 th k).idxOf (on th k)])
theorem gkL_two (on : Th → Nat → Th) (o : List Th) (th : Th) : gkL on o th 2 = rowL on o th := rfl
theorem eTl_inj {p q : Th} (h : eTl p = eTl q) : p = q := by
  obtain ⟨h1, h2⟩ := List.cons.inj (D.tup.inj h)
  exact Prod.ext (eI_inj h1) (map_inj (fun _ _ _ _ => eI_inj) h2)
theorem pl_eTl (p : Th) : Pl 1 (eTl p) := fun d hd => by
  rcases List.mem_cons.mp hd with z | z
  · rw [z]; exact pl_int
  · obtain ⟨x, _, rfl⟩ := List.mem_map.mp z
    exact pl_int
theorem mem_eTl {p : Th} {o : List Th} : eTl p ∈ o.map eTl ↔ p ∈ o := ⟨fun h => by obtain ⟨q, hq, e⟩ := List.mem_map.mp h; rw [← eTl_inj e]; exact hq, fun h => List.mem_map.mpr ⟨p, h, rfl⟩⟩
theorem step_mem (on : Th → Nat → Th) (o : List Th) (th : Th) (k : Nat) : on th k ∈ stepL on o th k := by
  unfold stepL
  split
  · assumption
  · simp
theorem step_len (on : Th → Nat → Th) (o : List Th) (th : Th) (k : Nat) : (stepL on o th k).length ≤ o.length + 1 := by
  unfold stepL
  split
  · omega
  · rw [List.length_append]; exact Nat.le_refl _
theorem step_all {P : Th → Prop} {on : Th → Nat → Th} {o : List Th} {th : Th} {k : Nat} (h : ∀ p ∈ o, P p) (hp : P (on th k)) : ∀ p ∈ stepL on o th k, P p := fun p hm => by
  unfold stepL at hm
  split at hm
  · exact h p hm
  · rcases List.mem_append.mp hm with z | z
    · exact h p z
    · rw [List.mem_singleton.mp z]; exact hp
section
variable {c : Ct} {E : XK} {b : Addr} {ρ : Env} {te ta tb tk : TE} {al : Al} {m : Mc} {k : D → Prop} {s : Bool}
abbrev eS (s : Bool) : D := eI (if s then 1 else 0)
theorem ev_oth (h : EvE c te ρ (eLM al m)) (hs : EvE c ta ρ (eS s)) : EvE c (tOp (rIxL c.K) te (tOp (rI0 fun i j => .int (i - j)) (tC (.int 3)) ta)) ρ (eRows (oth s m)) := by
  cases s
  · exact ev_opE h (ev_opE ev_int hs rop_I0) (rop_ixL rfl)
  · exact ev_opE h (ev_opE ev_int hs rop_I0) (rop_ixL rfl)
theorem ev_mine (h : EvE c te ρ (eLM al m)) (hs : EvE c ta ρ (eS s)) : EvE c (tOp (rIxL c.K) te (tOp (rI0 fun i j => .int (i + j)) (tC (.int 2)) ta)) ρ (eRows (mine s m)) := by
  cases s
  · exact ev_opE h (ev_opE ev_int hs rop_I0) (rop_ixL rfl)
  · exact ev_opE h (ev_opE ev_int hs rop_I0) (rop_ixL rfl)
theorem ev_tl0 {th : Th} (h : EvE c te ρ (eTl th)) : EvE c (tOp (rIxT c.K) te (tC (.int 0))) ρ (eI th.1) := ev_opE h ev_int (rop_ixT (at_nat (j := 0) rfl))
theorem ev_tlS {th : Th} {x : Nat} (h : EvE c te ρ (eTl th)) (hx : EvE c ta ρ (eI x)) (hl : x < th.2.length) : EvE c (tOp (rIxT c.K) te (tOp (rI0 fun i j => .int (i + j)) (tC (.int 1)) ta)) ρ (eI (th.2.getD x 0)) := by
  refine ev_opE h (ev_opE ev_int hx rop_I0) (rop_ixT ?_)
  rw [show (1 : Int) + ((x : Nat) : Int) = ((x + 1 : Nat) : Int) by omega]
  refine at_nat ?_
  rw [List.getElem?_cons_succ, List.getElem?_map, List.getD_eq_getElem?_getD, List.getElem?_eq_getElem hl]
  rfl
/-- xs.index(x), xs a list of one's own -/
theorem ev_idxOfM {α : Type} [DecidableEq α] {xs : List α} {e : α → D} {n i : Nat} {a : α} (inj : ∀ x ∈ xs, ∀ y ∈ xs, e x = e y → x = y) (ha : a ∈ xs) (ho : ρ[i]? = some (some (.ml (xs.map e)))) (he : EvE c te ρ (e a)) (hp : ∀ x ∈ xs, Pl n (e x)) (hn : n + 1 ≤ 64) :
    EvE c (tBM c.K "list" (rIndexD c.K) (tVar i) (tCons te tNil)) ρ (eI (xs.idxOf a)) :=
  ev_indexM (n := n) (m := n) ho he (hp a ha) (fun d hd => by obtain ⟨x, hx, rfl⟩ := List.mem_map.mp hd; exact hp x hx) (by rw [List.getElem?_map, idxOf_at ha]; rfl) (fun l y hl hy z => by
    rw [List.getElem?_map] at hy
    cases q : xs[l]? with
    | none => rw [q] at hy; cases hy
    | some x =>
      rw [q] at hy
      have e1 : e x = y := Option.some.inj hy
      exact idxOf_lt hl q (inj x (List.mem_of_getElem? q) a ha (e1.trans z))) (by omega) hn
theorem rop_repT {ds : List D} {n : Nat} (hne : ds ≠ []) (h1 : 1 ≤ n) (h2 : n ≤ 1000) (hz : ds.length ≤ 1000) : ROpE c (rRepF c.K) (.tup ds) (eI n) (.tup (List.replicate n ds).flatten) := fun G H ok v u rx ry Q q => by
  obtain ⟨a, vs, rfl, ha, hl⟩ := rx.tuple
  cases ry
  refine ⟨a, (n : Int), vs, rfl, rfl, SqT.of (ok.gh _ _ ha), fun z => hne (List.eq_nil_of_length_eq_zero (by rw [hl.len, z]; rfl)), by omega, by omega, by rw [← hl.len]; exact hz, fun e => ?_, fun h p hp => ?_⟩
  · obtain rfl : n = 1 := by omega
    refine q _ _ G H rfl (.refl ok) ?_
    rw [List.replicate_one, List.flatten_singleton]
    exact .tup ha hl
  · have s := Stp.lay (o := .tup (List.replicate n vs).flatten) ok hp
    have rep : ∀ m : Nat, RpL c.K G (List.replicate m ds).flatten (List.replicate m vs).flatten := fun m => by
      induction m with
      | zero => exact .nil
      | succ m ih =>
        rw [List.replicate_succ, List.replicate_succ, List.flatten_cons, List.flatten_cons]
        exact hl.append ih
    exact q _ _ _ _ rfl s (.tup upd_same ((rep n).up s.gg))
theorem flat_zeros (n : Nat) : (List.replicate n [D.int 0]).flatten = (List.replicate n 0).map eI := by
  induction n with
  | zero => rfl
  | succ n ih => rw [List.replicate_succ, List.flatten_cons, ih]; rfl
abbrev fmG (al : Al) (one two : Mc) (s : Bool) (o : List Th) (rs : List (List Nat)) (rest : Env) : Env :=
  some (.dat (eLM al one)) :: some (.dat (eLM al two)) :: some (.dat (eS s)) :: some (.dat (eI (oth s one).length)) :: some (.dat (eTl (fstOf s one))) :: some (.ml (o.map eTl)) :: some (.ml (rs.map eIs)) :: rest
/-- one letter's row of states -/
theorem as_grown_k {al : Al} (hal : al ∈ Als) {one two : Mc} (o1 : McOk 40 one) (o2 : McOk 40 two) {o : List Th} {rs : List (List Nat)} {th : Th} {l : List Nat} {t k : Nat} (ht : ThS s one two th) (hk : k < 2) (ho : o.length ≤ 1000) (hl : l.length ≤ 1000) (hd7 : Cell) {A : AEnds}
    (hn : A.nx (fmG al one two s (stepL (onL s one two) o th k) rs [some (.dat (eI t)), some (.dat (eTl th)), some (.ml ((l ++ [(stepL (onL s one two) o th k).idxOf (onL s one two th k)]).map eI)), none, none, none, none, none, none])) :
    AS c E (tSeq (tAsg (tLst tNil) (gName 11))
      (tSeq (tFor (iRng1 (tCons (tVar 3) tNil)) (gName 12)
      (tSeq (tAsg (tIf (tTest (tOp rEq (tVar 2) (tC (.int 0)))) (tOp (rIxL c.K) (tOp (rIxL c.K) (tOp (rIxL c.K) (tVar 0) (tC (.int 4))) (tOp (rIxT c.K) (tVar 8) (tC (.int 0)))) (tVar 12)) (tOp (rIxL c.K) (tOp (rIxL c.K) (tOp (rIxL c.K) (tVar 0) (tC (.int 4))) (tVar 12)) (tOp (rIxT c.K) (tVar 8) (tC (.int 0))))) (gName 13))
      (tSeq (tAsg (tOp (rIxT c.K) (tVar 8) (tOp (rI0 fun i j => .int (i + j)) (tC (.int 1)) (tOp (rIxL c.K) (tOp (rIxL c.K) (tOp (rIxL c.K) (tVar 0) (tOp (rI0 fun i j => .int (i - j)) (tC (.int 3)) (tVar 2))) (tVar 12)) (tVar 10)))) (gName 14))
      (tDrop (tBM c.K "list" rAppend (tVar 11) (tCons (tOp (rIxL c.K) (tOp (rIxL c.K) (tOp (rIxL c.K) (tVar 1) (tOp (rI0 fun i j => .int (i + j)) (tC (.int 2)) (tVar 2))) (tVar 14)) (tM1 rIdxS (tOp (rIxL c.K) (tVar 1) (tC (.int 0))) (tOp rIxS (tVar 13) (tVar 10)))) tNil))))))
      (tSeq (tAsg (tOp (rCatA c.K) (tTup (tCons (tOp (rIxL c.K) (tOp (rIxL c.K) (tOp (rIxL c.K) (tVar 0) (tOp (rI0 fun i j => .int (i + j)) (tC (.int 2)) (tVar 2))) (tOp (rIxT c.K) (tVar 8) (tC (.int 0)))) (tVar 10)) tNil)) (tCB (rTupF c.K) (tCons (tVar 11) tNil))) (gName 15))
      (tSeq (tIfS (tTest (tOp (rNotInD c.K) (tVar 15) (tVar 5))) (tDrop (tBM c.K "list" rAppend (tVar 5) (tCons (tVar 15) tNil))) tNext)
      (tDrop (tBM c.K "list" rAppend (tVar 9) (tCons (tBM c.K "list" (rIndexD c.K) (tVar 5) (tCons (tVar 15) tNil)) tNil)))))))
      (fmG al one two s o rs [some (.dat (eI t)), some (.dat (eTl th)), some (.ml (l.map eI)), some (.dat (eI k)), none, none, none, none, none]) { A with nx := fun ρ => ∃ ρ', Wk ρ ρ' ∧ A.nx ρ' } := by
  obtain ⟨ra, r1, r2⟩ := mine_ok (s := s) o1
  obtain ⟨rb, b1, b2⟩ := oth_ok (s := s) o1
  obtain ⟨rc, c1, c2⟩ := mine_ok (s := s) o2
  have tp := ht.a
  have tw := ht.b
  have tc := ht.c
  refine as_seq (as_new ea_nil (by simp) ?_)
  show AS c E _ (fmG al one two s o rs [some (.dat (eI t)), some (.dat (eTl th)), some (.ml (l.map eI)), some (.dat (eI k)), some (.ml []), none, none, none, none]) _
  refine as_seq (as_for (ei_rng1 (n := ((oth s one).length : Nat)) (ea_cons (ev_var rfl) ea_nil) (by omega)) (fun j ρ => j ≤ (oth s one).length ∧ ρ = fmG al one two s o rs [some (.dat (eI t)), some (.dat (eTl th)), some (.ml (l.map eI)), some (.dat (eI k)), some (.ml (((List.range j).map (valS s one two th k)).map eI)), none, none, none, none]) ⟨Nat.zero_le _, rfl⟩ ?_ ?_)
  · rintro j x ρ hx ⟨hj, rfl⟩
    obtain ⟨hj1, rfl⟩ := upTo0_get hx
    have hj2 : j < (oth s one).length := hj1
    refine ⟨_, _, eg_name, ?_⟩
    show AS c E _ (fmG al one two s o rs [some (.dat (eI t)), some (.dat (eTl th)), some (.ml (l.map eI)), some (.dat (eI k)), some (.ml (((List.range j).map (valS s one two th k)).map eI)), some (.dat (eI j)), none, none, none]) _
    refine as_seq (as_setE (d := eW al (wordS s one th.1 j)) ?_ ?_)
    · cases s
      · exact ev_if (b := true) (et_test (ev_opE (ev_var rfl) ev_int rop_eqI)) (fun _ => ev_cell o1.tab (lm4 (ev_var rfl)) (ev_tl0 (ev_var rfl)) (ev_var rfl) tp hj2) fun z => by cases z
      · exact ev_if (b := false) (et_test (ev_opE (ev_var rfl) ev_int rop_eqI)) (fun z => by cases z) fun _ => ev_cell o1.tab (lm4 (ev_var rfl)) (ev_var rfl) (ev_tl0 (ev_var rfl)) hj2 tp
    have hw := word_ok o1 tp hj2
    have hs : nth (oth s one) k j < th.2.length := by rw [tw]; exact nth_lt rb hj2 k hk
    have hs2 : th.2.getD (nth (oth s one) k j) 0 < (mine s two).length := tc _ (getD_mem hs)
    refine as_seq (as_setE (ev_tlS (ev_var rfl) (ev_nth (ev_oth (ev_var rfl) (ev_var rfl)) (ev_var rfl) (ev_var rfl) hj2 (by rw [row_len rb hj2]; exact hk)) hs) ?_)
    show AS c E _ (fmG al one two s o rs [some (.dat (eI t)), some (.dat (eTl th)), some (.ml (l.map eI)), some (.dat (eI k)), some (.ml (((List.range j).map (valS s one two th k)).map eI)), some (.dat (eI j)), some (.dat (eW al (wordS s one th.1 j))), some (.dat (eI (th.2.getD (nth (oth s one) k j) 0))), none]) _
    refine as_appE rfl (ev_opE (ev_opE (ev_mine (ev_var rfl) (ev_var rfl)) (ev_var rfl) (rop_ixL (at_rows hs2))) (ev_sidx (lm0 (ev_var rfl)) (ev_ixw (ev_var rfl) (ev_var rfl) (by rw [hw.1]; exact hk) (by rw [hw.1]; decide)) (idx_al al hal _ (two_mem (hw.at hk)))) (rop_ixL (at_ints (by rw [row_len rc hs2]; exact hw.at hk)))) (by rw [List.length_map, List.length_map, List.length_range]; omega) ?_
    refine ⟨_, .keep (.keep (.keep (.keep (.keep (.keep (.keep (.keep (.keep (.keep (.keep (.keep (.drop (.drop (.drop (.keep .nil))))))))))))))), by omega, ?_⟩
    rw [List.range_succ, List.map_append, List.map_append]
    rfl
  · rintro ρ ⟨_, rfl⟩
    rw [upTo_length, show (((oth s one).length : Nat) : Int).toNat = (oth s one).length by omega]
    refine as_frz (i := 11) rfl ?_
    show AS c E _ (fmG al one two s o rs [some (.dat (eI t)), some (.dat (eTl th)), some (.ml (l.map eI)), some (.dat (eI k)), some (.dat (.lst (((List.range (oth s one).length).map (valS s one two th k)).map eI))), none, none, none, none]) _
    refine as_seq (as_setE (d := eTl (onL s one two th k)) (EvE.to (ev_opE (ev_tup (ea_cons (ev_nth (ev_mine (ev_var rfl) (ev_var rfl)) (ev_tl0 (ev_var rfl)) (ev_var rfl) tp (by rw [row_len ra tp]; exact hk)) ea_nil)) (ev_cbE (ea_cons (ev_var rfl) ea_nil) rcl_tupL) (rop_catT (by rw [List.length_map, List.length_map, List.length_range]; show 1 + _ ≤ _; omega))) (by rw [onL_eq]; rfl)) ?_)
    generalize ((List.range (oth s one).length).map (valS s one two th k)).map eI = dd
    show AS c E _ (fmG al one two s o rs [some (.dat (eI t)), some (.dat (eTl th)), some (.ml (l.map eI)), some (.dat (eI k)), some (.dat (.lst dd)), none, none, none, some (.dat (eTl (onL s one two th k)))]) _
    have fin : ∀ o' : List Th, o' = stepL (onL s one two) o th k → AS c E (tDrop (tBM c.K "list" rAppend (tVar 9) (tCons (tBM c.K "list" (rIndexD c.K) (tVar 5) (tCons (tVar 15) tNil)) tNil))) (fmG al one two s o' rs [some (.dat (eI t)), some (.dat (eTl th)), some (.ml (l.map eI)), some (.dat (eI k)), some (.dat (.lst dd)), none, none, none, some (.dat (eTl (onL s one two th k)))]) { A with nx := fun ρ => ∃ ρ', Wk ρ ρ' ∧ A.nx ρ' } := fun o' e => by
      subst e
      refine as_appE (d := eI ((stepL (onL s one two) o th k).idxOf (onL s one two th k))) rfl (EvE.to (ev_idxOfM (e := eTl) (n := 1) (fun _ _ _ _ => eTl_inj) (step_mem _ _ _ _) rfl (ev_var rfl) (fun x _ => pl_eTl x) (by decide)) (congrArg eI (idxOf_any _ _ _ _))) (by rw [List.length_map]; omega) ?_
      refine ⟨_, .keep (.keep (.keep (.keep (.keep (.keep (.keep (.keep (.keep (.keep (.drop (.drop (.drop (.drop (.drop (.drop .nil))))))))))))))), ?_⟩
      rw [List.map_append] at hn
      exact hn
    refine as_seq (as_ifT (et_test (ev_notInM (n := 1) (m := 1) (b := decide (onL s one two th k ∈ o)) (ev_var rfl) rfl (pl_eTl _) (fun d hd => by obtain ⟨x, _, rfl⟩ := List.mem_map.mp hd; exact pl_eTl x) (by rw [decide_eq_true_iff, mem_eTl]))) (fun e => ?_) fun e => as_next (fin o ?_))
    · refine as_appE rfl (ev_var rfl) (by rw [List.length_map]; omega) ?_
      have hm : onL s one two th k ∉ o := by simpa using e
      have := fin (o ++ [onL s one two th k]) (by unfold stepL; rw [if_neg hm])
      unfold fmG at this
      rw [List.map_append] at this
      exact this
    · have hm : onL s one two th k ∈ o := by simpa using e
      unfold stepL
      rw [if_pos hm]
end
end Fx
/-! text LawM -/
namespace Fx
open PySem L2 Evl PyProof.Rows NdefX Mir MirL
theorem gkL_ok {P : Th → Prop} {on : Th → Nat → Th} {o : List Th} {th : Th} (h : ∀ p ∈ o, P p) (ht : ∀ k, k < 2 → P (on th k)) : ∀ k, k ≤ 2 → (∀ p ∈ (gkL on o th k).1, P p) ∧ (gkL on o th k).1.length ≤ o.length + k ∧ (gkL on o th k).2.length = k
  | 0, _ => ⟨h, Nat.le_refl _, rfl⟩
  | k + 1, hk => by
    obtain ⟨h1, h2, h3⟩ := gkL_ok h ht k (by omega)
    have := step_len on (gkL on o th k).1 th k
    refine ⟨step_all h1 (ht k (by omega)), ?_, ?_⟩
    · show (stepL on (gkL on o th k).1 th k).length ≤ _
      omega
    · show ((gkL on o th k).2 ++ [_]).length = _
      rw [List.length_append, h3]
      rfl
section
variable {c : Ct} {E : XK} {b : Addr} {ρ : Env} {te ta tb tk : TE}
theorem as_law_grown (i : Al × Mc × Mc × Bool) (h : i.1 ∈ Als ∧ McOk 40 i.2.1 ∧ McOk 40 i.2.2.1) : AS c E (t_law_grown c) (entry N_law_grown [eLM i.1 i.2.1, eLM i.1 i.2.2.1, eI (if i.2.2.2 then 1 else 0)])
    { nx := fun _ => False, rt := fun d => d = .lst [.lst ((grown (onL i.2.2.2 i.2.1 i.2.2.1) (fstOf i.2.2.2 i.2.1)).1.map eTl), eRows (grown (onL i.2.2.2 i.2.1 i.2.2.1) (fstOf i.2.2.2 i.2.1)).2] } := by
  obtain ⟨al, one, two, s⟩ := i
  obtain ⟨hal, o1, o2⟩ := h
  have hal : al ∈ Als := hal
  have o1 : McOk 40 one := o1
  have o2 : McOk 40 two := o2
  obtain ⟨rb, b1, b2⟩ := oth_ok (s := s) o1
  obtain ⟨ra, a1, a2⟩ := mine_ok (s := s) o1
  obtain ⟨rc, c1, c2⟩ := mine_ok (s := s) o2
  show AS c E _ [some (.dat (eLM al one)), some (.dat (eLM al two)), some (.dat (eS s)), none, none, none, none, none, none, none, none, none, none, none, none, none] { nx := fun _ => False, rt := fun d => d = .lst [.lst ((grown (onL s one two) (fstOf s one)).1.map eTl), eRows (grown (onL s one two) (fstOf s one)).2] }
  refine as_seq (as_setE (ev_rowsLen (ev_oth (ev_var rfl) (ev_var rfl))) ?_)
  refine as_seq (as_setE (d := eTl (fstOf s one)) (EvE.to (ev_opE (ev_tup (ea_cons ev_int ea_nil)) (ev_opE (ev_tup (ea_cons ev_int ea_nil)) (ev_var rfl) (rop_repT (by simp) b1 (by omega) (by simp))) (rop_catT (by rw [flat_zeros, List.length_map, List.length_replicate]; show 1 + _ ≤ _; omega))) (by rw [flat_zeros, fst_eq]; rfl)) ?_)
  refine as_seq (as_new (ea_cons (ev_var rfl) ea_nil) (by simp) ?_)
  refine as_seq (as_new ea_nil (by simp) ?_)
  show AS c E _ (fmG al one two s [fstOf s one] [] [none, none, none, none, none, none, none, none, none]) _
  have fo : ThS s one two (fstOf s one) := by
    rw [fst_eq]
    exact ⟨a1, by rw [List.length_replicate], fun x hx => by rw [(List.mem_replicate.mp hx).2]; exact c1⟩
  refine as_seq (as_for (ei_rng1 (n := 102) (ea_cons ev_int ea_nil)) (fun i ρ => i ≤ 102 ∧ ∃ (o : List Th) (rs : List (List Nat)), grow (onL s one two) (102 - i) i o rs = grown (onL s one two) (fstOf s one) ∧ (∀ p ∈ o, ThS s one two p) ∧ o.length ≤ 2 * i + 1 ∧ rs.length ≤ i ∧ ρ = fmG al one two s o rs [none, none, none, none, none, none, none, none, none])
    ⟨Nat.zero_le _, [fstOf s one], [], rfl, fun p hp => by rw [List.mem_singleton.mp hp]; exact fo, by simp, by simp, rfl⟩ ?_ ?_)
  · rintro i x ρ hx ⟨_, o, rs, hg, ho, hol, hrl, rfl⟩
    obtain ⟨hi, rfl⟩ := upTo0_get hx
    have hi : i < 102 := hi
    obtain ⟨n, hn⟩ : ∃ n, 102 - i = n + 1 := ⟨101 - i, by omega⟩
    have hn2 : 102 - (i + 1) = n := by omega
    rw [hn] at hg
    refine ⟨_, _, eg_name, ?_⟩
    show AS c E _ (fmG al one two s o rs [some (.dat (eI i)), none, none, none, none, none, none, none, none]) _
    refine as_ifT (et_and (et_test (ev_opE (ev_var rfl) (ev_lenM rfl) rop_B0)) (fun _ => et_test (ev_opE (ev_lenM rfl) ev_int rop_B0))) (fun e => ?_) fun e => ?_
    · rw [List.length_map, Bool.and_eq_true, decide_eq_true_iff, decide_eq_true_iff] at e
      have hlt : i < o.length := by omega
      have hle : o.length ≤ 100 := by omega
      rw [grow, if_pos ⟨hlt, hle⟩] at hg
      refine as_seq (as_setE (d := eTl (o.getD i (0, []))) (ev_ixM rfl (ev_var rfl) (at_nat (by rw [List.getElem?_map, List.getD_eq_getElem?_getD, List.getElem?_eq_getElem hlt]; rfl))) ?_)
      have ht : ThS s one two (o.getD i (0, [])) := ho _ (by rw [List.getD_eq_getElem?_getD, List.getElem?_eq_getElem hlt]; exact List.getElem_mem _)
      generalize o.getD i (0, []) = th at hg ht
      refine as_seq (as_new ea_nil (by simp) ?_)
      show AS c E _ (fmG al one two s o rs [some (.dat (eI i)), some (.dat (eTl th)), some (.ml []), none, none, none, none, none, none]) _
      have gk := gkL_ok (on := onL s one two) (th := th) ho fun k hk => onL_ok o1 o2 ht hk
      refine as_seq (as_for (ei_rng1 (n := 2) (ea_cons (ev_alLen (lm0 (ev_var rfl))) ea_nil)) (fun k ρ => k ≤ 2 ∧ ρ = fmG al one two s (gkL (onL s one two) o th k).1 rs [some (.dat (eI i)), some (.dat (eTl th)), some (.ml ((gkL (onL s one two) o th k).2.map eI)), none, none, none, none, none, none]) ⟨Nat.zero_le _, rfl⟩ ?_ ?_)
      · rintro k x ρ hx ⟨_, rfl⟩
        obtain ⟨hk, rfl⟩ := upTo0_get hx
        have hk : k < 2 := hk
        obtain ⟨g1, g2, g3⟩ := gk k (by omega)
        refine ⟨_, _, eg_name, ?_⟩
        exact as_grown_k hal o1 o2 ht hk (by omega) (by omega) .box (A := { nx := fun ρ => k + 1 ≤ 2 ∧ ρ = fmG al one two s (gkL (onL s one two) o th (k + 1)).1 rs [some (.dat (eI i)), some (.dat (eTl th)), some (.ml ((gkL (onL s one two) o th (k + 1)).2.map eI)), none, none, none, none, none, none], rt := fun d => d = .lst [.lst ((grown (onL s one two) (fstOf s one)).1.map eTl), eRows (grown (onL s one two) (fstOf s one)).2] }) ⟨hk, rfl⟩
      · rintro ρ ⟨_, rfl⟩
        obtain ⟨g1, g2, g3⟩ := gk 2 (Nat.le_refl _)
        rw [gkL_two] at g1 g2 g3
        show AS c E _ (fmG al one two s (rowL (onL s one two) o th).1 rs [some (.dat (eI i)), some (.dat (eTl th)), some (.ml ((rowL (onL s one two) o th).2.map eI)), none, none, none, none, none, none]) _
        refine as_frz (i := 9) rfl ?_
        refine as_appE (d := eIs (rowL (onL s one two) o th).2) rfl (ev_var rfl) (by rw [List.length_map]; omega) ?_
        refine ⟨_, .keep (.keep (.keep (.keep (.keep (.keep (.keep (.drop (.drop (.drop (.keep (.keep (.keep (.keep (.keep (.keep .nil))))))))))))))), hi, (rowL (onL s one two) o th).1, rs ++ [(rowL (onL s one two) o th).2], ?_, g1, by omega, by rw [List.length_append]; show _ + 1 ≤ _; omega, by unfold fmG; rw [List.map_append]; rfl⟩
        rw [hn2]
        exact hg
    · have hnot : ¬ (i < o.length ∧ o.length ≤ 100) := fun z => by
        rw [List.length_map, decide_eq_true (by omega), decide_eq_true (by omega)] at e
        cases e
      rw [grow, if_neg hnot] at hg
      exact as_next ⟨_, .keep (.keep (.keep (.keep (.keep (.keep (.keep (.drop (.keep (.keep (.keep (.keep (.keep (.keep (.keep (.keep .nil))))))))))))))), hi, o, rs, by rw [hn2]; exact hg, ho, by omega, by omega, rfl⟩
  · rintro ρ ⟨_, o, rs, hg, ho, hol, hrl, rfl⟩
    rw [upTo_length] at hg
    have hg : (o, rs) = grown (onL s one two) (fstOf s one) := hg
    rw [← hg]
    refine as_frz (i := 5) rfl (as_frz (i := 6) rfl ?_)
    exact as_retE (ev_lst (ea_cons (ev_var rfl) (ea_cons (ev_var rfl) ea_nil))) rfl
end
end Fx
/-! text LawN -/
namespace Fx
open PySem L2 Evl PyProof.Rows NdefX Mir MirL
theorem grown_or (on : Th → Nat → Th) (first : Th) : 100 < (grown on first).1.length ∨ (walked on first = some (grown on first) ∧ (grown on first).1.length ≤ 100) := by
  cases h : walked on first with
  | none => exact .inl (grown_none h)
  | some x =>
    obtain ⟨o, rs⟩ := x
    obtain ⟨e, l⟩ := grown_some h
    rw [e]
    exact .inr ⟨rfl, l⟩
def smallT (m : Mc) : Option Mc := if (leastL m).l.length > 40 ∨ (leastL m).r.length > 40 then none else some (leastL m)
def composedT (one two : Mc) (gl gr : List Th × List (List Nat)) : Option Mc := if gl.1.length > 100 ∨ gr.1.length > 100 then none else smallT (compT one two gl.1 gr.1 gl.2 gr.2)
theorem composedL_T (a b : Mc) : composedL a b = composedT (leastL a) (leastL b) (grown (onL false (leastL a) (leastL b)) (fstOf false (leastL a))) (grown (onL true (leastL a) (leastL b)) (fstOf true (leastL a))) := by
  have e1 : ∀ x y, onL false x y = leftOn x y := fun _ _ => rfl
  have e2 : ∀ x y, onL true x y = rightOn x y := fun _ _ => rfl
  have e3 : ∀ x : Mc, fstOf false x = (0, List.replicate x.r.length 0) := fun _ => rfl
  have e4 : ∀ x : Mc, fstOf true x = (0, List.replicate x.l.length 0) := fun _ => rfl
  rw [e1, e2, e3, e4]
  unfold composedL composedT smallT compT
  rfl
theorem wS_snoc (al : Al) (ws : List Nat) (x : Nat) : wS al ws ++ (⟨#[lt al x]⟩ : Str) = wS al (ws ++ [x]) := by
  show (⟨(ws.map (lt al)).toArray ++ #[lt al x]⟩ : Str) = ⟨((ws ++ [x]).map (lt al)).toArray⟩
  rw [List.map_append]
  simp
theorem leastL_40 {a : Mc} (o : McOk 40 a) : McOk 40 (leastL a) := by rw [leastL_eq o (by decide)]; exact least_ok o
section
variable {c : Ct} {E : XK} {b : Addr} {ρ : Env} {te ta tb tk : TE} {al : Al}
abbrev fmC (al : Al) (a b one two : Mc) (fs bs : List Th) (l r : List (List Nat)) (rest : Env) : Env :=
  some (.dat (eLM al a)) :: some (.dat (eLM al b)) :: some (.dat (eLM al one)) :: some (.dat (eLM al two)) :: some (.dat (.lst [.lst (fs.map eTl), eRows l])) :: some (.dat (.lst [.lst (bs.map eTl), eRows r])) :: rest
theorem as_law_composed (i : Al × Mc × Mc) (h : i.1 ∈ Als ∧ McOk 40 i.2.1 ∧ McOk 40 i.2.2) : AS c E (t_law_composed c) (entry N_law_composed [eLM i.1 i.2.1, eLM i.1 i.2.2]) { nx := fun _ => False, rt := fun d => d = optLM i.1 (composedL i.2.1 i.2.2) } := by
  obtain ⟨al, a, b⟩ := i
  obtain ⟨hal, oa, ob⟩ := h
  have hal : al ∈ Als := hal
  have oa : McOk 40 a := oa
  have ob : McOk 40 b := ob
  show AS c E _ [some (.dat (eLM al a)), some (.dat (eLM al b)), none, none, none, none, none, none, none, none, none, none, none, none, none, none] { nx := fun _ => False, rt := fun d => d = optLM al (composedL a b) }
  rw [composedL_T]
  refine as_seq (as_setE (ev_callE (al, a) (ea_cons (ev_var rfl) ea_nil) ⟨hal, oa.up (by decide)⟩) ?_)
  refine as_seq (as_setE (ev_callE (al, b) (ea_cons (ev_var rfl) ea_nil) ⟨hal, ob.up (by decide)⟩) ?_)
  show AS c E _ [some (.dat (eLM al a)), some (.dat (eLM al b)), some (.dat (eLM al (leastL a))), some (.dat (eLM al (leastL b))), none, none, none, none, none, none, none, none, none, none, none, none] _
  have o1 := leastL_40 oa
  have o2 := leastL_40 ob
  generalize leastL a = one at o1
  generalize leastL b = two at o2
  refine as_seq (as_setE (ev_callE (al, one, two, false) (ea_cons (ev_var rfl) (ea_cons (ev_var rfl) (ea_cons ev_int ea_nil))) ⟨hal, o1, o2⟩) ?_)
  refine as_seq (as_setE (ev_callE (al, one, two, true) (ea_cons (ev_var rfl) (ea_cons (ev_var rfl) (ea_cons ev_int ea_nil))) ⟨hal, o1, o2⟩) ?_)
  have gl := grown_or (onL false one two) (fstOf false one)
  have gr := grown_or (onL true one two) (fstOf true one)
  simp only
  generalize grown (onL false one two) (fstOf false one) = lefts at gl
  generalize grown (onL true one two) (fstOf true one) = rights at gr
  obtain ⟨fs, l⟩ := lefts
  obtain ⟨bs, r⟩ := rights
  show AS c E _ (fmC al a b one two fs bs l r [none, none, none, none, none, none, none, none, none, none]) { nx := fun _ => False, rt := fun d => d = optLM al (composedT one two (fs, l) (bs, r)) }
  simp only at gl gr
  refine as_seq (as_ifT (b := decide ((100 : Int) < (fs.length : Nat)) || decide ((100 : Int) < (bs.length : Nat))) (et_or (et_test (ev_opE (ev_lenEq (ev_opE (ev_var rfl) ev_int (rop_ixL rfl)) (by rw [List.length_map])) ev_int rop_B0)) fun _ => et_test (ev_opE (ev_lenEq (ev_opE (ev_var rfl) ev_int (rop_ixL rfl)) (by rw [List.length_map])) ev_int rop_B0)) (fun e => ?_) fun e => as_next ?_)
  · rw [Bool.or_eq_true, decide_eq_true_iff, decide_eq_true_iff] at e
    refine as_retE ev_non ?_
    unfold composedT
    rw [if_pos (by show fs.length > 100 ∨ bs.length > 100; omega)]
    rfl
  · have hn : ¬ (100 < fs.length ∨ 100 < bs.length) := fun z => by
      rcases z with z | z
      · rw [decide_eq_true (by omega), Bool.true_or] at e; cases e
      · rw [Bool.or_comm, decide_eq_true (by omega), Bool.true_or] at e; cases e
    obtain ⟨hf, lf⟩ := gl.resolve_left (fun z => hn (.inl z))
    obtain ⟨hb, lb⟩ := gr.resolve_left (fun z => hn (.inr z))
    obtain ⟨ok, pf, pb, _, _⟩ := compT_ok hal o1 o2 hf hb
    have ec : composedT one two (fs, l) (bs, r) = smallT (compT one two fs bs l r) := by
      unfold composedT
      rw [if_neg (by simp only; omega)]
    rw [ec]
    clear ec e hn gl gr hf hb
    refine as_seq (as_new ea_nil (by simp) ?_)
    refine as_seq (as_for (ei_list (xs := fs.map eTl) (ev_opE (ev_var rfl) ev_int (rop_ixL rfl))) (fun i ρ => i ≤ fs.length ∧ ρ = fmC al a b one two fs bs l r [some (.ml (((fs.take i).map fun p => bs.map fun q => toldP one two p q).map fun row => .lst (row.map (eW al)))), none, none, none, none, none, none, none, none, none]) ⟨Nat.zero_le _, rfl⟩ ?_ ?_)
    · rintro i x ρ hx ⟨_, rfl⟩
      obtain ⟨p, hp, rfl⟩ := map_get hx
      have hil : i < fs.length := (List.getElem?_eq_some_iff.mp hp).1
      have tp := pf p (List.mem_of_getElem? hp)
      refine ⟨_, _, eg_name, ?_⟩
      generalize ht : ((fs.take i).map fun p => bs.map fun q => toldP one two p q) = tab
      have htl : tab.length = i := by rw [← ht, List.length_map, List.length_take]; omega
      refine as_seq (as_new ea_nil (by simp) ?_)
      show AS c E _ (fmC al a b one two fs bs l r [some (.ml (tab.map fun row => .lst (row.map (eW al)))), some (.dat (eTl p)), some (.ml []), none, none, none, none, none, none, none]) _
      refine as_seq (as_for (ei_list (xs := bs.map eTl) (ev_opE (ev_var rfl) ev_int (rop_ixL rfl))) (fun j ρ => j ≤ bs.length ∧ ρ = fmC al a b one two fs bs l r [some (.ml (tab.map fun row => .lst (row.map (eW al)))), some (.dat (eTl p)), some (.ml (((bs.take j).map fun q => toldP one two p q).map (eW al))), none, none, none, none, none, none, none]) ⟨Nat.zero_le _, rfl⟩ ?_ ?_)
      · rintro j x ρ hx ⟨_, rfl⟩
        obtain ⟨q, hq, rfl⟩ := map_get hx
        have hjl : j < bs.length := (List.getElem?_eq_some_iff.mp hq).1
        have tq := pb q (List.mem_of_getElem? hq)
        refine ⟨_, _, eg_name, ?_⟩
        generalize hl : ((bs.take j).map fun q => toldP one two p q) = line
        have hll : line.length = j := by rw [← hl, List.length_map, List.length_take]; omega
        refine as_seq (as_setE (d := eW al []) ev_str ?_)
        show AS c E _ (fmC al a b one two fs bs l r [some (.ml (tab.map fun row => .lst (row.map (eW al)))), some (.dat (eTl p)), some (.ml (line.map (eW al))), some (.dat (eTl q)), some (.dat (eW al [])), none, none, none, none, none]) _
        refine as_seq (as_for (ei_rng1 (n := 2) (ea_cons (ev_alLen (lm0 (ev_var rfl))) ea_nil)) (fun k ρ => k ≤ 2 ∧ ρ = fmC al a b one two fs bs l r [some (.ml (tab.map fun row => .lst (row.map (eW al)))), some (.dat (eTl p)), some (.ml (line.map (eW al))), some (.dat (eTl q)), some (.dat (eW al ((List.range k).map (letterP one two p q)))), none, none, none, none, none]) ⟨Nat.zero_le _, rfl⟩ ?_ ?_)
        · rintro k x ρ hx ⟨_, rfl⟩
          obtain ⟨hk, rfl⟩ := upTo0_get hx
          have hk : k < 2 := hk
          refine ⟨_, _, eg_name, ?_⟩
          show AS c E _ (fmC al a b one two fs bs l r [some (.ml (tab.map fun row => .lst (row.map (eW al)))), some (.dat (eTl p)), some (.ml (line.map (eW al))), some (.dat (eTl q)), some (.dat (eW al ((List.range k).map (letterP one two p q)))), some (.dat (eI k)), none, none, none, none]) _
          have hw := (o1.tab.cell tp.a tq.a).2
          have ha : nth one.r k q.1 < p.2.length := by rw [tp.b]; exact nth_lt o1.ro tq.a k hk
          have hb : nth one.l k p.1 < q.2.length := by rw [tq.b]; exact nth_lt o1.lo tp.a k hk
          have ha2 := tp.c _ (getD_mem ha)
          have hb2 := tq.c _ (getD_mem hb)
          have hw2 := (o2.tab.cell ha2 hb2).2
          refine as_seq (as_setE (ev_ixw (ev_cell o1.tab (lm4 (ev_var rfl)) (ev_tl0 (ev_var rfl)) (ev_tl0 (ev_var rfl)) tp.a tq.a) (ev_var rfl) (by rw [hw.1]; exact hk) (by rw [hw.1]; decide)) ?_)
          refine as_seq (as_setE (ev_tlS (ev_var rfl) (ev_nth (lm3 (ev_var rfl)) (ev_tl0 (ev_var rfl)) (ev_var rfl) tq.a (by rw [row_len o1.ro tq.a]; exact hk)) ha) ?_)
          refine as_seq (as_setE (ev_tlS (ev_var rfl) (ev_nth (lm2 (ev_var rfl)) (ev_tl0 (ev_var rfl)) (ev_var rfl) tp.a (by rw [row_len o1.lo tp.a]; exact hk)) hb) ?_)
          show AS c E _ (fmC al a b one two fs bs l r [some (.ml (tab.map fun row => .lst (row.map (eW al)))), some (.dat (eTl p)), some (.ml (line.map (eW al))), some (.dat (eTl q)), some (.dat (eW al ((List.range k).map (letterP one two p q)))), some (.dat (eI k)), some (.dat (.str ⟨#[lt al ((cell one.t p.1 q.1).getD k 0)]⟩)), some (.dat (eI (p.2.getD (nth one.r k q.1) 0))), some (.dat (eI (q.2.getD (nth one.l k p.1) 0))), none]) _
          refine as_setE (d := eW al ((List.range (k + 1)).map (letterP one two p q))) (EvE.to (ev_opE (ev_var rfl) (ev_ixw (ev_cell o2.tab (lm4 (ev_var rfl)) (ev_var rfl) (ev_var rfl) ha2 hb2) (ev_sidx (lm0 (ev_var rfl)) (ev_var rfl) (idx_al al hal _ (two_mem (hw.at hk)))) (by rw [hw2.1]; exact hw.at hk) (by rw [hw2.1]; decide)) (rop_addT (by rw [wS_length, List.length_map, List.length_range, sizeLine_eq]; show k + 1 ≤ _; omega))) ?_) ?_
          · show D.str _ = D.str _
            rw [wS_snoc, List.range_succ, List.map_append]
            rfl
          · exact ⟨_, .keep (.keep (.keep (.keep (.keep (.keep (.keep (.keep (.keep (.keep (.keep (.drop (.drop (.drop (.drop (.keep .nil))))))))))))))), hk, rfl⟩
        · rintro ρ ⟨_, rfl⟩
          show AS c E _ (fmC al a b one two fs bs l r [some (.ml (tab.map fun row => .lst (row.map (eW al)))), some (.dat (eTl p)), some (.ml (line.map (eW al))), some (.dat (eTl q)), some (.dat (eW al (toldP one two p q))), none, none, none, none, none]) _
          refine as_appE rfl (ev_var rfl) (by rw [List.length_map]; omega) ?_
          refine ⟨_, .keep (.keep (.keep (.keep (.keep (.keep (.keep (.keep (.keep (.drop (.drop (.keep (.keep (.keep (.keep (.keep .nil))))))))))))))), hjl, ?_⟩
          rw [take_snoc hq, List.map_append, hl, List.map_append]
          rfl
      · rintro ρ ⟨_, rfl⟩
        rw [List.length_map, List.take_length]
        refine as_frz (i := 8) rfl ?_
        refine as_appE rfl (ev_var rfl) (by rw [List.length_map]; omega) ?_
        refine ⟨_, .keep (.keep (.keep (.keep (.keep (.keep (.keep (.drop (.drop (.keep (.keep (.keep (.keep (.keep (.keep (.keep .nil))))))))))))))), hil, ?_⟩
        rw [take_snoc hp, List.map_append, ht, List.map_append]
        rfl
    · rintro ρ ⟨_, rfl⟩
      rw [List.length_map, List.take_length]
      refine as_frz (i := 6) rfl ?_
      show AS c E _ (fmC al a b one two fs bs l r [some (.dat (eTab al (compT one two fs bs l r).t)), none, none, none, none, none, none, none, none, none]) _
      refine as_seq (as_setE (ev_callE (al, compT one two fs bs l r) (ea_cons (ev_lst (ea_cons (lm0 (ev_var rfl)) (ea_cons (lm1 (ev_var rfl)) (ea_cons (ev_opE (ev_var rfl) ev_int (rop_ixL rfl)) (ea_cons (ev_opE (ev_var rfl) ev_int (rop_ixL rfl)) (ea_cons (ev_var rfl) ea_nil))))) (by show 5 ≤ 100000; decide)) ea_nil) ⟨hal, ok⟩) ?_)
      generalize (compT one two fs bs l r).t = tt
      unfold smallT
      generalize leastL (compT one two fs bs l r) = s
      show AS c E _ (fmC al a b one two fs bs l r [some (.dat (eTab al tt)), none, none, none, none, none, none, none, none, some (.dat (eLM al s))]) _
      refine as_seq (as_ifT (b := decide ((40 : Int) < (s.l.length : Nat)) || decide ((40 : Int) < (s.r.length : Nat))) (et_or (et_test (ev_opE (ev_rowsLen (lm2 (ev_var rfl))) ev_int rop_B0)) fun _ => et_test (ev_opE (ev_rowsLen (lm3 (ev_var rfl))) ev_int rop_B0)) (fun e => ?_) fun e => as_next ?_)
      · rw [Bool.or_eq_true, decide_eq_true_iff, decide_eq_true_iff] at e
        refine as_retE ev_non ?_
        rw [if_pos (by omega)]
        rfl
      · have hn : ¬ (s.l.length > 40 ∨ s.r.length > 40) := fun z => by
          rcases z with z | z
          · rw [decide_eq_true (by omega), Bool.true_or] at e; cases e
          · rw [Bool.or_comm, decide_eq_true (by omega), Bool.true_or] at e; cases e
        refine as_retE (ev_var rfl) ?_
        rw [if_neg hn]
        rfl
end
end Fx
/-! text LawO -/
namespace Fx
open PySem L2 Evl PyProof.Rows NdefX Mir MirL
theorem pl_eLM {al : Al} (h : al ∈ Als) {m : Mc} (ok : McOk 40 m) : Pl 3 (eLM al m) := by
  intro d hd
  simp only [mFlds, List.mem_cons, List.not_mem_nil, or_false] at hd
  rcases hd with rfl | rfl | rfl | rfl | rfl
  · exact pl_alS h
  · exact pl_alS h
  · intro r hr
    obtain ⟨x, hx, rfl⟩ := List.mem_map.mp hr
    exact pl_ints x
  · intro r hr
    obtain ⟨x, hx, rfl⟩ := List.mem_map.mp hr
    exact pl_ints x
  · intro r hr
    obtain ⟨x, hx, rfl⟩ := List.mem_map.mp hr
    intro s hs
    obtain ⟨y, hy, rfl⟩ := List.mem_map.mp hs
    exact pl_str h ((ok.t2 x hx).2 y hy).2
theorem eLM_inj {al : Al} (h : al ∈ Als) {a b : Mc} (oa : McOk 40 a) (ob : McOk 40 b) : eLM al a = eLM al b ↔ a = b := by
  refine ⟨fun e => ?_, fun e => by rw [e]⟩
  unfold eLM mFlds at e
  injection e with e
  injection e with _ e
  injection e with _ e
  injection e with e1 e
  injection e with e2 e
  injection e with e3 _
  have l1 := rows_inj lst_inj (lst_inj _ _ e1)
  have l2 := rows_inj lst_inj (lst_inj _ _ e2)
  have l3 := tab_inj lst_inj h (fun r hr => (oa.t2 r hr).2) (fun r hr => (ob.t2 r hr).2) (lst_inj _ _ e3)
  cases a
  cases b
  simp only at l1 l2 l3
  rw [l1, l2, l3]
theorem composedL_40 {al : Al} (hal : al ∈ Als) {a b m : Mc} (oa : McOk 40 a) (ob : McOk 40 b) (h : composedL a b = some m) : McOk 40 m := by
  rw [composedL_eq hal oa ob] at h
  exact compose_40 hal oa ob h
theorem foldL_40 {al : Al} (hal : al ∈ Als) {ms : List Mc} {a w : Mc} (hm : ∀ m ∈ ms, McOk 40 m) (oa : McOk 40 a) (h : ms.foldlM (fun w m => composedL w m) a = some w) : McOk 40 w := by
  rw [fold_eq hal hm oa] at h
  exact cascade_40 hal hm oa h
theorem wholeL_40 {al : Al} (hal : al ∈ Als) {ms : List Mc} {w : Mc} (hm : ∀ m ∈ ms, McOk 40 m) (h : wholeL ms = some w) : McOk 40 w := by
  rw [wholeL_eq hal hm] at h
  exact cascadeP_40 hal hm h
theorem cut_to {f : Mc → D} {ms : List Mc} {k : Nat} (hk : k ≤ ms.length) : cutD (ms.map f) none (some (k : Int)) = (ms.take k).map f := by
  unfold cutD
  rw [HT.sIx_none, HT.sIx_nat, List.length_map, List.drop_zero, Nat.min_eq_left hk, Nat.sub_zero, List.map_take]
theorem cut_from {f : Mc → D} {ms : List Mc} {k : Nat} (hk : k + 1 ≤ ms.length) : cutD (ms.map f) (some ((k : Int) + 1)) none = (ms.drop (k + 1)).map f := by
  unfold cutD
  rw [HT.sIx_none, show (k : Int) + 1 = ((k + 1 : Nat) : Int) by omega, HT.sIx_nat, List.length_map, Nat.min_eq_left hk, List.map_drop]
  exact List.take_of_length_le (by rw [List.length_drop, List.length_map]; exact Nat.le_refl _)
theorem optLM_isN (al : Al) (o : Option Mc) : (optLM al o).isN = o.isNone := by cases o <;> rfl
section
variable {c : Ct} {E : XK} {b : Addr} {ρ : Env} {te ta tb tk : TE} {al : Al}
theorem ev_zeros2 {i j : Nat} (h : ρ[i]? = some (some (.dat (.str (alS al))))) : EvE c (tLst (tCons (tLc (iStr (tVar i)) (gName j) tYes (tC (.int 0)) [j]) tNil)) ρ (eRows [[0, 0]]) :=
  ev_lst (ea_cons (ev_lc1 (xs := [0, 1]) (e := fun k => .str ⟨#[lt al k]⟩) (g := fun _ => eI 0) (by rw [← wS_signs]; exact ei_str (ev_var h)) (by decide) fun _ _ _ => ev_int) ea_nil) (by show 1 ≤ 100000; decide)
theorem as_law_whole (i : Al × List Mc) (h : i.1 ∈ Als ∧ i.2.length ≤ 6 ∧ ∀ m ∈ i.2, McOk 40 m) : AS c E (t_law_whole c) (entry N_law_whole [.str (alS i.1), .lst (i.2.map (eLM i.1))]) { nx := fun _ => False, rt := fun d => d = optLM i.1 (wholeL i.2) } := by
  obtain ⟨al, ms⟩ := i
  obtain ⟨hal, hlen, hm⟩ := h
  have hal : al ∈ Als := hal
  have hlen : ms.length ≤ 6 := hlen
  have hm : ∀ m ∈ ms, McOk 40 m := hm
  show AS c E _ [some (.dat (.str (alS al))), some (.dat (.lst (ms.map (eLM al)))), none, none, none] { nx := fun _ => False, rt := fun d => d = optLM al (wholeL ms) }
  refine as_seq (as_ifT (b := decide (((ms.length : Nat) : Int) = 0)) (et_test (ev_opE (ev_lenEq (ev_var rfl) (by rw [List.length_map])) ev_int rop_eqI)) (fun e => ?_) fun e => as_next ?_)
  · have e0 : ms = [] := List.eq_nil_of_length_eq_zero (by have := of_decide_eq_true e; omega)
    subst e0
    exact as_retE (ev_lst (ea_cons (ev_var rfl) (ea_cons (ev_var rfl) (ea_cons (ev_zeros2 rfl) (ea_cons (ev_zeros2 rfl) (ea_cons (ev_lst (ea_cons (ev_lst (ea_cons (ev_var rfl) ea_nil)) ea_nil) (by show 1 ≤ 100000; decide)) ea_nil))))) (by show 5 ≤ 100000; decide)) rfl
  · have hne : ms ≠ [] := fun z => by subst z; cases e
    obtain ⟨m0, mr, rfl⟩ := List.exists_cons_of_ne_nil hne
    have h0 := hm m0 List.mem_cons_self
    have hr : ∀ m ∈ mr, McOk 40 m := fun m h => hm m (List.mem_cons_of_mem _ h)
    refine as_seq (as_setE (ev_callE (al, m0) (ea_cons (ev_opE (ev_var rfl) ev_int (rop_ixL (d := eLM al m0) (show L2.atI _ ((0 : Nat) : Int) = _ from at_nat rfl))) ea_nil) ⟨hal, h0.up (by decide)⟩) ?_)
    show AS c E _ [some (.dat (.str (alS al))), some (.dat (.lst ((m0 :: mr).map (eLM al)))), none, some (.dat (eLM al (leastL m0))), none] _
    refine as_seq (as_for (ei_list (xs := mr.map (eLM al)) ((ev_slL (ds := eLM al m0 :: mr.map (eLM al)) (ev_var rfl) (eo_some ev_int) eo_none : EvE c _ _ _).to (by rw [cut_tail])))
      (fun n ρ => ρ = [some (.dat (.str (alS al))), some (.dat (.lst ((m0 :: mr).map (eLM al)))), none, some (.dat (optLM al ((mr.take n).foldlM (fun w m => composedL w m) (leastL m0)))), none]) rfl ?_ ?_)
    · rintro n x ρ hx rfl
      obtain ⟨m, hmm, rfl⟩ := map_get hx
      have om := hr m (List.mem_of_getElem? hmm)
      refine ⟨_, _, eg_name, ?_⟩
      have hst : (mr.take (n + 1)).foldlM (fun w m => composedL w m) (leastL m0) = ((mr.take n).foldlM (fun w m => composedL w m) (leastL m0)).bind fun w => composedL w m := by rw [take_snoc hmm, foldlM_snoc]
      rw [hst]
      have ow : ∀ w, (mr.take n).foldlM (fun w m => composedL w m) (leastL m0) = some w → McOk 40 w := fun w hw => foldL_40 hal (fun m h => hr m (List.mem_of_mem_take h)) (leastL_40 h0) hw
      generalize (mr.take n).foldlM (fun w m => composedL w m) (leastL m0) = w at ow
      show AS c E _ [some (.dat (.str (alS al))), some (.dat (.lst ((m0 :: mr).map (eLM al)))), none, some (.dat (optLM al w)), some (.dat (eLM al m))] _
      refine as_ifT (et_test (ev_opE (ev_var rfl) ev_non rop_notN)) (fun e => ?_) fun e => ?_
      · rw [optLM_isN] at e
        cases w with
        | none => cases e
        | some w =>
          refine as_setE (d := optLM al (composedL w m)) (ev_callE (al, w, m) (ea_cons (ev_var rfl) (ea_cons (ev_var rfl) ea_nil)) ⟨hal, ow w rfl, om⟩) ?_
          rw [Option.bind_some]
          generalize composedL w m = z
          exact ⟨_, .keep (.keep (.keep (.keep (.drop .nil)))), rfl⟩
      · rw [optLM_isN] at e
        cases w with
        | some w => cases e
        | none => exact as_next ⟨_, .keep (.keep (.keep (.keep (.drop .nil)))), rfl⟩
    · rintro ρ rfl
      rw [List.length_map, List.take_length]
      exact as_retE (ev_var rfl) rfl
theorem as_law_due_swap (i : Al × List Mc × Nat) (h : i.1 ∈ Als ∧ i.2.1.length ≤ 6 ∧ ∀ m ∈ i.2.1, McOk 40 m) : AS c E (t_law_due_swap c) (entry N_law_due_swap [.lst (i.2.1.map (eLM i.1)), eI i.2.2])
    { nx := fun _ => False, rt := fun d => d = if i.2.2 + 1 < i.2.1.length then eSwap (swapL i.2.1 i.2.2) else .str noPass } := by
  obtain ⟨al, ms, k⟩ := i
  obtain ⟨hal, hlen, hm⟩ := h
  have hal : al ∈ Als := hal
  have hlen : ms.length ≤ 6 := hlen
  have hm : ∀ m ∈ ms, McOk 40 m := hm
  show AS c E _ [some (.dat (.lst (ms.map (eLM al)))), some (.dat (eI k)), none, none] { nx := fun _ => False, rt := fun d => d = if k + 1 < ms.length then eSwap (swapL ms k) else .str noPass }
  refine as_seq (as_ifT (b := decide (((ms.length : Nat) : Int) ≤ (k : Int) + 1)) (et_test (ev_opE (ev_opE (ev_var rfl) ev_int rop_I0) (ev_lenEq (ev_var rfl) (by rw [List.length_map])) rop_B0)) (fun e => ?_) fun e => as_next ?_)
  · have e := of_decide_eq_true e
    refine as_retE ev_str ?_
    rw [if_neg (by omega)]
    rfl
  · have e := of_decide_eq_false e
    have hk : k + 1 < ms.length := by omega
    rw [if_pos hk]
    have k1 := at_ms (f := eLM al) (show k < ms.length by omega)
    have k2 := at_ms (f := eLM al) hk
    rw [show ((k + 1 : Nat) : Int) = (k : Int) + 1 by omega] at k2
    have o1 := hm _ (ms_mem (show k < ms.length by omega))
    have o2 := hm _ (ms_mem hk)
    have es : swapL ms k = (composedL (ms.getD k idM) (ms.getD (k + 1) idM)).bind fun a => (composedL (ms.getD (k + 1) idM) (ms.getD k idM)).bind fun b => some (decide (a = b)) := rfl
    rw [es]
    generalize ms.getD k idM = x at k1 o1
    generalize ms.getD (k + 1) idM = y at k2 o2
    refine as_seq (as_setE (ev_callE (al, x, y) (ea_cons (ev_opE (ev_var rfl) (ev_var rfl) (rop_ixL k1)) (ea_cons (ev_opE (ev_var rfl) (ev_opE (ev_var rfl) ev_int rop_I0) (rop_ixL k2)) ea_nil)) ⟨hal, o1, o2⟩) ?_)
    refine as_seq (as_setE (ev_callE (al, y, x) (ea_cons (ev_opE (ev_var rfl) (ev_opE (ev_var rfl) ev_int rop_I0) (rop_ixL k2)) (ea_cons (ev_opE (ev_var rfl) (ev_var rfl) (rop_ixL k1)) ea_nil)) ⟨hal, o2, o1⟩) ?_)
    have oa : ∀ w, composedL x y = some w → McOk 40 w := fun w hw => composedL_40 hal o1 o2 hw
    have ob : ∀ w, composedL y x = some w → McOk 40 w := fun w hw => composedL_40 hal o2 o1 hw
    simp only
    generalize composedL x y = wa at oa
    generalize composedL y x = wb at ob
    show AS c E _ [some (.dat (.lst (ms.map (eLM al)))), some (.dat (eI k)), some (.dat (optLM al wa)), some (.dat (optLM al wb))] _
    refine as_seq (as_ifT (b := wa.isNone || wb.isNone) (EvT.to (et_or (et_test (ev_opE (ev_var rfl) ev_non rop_isN)) fun _ => et_test (ev_opE (ev_var rfl) ev_non rop_isN)) (by rw [optLM_isN, optLM_isN])) (fun e => ?_) fun e => as_next ?_)
    · refine as_retE ev_str ?_
      cases wa with
      | none => rfl
      | some a => cases wb with
        | none => rfl
        | some b => cases e
    · cases wa with
      | none => cases e
      | some a => cases wb with
        | none => cases e
        | some b => exact as_retE (ev_opE (x := eLM al a) (y := eLM al b) (ev_var rfl) (ev_var rfl) (rop_eqD (b := decide (a = b)) (pl_eLM hal (oa a rfl)) (pl_eLM hal (ob b rfl)) (by rw [decide_eq_true_iff, eLM_inj hal (oa a rfl) (ob b rfl)]))) rfl
def idleStepL (ms : List Mc) (w : Mc) (acc : List Nat) (k : Nat) : Option (List Nat) := (wholeL (ms.take k ++ ms.drop (k + 1))).bind fun r => some (if r = w then acc ++ [k] else acc)
theorem idleL_fold (ms : List Mc) : idleL ms = (wholeL ms).bind fun w => (List.range ms.length).foldlM (idleStepL ms w) [] := rfl
theorem as_law_due_idle (i : Al × List Mc) (h : i.1 ∈ Als ∧ i.2.length ≤ 6 ∧ ∀ m ∈ i.2, McOk 40 m) : AS c E (t_law_due_idle c) (entry N_law_due_idle [.str (alS i.1), .lst (i.2.map (eLM i.1))]) { nx := fun _ => False, rt := fun d => d = eIdle (idleL i.2) } := by
  obtain ⟨al, ms⟩ := i
  obtain ⟨hal, hlen, hm⟩ := h
  have hal : al ∈ Als := hal
  have hlen : ms.length ≤ 6 := hlen
  have hm : ∀ m ∈ ms, McOk 40 m := hm
  show AS c E _ [some (.dat (.str (alS al))), some (.dat (.lst (ms.map (eLM al)))), none, none, none, none] { nx := fun _ => False, rt := fun d => d = eIdle (idleL ms) }
  rw [idleL_fold]
  refine as_seq (as_setE (ev_callE (al, ms) (ea_cons (ev_var rfl) (ea_cons (ev_var rfl) ea_nil)) ⟨hal, hlen, hm⟩) ?_)
  have ow : ∀ w, wholeL ms = some w → McOk 40 w := fun w hw => wholeL_40 hal hm hw
  simp only
  generalize wholeL ms = wh at ow
  show AS c E _ [some (.dat (.str (alS al))), some (.dat (.lst (ms.map (eLM al)))), some (.dat (optLM al wh)), none, none, none] _
  refine as_seq (as_ifT (b := wh.isNone) (EvT.to (et_test (ev_opE (ev_var rfl) ev_non rop_isN)) (by rw [optLM_isN])) (fun e => ?_) fun e => as_next ?_)
  · cases wh with
    | none => exact as_retE ev_str rfl
    | some w => cases e
  · cases wh with
    | none => cases e
    | some w =>
      have ow := ow w rfl
      refine as_seq (as_new ea_nil (by simp) ?_)
      show AS c E _ [some (.dat (.str (alS al))), some (.dat (.lst (ms.map (eLM al)))), some (.dat (eLM al w)), some (.ml []), none, none] { nx := fun _ => False, rt := fun d => d = eIdle ((List.range ms.length).foldlM (idleStepL ms w) []) }
      refine as_seq (as_for (ei_rng1 (n := (ms.length : Nat)) (ea_cons (ev_lenEq (ev_var rfl) (by rw [List.length_map])) ea_nil) (by omega))
        (fun k ρ => k ≤ ms.length ∧ ∃ acc, (List.range k).foldlM (idleStepL ms w) [] = some acc ∧ acc.length ≤ k ∧ ρ = [some (.dat (.str (alS al))), some (.dat (.lst (ms.map (eLM al)))), some (.dat (eLM al w)), some (.ml (acc.map eI)), none, none]) ⟨Nat.zero_le _, [], rfl, Nat.le_refl _, rfl⟩ ?_ ?_)
      · rintro k x ρ hx ⟨_, acc, hacc, hal', rfl⟩
        obtain ⟨hk, rfl⟩ := upTo0_get hx
        have hk : k < ms.length := hk
        refine ⟨_, _, eg_name, ?_⟩
        show AS c E _ [some (.dat (.str (alS al))), some (.dat (.lst (ms.map (eLM al)))), some (.dat (eLM al w)), some (.ml (acc.map eI)), some (.dat (eI k)), none] _
        have hrm := rest_ok hm k
        have hrl : (ms.take k ++ ms.drop (k + 1)).length ≤ 6 := by rw [List.length_append, List.length_take, List.length_drop]; omega
        have hst : (List.range (k + 1)).foldlM (idleStepL ms w) [] = (wholeL (ms.take k ++ ms.drop (k + 1))).bind fun r => some (if r = w then acc ++ [k] else acc) := by
          rw [List.range_succ, foldlM_snoc, hacc]
          rfl
        have hno : wholeL (ms.take k ++ ms.drop (k + 1)) = none → (List.range ms.length).foldlM (idleStepL ms w) [] = none := fun z => by
          refine foldlM_none (i := k + 1) ?_
          rw [List.take_range, Nat.min_eq_left (by omega), hst, z]
          rfl
        refine as_seq (as_setE (ev_callE (al, ms.take k ++ ms.drop (k + 1)) (ea_cons (ev_var rfl) (ea_cons (EvE.to (ev_opE (x := .lst ((ms.take k).map (eLM al))) (y := .lst ((ms.drop (k + 1)).map (eLM al))) ((ev_slL (ev_var rfl) eo_none (eo_some (ev_var rfl)) : EvE c _ _ _).to (by rw [cut_to (by omega)]))
          ((ev_slL (ev_var rfl) (eo_some (ev_opE (ev_var rfl) ev_int rop_I0)) eo_none : EvE c _ _ _).to (by rw [cut_from (by omega)])) (rop_catL (by rw [List.length_map, List.length_map, List.length_take, List.length_drop]; omega))) (by rw [List.map_append])) ea_nil)) ⟨hal, hrl, hrm⟩) ?_)
        have orr : ∀ r, wholeL (ms.take k ++ ms.drop (k + 1)) = some r → McOk 40 r := fun r hr => wholeL_40 hal hrm hr
        simp only
        generalize wholeL (ms.take k ++ ms.drop (k + 1)) = wr at hst hno orr
        show AS c E _ [some (.dat (.str (alS al))), some (.dat (.lst (ms.map (eLM al)))), some (.dat (eLM al w)), some (.ml (acc.map eI)), some (.dat (eI k)), some (.dat (optLM al wr))] _
        refine as_seq (as_ifT (b := wr.isNone) (EvT.to (et_test (ev_opE (ev_var rfl) ev_non rop_isN)) (by rw [optLM_isN])) (fun e => ?_) fun e => as_next ?_)
        · cases wr with
          | none => exact as_retE ev_str (by rw [hno rfl]; rfl)
          | some r => cases e
        · cases wr with
          | none => cases e
          | some r =>
            have orr := orr r rfl
            refine as_ifT (et_test (ev_opE (x := eLM al r) (y := eLM al w) (ev_var rfl) (ev_var rfl) (rop_eqD (b := decide (r = w)) (pl_eLM hal orr) (pl_eLM hal ow) (by rw [decide_eq_true_iff, eLM_inj hal orr ow])))) (fun hb => ?_) fun hb => ?_
            · have e : r = w := of_decide_eq_true hb
              refine as_appE rfl (ev_var rfl) (by rw [List.length_map]; omega) ?_
              exact ⟨_, .keep (.keep (.keep (.keep (.drop (.drop .nil))))), by omega, acc ++ [k], by rw [hst]; show some (if r = w then _ else _) = _; rw [if_pos e], by rw [List.length_append]; show _ + 1 ≤ _; omega, by rw [List.map_append]; rfl⟩
            · have e : r ≠ w := of_decide_eq_false hb
              exact as_next ⟨_, .keep (.keep (.keep (.keep (.drop (.drop .nil))))), by omega, acc, by rw [hst]; show some (if r = w then _ else _) = _; rw [if_neg e], by omega, rfl⟩
      · rintro ρ ⟨_, acc, hacc, _, rfl⟩
        rw [upTo_length, show ((ms.length : Nat) : Int).toNat = ms.length by omega] at hacc
        refine as_frz (i := 3) rfl ?_
        exact as_retE (ev_var rfl) (by rw [hacc]; rfl)
end
end Fx
/-! text LawP -/
namespace Fx
open PySem L2 Evl PyProof.Rows NdefX Mir MirL
/-! ### sorted of data that are strictly ordered -/
theorem strict_unique {α : Type} {R : α → α → Prop} {S : α → α → Prop} (hx : ∀ x y, R x y → S y x → False) : ∀ {ys zs : List α}, ys.Pairwise R → zs.Pairwise S → ys.Perm zs → ys = zs
  | [], zs, _, _, h => (List.Perm.nil_eq h)
  | y :: ys, [], _, _, h => by have := h.length_eq; simp at this
  | y :: ys, z :: zs, hy, hz, h => by
    obtain ⟨h1, h2⟩ := List.pairwise_cons.mp hy
    obtain ⟨h3, h4⟩ := List.pairwise_cons.mp hz
    have e : y = z := by
      rcases List.mem_cons.mp (h.mem_iff.mp (List.mem_cons_self (a := y) (l := ys))) with e | m
      · exact e
      · rcases List.mem_cons.mp (h.mem_iff.mpr (List.mem_cons_self (a := z) (l := zs))) with e | m2
        · exact e.symm
        · exact (hx _ _ (h1 z m2) (h3 y m)).elim
    subst e
    rw [strict_unique hx h2 h4 h.cons_inv]
theorem perm_all {α : Type} {P : α → Prop} {a b : List α} (h : a.Perm b) (hp : ∀ x ∈ b, P x) : ∀ x ∈ a, P x := fun x hx => hp x (h.mem_iff.mp hx)
theorem rpl_pairs {α : Type} {K : PySem.W.Frag} {G : Hp} {e : α → D} : ∀ {ts : List (α × V)}, (∀ p ∈ ts, Rp K G (e p.1) p.2) → RpL K G ((ts.map Prod.fst).map e) (ts.map Prod.snd)
  | [], _ => .nil
  | t :: ts, h => .cons (h t List.mem_cons_self) (rpl_pairs fun p hp => h p (List.mem_cons_of_mem _ hp))
theorem zip_pairs {α : Type} {K : PySem.W.Frag} {G : Hp} {e : α → D} : ∀ {xs : List α} {vs : List V}, RpL K G (xs.map e) vs → (∀ p ∈ xs.zip vs, Rp K G (e p.1) p.2) ∧ (xs.zip vs).map Prod.fst = xs ∧ vs.zip (D.pys (xs.map e)) = (xs.zip vs).map fun p => (p.2, (e p.1).py)
  | [], _, h => by cases h; exact ⟨by simp, rfl, rfl⟩
  | x :: xs, _, h => by
    cases h with
    | cons a b =>
      obtain ⟨h1, h2, h3⟩ := zip_pairs b
      refine ⟨fun p hp => ?_, ?_, ?_⟩
      · rcases List.mem_cons.mp hp with z | z
        · rw [z]; exact a
        · exact h1 p z
      · rw [List.zip_cons_cons, List.map_cons, h2]
      · rw [List.map_cons, D.pys, List.zip_cons_cons, List.zip_cons_cons, List.map_cons, h3]
section
variable {c : Ct}
theorem rcl_srt {α : Type} {xs ys : List α} {e : α → D} {n : Nat} (hp : ys.Perm xs) (hs : ys.Pairwise fun x y => PySem.W.dataLt (e x).py (e y).py = true) (hal : ∀ x ∈ xs, ∀ y ∈ xs, PySem.W.alike (e x).py (e y).py = true) (ht : ∀ x ∈ xs, ∃ a r, (e x).py = .tuple (a :: r)) (pl : ∀ x ∈ xs, Pl n (e x)) (hn : n ≤ 60) :
    RClE c (rSrt c.K) [.lst (xs.map e)] (.lst (ys.map e)) := fun G H ok vs r Q q => by
  obtain ⟨v, rfl, h⟩ := r.one
  obtain ⟨a, vs, rfl, ha, hl⟩ := h.list
  have pl' : ∀ d ∈ xs.map e, Pl n d := fun d hd => by obtain ⟨x, hx, rfl⟩ := List.mem_map.mp hd; exact pl x hx
  have ds : ∀ d ∈ D.pys (xs.map e), ∃ x ∈ xs, d = (e x).py := fun d hd => by
    rw [pys_map, List.map_map] at hd
    obtain ⟨x, hx, rfl⟩ := List.mem_map.mp hd
    exact ⟨x, hx, rfl⟩
  obtain ⟨z1, z2, z3⟩ := zip_pairs hl
  refine ⟨a, vs, D.pys (xs.map e), rfl, SqL.of (ok.gh _ _ ha), Pl.dpAll ok.gh (fun d v p h => Pl.dp ok.gh d v p h) pl' hl, fun d hd d' hd' => ?_, .inl fun d hd => ?_, fun d hd => ?_, fun p hp0 => ?_⟩
  · obtain ⟨x, hx, rfl⟩ := ds d hd
    obtain ⟨y, hy, rfl⟩ := ds d' hd'
    exact hal x hx y hy
  · obtain ⟨x, hx, rfl⟩ := ds d hd
    exact ht x hx
  · obtain ⟨x, hx, rfl⟩ := ds d hd
    have := (Pl.lay (e x) (pl x hx)).2
    omega
  · let lt2 : α → α → Bool := fun x y => PySem.W.dataLe false (fun z : α => (e z).py) x y
    let le3 : α × V → α × V → Bool := fun x y => lt2 x.1 y.1
    have m1 : ((xs.zip vs).mergeSort le3).map (fun p => (p.2, (e p.1).py)) = (vs.zip (D.pys (xs.map e))).mergeSort (PySem.W.dataLe false Prod.snd) := by
      rw [z3]
      exact List.map_mergeSort fun _ _ _ _ => rfl
    have m2 : ((xs.zip vs).mergeSort le3).map Prod.fst = xs.mergeSort lt2 := by
      rw [List.map_mergeSort (s := lt2) fun _ _ _ _ => rfl, z2]
    have m3 : ys = xs.mergeSort lt2 := by
      refine strict_unique (R := fun x y => PySem.W.dataLt (e x).py (e y).py = true) (S := fun x y => lt2 x y = true) (fun x y h1 h2 => ?_) hs (PySem.W.sort_pairwise (PySem.W.sortLe_total _ false _) xs) (hp.trans (List.mergeSort_perm xs lt2).symm)
      have h2 : (!PySem.W.dataLt (e x).py (e y).py) = true := h2
      rw [h1] at h2
      cases h2
    have m4 : ((vs.zip (D.pys (xs.map e))).mergeSort (PySem.W.dataLe false Prod.snd)).map Prod.fst = ((xs.zip vs).mergeSort le3).map Prod.snd := by
      rw [← m1, List.map_map]
      rfl
    have key : RpL c.K G (ys.map e) (((vs.zip (D.pys (xs.map e))).mergeSort (PySem.W.dataLe false Prod.snd)).map Prod.fst) := by
      rw [m4, m3, ← m2]
      exact rpl_pairs (perm_all (List.mergeSort_perm (xs.zip vs) le3) z1)
    have s := Stp.lay (o := .lst (((vs.zip (D.pys (xs.map e))).mergeSort (PySem.W.dataLe false Prod.snd)).map Prod.fst)) ok hp0
    exact q _ _ _ _ rfl s (.lst upd_same (key.up s.gg))
end
/-! ### the words of a layer -/
def lexN : List Nat → List Nat → Prop
  | a :: u, b :: v => a < b ∨ (a = b ∧ lexN u v)
  | _, _ => False
theorem lexN_lt : ∀ {u v : List Nat}, lexN u v → (u.map fun n : Nat => (n : Int)) < v.map fun n : Nat => (n : Int)
  | a :: u, b :: v, h => by
    rw [List.map_cons, List.map_cons, List.cons_lt_cons_iff]
    rcases h with h | ⟨rfl, h⟩
    · exact .inl (by omega)
    · exact .inr ⟨rfl, lexN_lt h⟩
  | [], _, h => h.elim
  | _ :: _, [], h => h.elim
theorem lexN_snoc : ∀ {u v : List Nat} (x y : Nat), lexN u v → lexN (u ++ [x]) (v ++ [y])
  | a :: u, b :: v, x, y, h => by
    rcases h with h | ⟨rfl, h⟩
    · exact .inl h
    · exact .inr ⟨rfl, lexN_snoc x y h⟩
  | [], _, _, _, h => h.elim
  | _ :: _, [], _, _, h => h.elim
theorem lexN_pre {x y : Nat} (h : x < y) : ∀ u : List Nat, lexN (u ++ [x]) (u ++ [y])
  | [] => .inl h
  | a :: u => .inr ⟨rfl, lexN_pre h u⟩
theorem lexN_irr : ∀ {u : List Nat}, ¬ lexN u u
  | a :: u, h => by
    rcases h with h | ⟨_, h⟩
    · omega
    · exact lexN_irr h
  | [], h => h
/-- an entry: a word and where it leads -/
abbrev En := List Nat × Nat
def eEn (al : Al) (x : En) : D := .tup [.tup [eI x.1.length, eIs x.1], eW al x.1, eI x.2]
theorem eEn_py (al : Al) (x : En) : (eEn al x).py = .tuple [.tuple [.int x.1.length, .list ((x.1.map fun n : Nat => (n : Int)).map .int)], .str (wS al x.1), .int x.2] := by
  have e : D.pys (x.1.map eI) = (x.1.map fun n : Nat => (n : Int)).map PyData.int := by
    rw [pys_map, List.map_map, List.map_map]
    refine List.map_congr_left fun n _ => ?_
    show D.py (D.int _) = PyData.int _
    rw [D.py]
  unfold eEn eIs
  simp only [D.py, D.pys, e, eW]
theorem eEn_lt {al : Al} {x y : En} (hl : x.1.length = y.1.length) (h : lexN x.1 y.1) : PySem.W.dataLt (eEn al x).py (eEn al y).py = true := by
  have hi := lexN_lt h
  have hne : ¬ (x.1.map fun n : Nat => (n : Int)) = y.1.map fun n : Nat => (n : Int) := fun z => by
    rw [z] at hi
    exact absurd hi (List.lt_irrefl _)
  rw [eEn_py, eEn_py, hl]
  generalize (x.1.map fun n : Nat => (n : Int)) = u at hi hne
  generalize (y.1.map fun n : Nat => (n : Int)) = v at hi hne
  have a1 : PySem.W.alike (.list (u.map .int)) (.list (v.map .int)) = true := by
    rw [PySem.W.alike]
    exact PySem.W.alike_ints u v
  have a2 : ∀ n m : Int, PySem.W.alike (.int n) (.int m) = true := fun n m => by rw [PySem.W.alike]
  have e0 : PyData.eqv (.int (y.1.length : Int)) (.int (y.1.length : Int)) = true := by rw [PyData.eqv]; simp
  have e1 : PyData.eqv (.list (u.map .int)) (.list (v.map .int)) = false := by
    have := PySem.W.dataLt_ints u v
    cases q : PyData.eqv (.list (u.map .int)) (.list (v.map .int)) with
    | false => rfl
    | true =>
      have t := (PySem.W.toks_eqv _ _ a1).1 q
      unfold PySem.W.rowLt at this
      rw [PySem.W.keyToks, PySem.W.keyToks] at t
      rw [t, lex_irrefl] at this
      rw [decide_eq_true hi] at this
      cases this
  have d1 : PySem.W.dataLt (.list (u.map .int)) (.list (v.map .int)) = true := by
    rw [PySem.W.dataLt_list]
    have := PySem.W.dataLt_ints u v
    unfold PySem.W.rowLt at this
    rw [this, decide_eq_true hi]
  have a3 : PySem.W.alike (.tuple [.int (y.1.length : Int), .list (u.map .int)]) (.tuple [.int (y.1.length : Int), .list (v.map .int)]) = true := by
    rw [PySem.W.alike, PySem.W.alikeAll, PySem.W.alikeAll, PySem.W.alikeAll, a1, a2]
    rfl
  have e3 : PyData.eqv (.tuple [.int (y.1.length : Int), .list (u.map .int)]) (.tuple [.int (y.1.length : Int), .list (v.map .int)]) = false := by
    rw [PyData.eqv, PyData.eqvAll, PyData.eqvAll, e0, e1]
    rfl
  rw [PySem.W.dataLt_tuple, PySem.W.dataLt_cons a3, e3, if_neg (by decide), PySem.W.dataLt_pair (a2 _ _) a1, if_pos e0, e1, if_neg (by decide)]
  exact d1
theorem eEn_alike (al : Al) (x y : En) : PySem.W.alike (eEn al x).py (eEn al y).py = true := by
  rw [eEn_py, eEn_py]
  simp only [PySem.W.alike, PySem.W.alikeAll, PySem.W.alike_ints, Bool.and_self]
theorem eEn_pl {al : Al} (h : al ∈ Als) {x : En} (hx : ∀ k ∈ x.1, k < 2) : Pl 3 (eEn al x) := fun d hd => by
  simp only [List.mem_cons, List.not_mem_nil, or_false] at hd
  rcases hd with rfl | rfl | rfl
  · intro d hd
    simp only [List.mem_cons, List.not_mem_nil, or_false] at hd
    rcases hd with rfl | rfl
    · exact pl_int
    · exact pl_ints _
  · exact pl_str h hx
  · exact pl_int
def wd (side : Bool) (w : List Nat) (k : Nat) : List Nat := if side then k :: w else w ++ [k]
def ent (rows : List (List Nat)) (side : Bool) (f : Nat → List Nat) (s k : Nat) : En := (wd side (f s) k, nth rows k s)
def foundE (rows : List (List Nat)) (side : Bool) (f : Nat → List Nat) (lv : List Nat) : List En := lv.flatMap fun s => [ent rows side f s 0, ent rows side f s 1]
def sortE (rows : List (List Nat)) (side : Bool) (f : Nat → List Nat) (lv : List Nat) : List En := if side then lv.map (fun s => ent rows side f s 0) ++ lv.map (fun s => ent rows side f s 1) else foundE rows side f lv
theorem sortE_perm (rows : List (List Nat)) (side : Bool) (f : Nat → List Nat) (lv : List Nat) : (sortE rows side f lv).Perm (foundE rows side f lv) := by
  cases side with
  | false => exact List.Perm.refl _
  | true =>
    show (lv.map (fun s => ent rows true f s 0) ++ lv.map (fun s => ent rows true f s 1)).Perm (foundE rows true f lv)
    unfold foundE
    generalize ent rows true f = g
    induction lv with
    | nil => exact List.Perm.refl _
    | cons a lv ih =>
      rw [List.map_cons, List.map_cons, List.flatMap_cons]
      exact List.Perm.cons _ (List.perm_middle.trans (List.Perm.cons _ ih))
theorem sortE_to (rows : List (List Nat)) (side : Bool) (f : Nat → List Nat) (lv : List Nat) : (sortE rows side f lv).map Prod.snd = cand rows side lv := by
  cases side with
  | false =>
    show (foundE rows false f lv).map Prod.snd = lv.flatMap fun s => [(row rows s).getD 0 0, (row rows s).getD 1 0]
    unfold foundE
    rw [List.map_flatMap]
    rfl
  | true =>
    show (lv.map (fun s => ent rows true f s 0) ++ lv.map (fun s => ent rows true f s 1)).map Prod.snd = _
    rw [List.map_append, List.map_map, List.map_map]
    rfl
theorem foundE_mem {rows : List (List Nat)} {side : Bool} {f : Nat → List Nat} {lv : List Nat} {x : En} (h : x ∈ foundE rows side f lv) : ∃ s ∈ lv, ∃ k, k < 2 ∧ x = ent rows side f s k := by
  obtain ⟨s, hs, hx⟩ := List.mem_flatMap.mp h
  simp only [List.mem_cons, List.not_mem_nil, or_false] at hx
  rcases hx with rfl | rfl
  · exact ⟨s, hs, 0, by decide, rfl⟩
  · exact ⟨s, hs, 1, by decide, rfl⟩
theorem sortE_pair {rows : List (List Nat)} {side : Bool} {f : Nat → List Nat} : ∀ {lv : List Nat}, lv.Pairwise (fun a b => lexN (f a) (f b)) → (sortE rows side f lv).Pairwise fun x y => lexN x.1 y.1 := by
  intro lv h
  cases side with
  | false =>
    show (foundE rows false f lv).Pairwise _
    unfold foundE
    induction lv with
    | nil => exact .nil
    | cons a lv ih =>
      obtain ⟨h1, h2⟩ := List.pairwise_cons.mp h
      rw [List.flatMap_cons]
      refine List.pairwise_append.mpr ⟨?_, ih h2, fun x hx y hy => ?_⟩
      · exact .cons (fun y hy => by rw [List.mem_singleton.mp hy]; exact lexN_pre (by decide) _) (.cons (by simp) .nil)
      · obtain ⟨s, hs, k, hk, rfl⟩ := foundE_mem (rows := rows) (side := false) (f := f) hy
        obtain ⟨s', hs', k', hk', rfl⟩ := foundE_mem (rows := rows) (side := false) (f := f) (lv := [a]) (by simpa [foundE] using hx)
        rw [List.mem_singleton.mp hs']
        exact lexN_snoc _ _ (h1 s hs)
  | true =>
    show (lv.map (fun s => ent rows true f s 0) ++ lv.map (fun s => ent rows true f s 1)).Pairwise _
    refine List.pairwise_append.mpr ⟨List.pairwise_map.mpr (h.imp fun z => .inr ⟨rfl, z⟩), List.pairwise_map.mpr (h.imp fun z => .inr ⟨rfl, z⟩), fun x hx y hy => ?_⟩
    obtain ⟨s, _, rfl⟩ := List.mem_map.mp hx
    obtain ⟨t, _, rfl⟩ := List.mem_map.mp hy
    exact .inl (by decide)
theorem wd_len (side : Bool) (w : List Nat) (k : Nat) : (wd side w k).length = w.length + 1 := by
  cases side
  · show (w ++ [k]).length = _; simp
  · rfl
theorem wd_lt {side : Bool} {w : List Nat} {k : Nat} (h : ∀ x ∈ w, x < 2) (hk : k < 2) : ∀ x ∈ wd side w k, x < 2 := fun x hx => by
  cases side
  · rcases List.mem_append.mp hx with z | z
    · exact h x z
    · rw [List.mem_singleton.mp z]; exact hk
  · rcases List.mem_cons.mp hx with z | z
    · rw [z]; exact hk
    · exact h x z
/-! ### the new ones are laid -/
abbrev Sf := List Nat × (Nat → List Nat)
def put1 (st : Sf) (x : En) : Sf := if x.2 ∈ st.1 then st else (st.1 ++ [x.2], fun s => if s = x.2 then x.1 else st.2 s)
def puts (st : Sf) (xs : List En) : Sf := xs.foldl put1 st
theorem puts_snoc (st : Sf) (xs : List En) (x : En) : puts st (xs ++ [x]) = put1 (puts st xs) x := by unfold puts; rw [List.foldl_append]; rfl
theorem puts_addRow : ∀ (xs : List En) (st : Sf), (puts st xs).1 = addRow st.1 (xs.map Prod.snd)
  | [], _ => rfl
  | x :: xs, st => by
    show (puts (put1 st x) xs).1 = addRow (if x.2 ∈ st.1 then st.1 else st.1 ++ [x.2]) (xs.map Prod.snd)
    rw [puts_addRow xs]
    unfold put1
    split <;> rfl
/-- what laying keeps: the old ones stand before, the new ones' words are some of the entries' -/
theorem puts_new (o : List Nat) (f : Nat → List Nat) (xs : List En) : ∃ lv, (puts (o, f) xs).1 = o ++ lv ∧ (lv.map (puts (o, f) xs).2).Sublist (xs.map Prod.fst) := by
  have aux : ∀ ys : List En, ∃ lv, (puts (o, f) ys.reverse).1 = o ++ lv ∧ (lv.map (puts (o, f) ys.reverse).2).Sublist (ys.reverse.map Prod.fst) := fun ys => by
    induction ys with
    | nil => exact ⟨[], by simp [puts], by simp⟩
    | cons x ys ih =>
      obtain ⟨lv, h1, h2⟩ := ih
      rw [List.reverse_cons, puts_snoc, List.map_append]
      generalize puts (o, f) ys.reverse = st at h1 h2
      unfold put1
      by_cases hm : x.2 ∈ st.1
      · rw [if_pos hm]
        exact ⟨lv, h1, h2.trans (List.sublist_append_left _ _)⟩
      · rw [if_neg hm]
        refine ⟨lv ++ [x.2], by show st.1 ++ [x.2] = _; rw [h1, List.append_assoc], ?_⟩
        rw [List.map_append]
        have e : lv.map (fun s => if s = x.2 then x.1 else st.2 s) = lv.map st.2 := List.map_congr_left fun s hs => if_neg fun z => hm (by rw [h1, ← z]; exact List.mem_append_right _ hs)
        refine List.Sublist.append (by show (lv.map (fun s => if s = x.2 then x.1 else st.2 s)).Sublist _; rw [e]; exact h2) ?_
        show [if x.2 = x.2 then x.1 else st.2 x.2].Sublist [x.1]
        rw [if_pos rfl]
        exact List.Sublist.refl _
  have := aux xs.reverse
  rwa [List.reverse_reverse] at this
end Fx
/-! text PsE4 -/
namespace Fx
open PySem L2 Evl PyProof.Rows Mir NdefX LamX
section
variable {P : Program} {w : World} {K : PySem.W.Frag} {mg : Str → Option Value} {base : Heap} {tabs : List NdefX.NTab} {ad : Ads} {cdv : Value} {A : Around} {outer : List PySem.Env} {s : Shared} {H : Hp} {E : XK} {f : Addr}
/-! ### _law_firsts -/
abbrev s_law_firsts : Stmt := topS 54
abbrev N_law_firsts : List Str := ["_law_m", "_law_side", "_law_first", "_law_order", "_law_layer", "_law_turn", "_law_found", "_law_state", "_law_k", "_law_to", "_law_word", "_law_one"]
theorem sc_law_firsts : FnScope N_law_firsts ["_law_m", "_law_side"] (defScope s_law_firsts) := ⟨rfl, rfl, rfl, by decide +kernel, rfl, by decide +kernel, by decide +kernel⟩
def t_law_firsts (c : Ct) : TS :=
      (tSeq (tAsg (tDisp [((tC (.int 0)), (tC (.str "")))]) (gName 2))
      (tSeq (tAsg (tLst (tCons (tC (.int 0)) tNil)) (gName 3))
      (tSeq (tAsg (tLst (tCons (tC (.int 0)) tNil)) (gName 4))
      (tSeq (tFor (iRng1 (tCons (tC (.int 102)) tNil)) (gName 5)
      (tSeq (tAsg (tLst tNil) (gName 6))
      (tSeq (tFor (iList c.K (tVar 4)) (gName 7)
      (tFor (iRng1 (tCons (tCB (rLenF c.K) (tCons (tOp (rIxL c.K) (tVar 0) (tC (.int 0))) tNil)) tNil)) (gName 8)
      (tSeq (tAsg (tOp (rIxL c.K) (tOp (rIxL c.K) (tOp (rIxL c.K) (tVar 0) (tOp (rI0 fun i j => .int (i + j)) (tC (.int 2)) (tVar 1))) (tVar 7)) (tVar 8)) (gName 9))
      (tSeq (tAsg (tOp (rIxL c.K) (tLst (tCons (tOp rAddT (tDGet (tVar 2) (tVar 7)) (tOp rIxS (tOp (rIxL c.K) (tVar 0) (tC (.int 0))) (tVar 8))) (tCons (tOp rAddT (tOp rIxS (tOp (rIxL c.K) (tVar 0) (tC (.int 0))) (tVar 8)) (tDGet (tVar 2) (tVar 7))) tNil))) (tVar 1)) (gName 10))
      (tDrop (tBM c.K "list" rAppend (tVar 6) (tCons (tTup (tCons (tCall (sp_law_key c) [] E0 (tCons (tOp (rIxL c.K) (tVar 0) (tC (.int 0))) (tCons (tVar 10) tNil))) (tCons (tVar 10) (tCons (tVar 9) tNil)))) tNil)))))))
      (tSeq (tAsg (tLst tNil) (gName 4))
      (tFor (iList c.K (tCB (rSrt c.K) (tCons (tVar 6) tNil))) (gName 11)
      (tIfS (tB (tDNotIn (tOp (rIxT c.K) (tVar 11) (tC (.int 2))) (tVar 2))) (tSeq (sDPut (tVar 2) (tOp (rIxT c.K) (tVar 11) (tC (.int 2))) (tOp (rIxT c.K) (tVar 11) (tC (.int 1))))
      (tSeq (tDrop (tBM c.K "list" rAppend (tVar 3) (tCons (tOp (rIxT c.K) (tVar 11) (tC (.int 2))) tNil)))
      (tDrop (tBM c.K "list" rAppend (tVar 4) (tCons (tOp (rIxT c.K) (tVar 11) (tC (.int 2))) tNil))))) tNext))))))
      (tRet (tLst (tCons (tVar 3) (tCons (tVar 2) tNil))))))))
theorem p_law_firsts (hr : Room 1 (A.deeper (envOfC "_law_firsts" (defScope s_law_firsts) s.heap.objs.size f cdv))) (T : Top K mg) (C_law_key : Cal P w K mg base CX0 1 "_law_key" ["_law_alphabet_here", "_law_word"] (sp_law_key (ct P w K tabs ad))) :
    PSs (cxOf CX0 P w K mg base N_law_firsts "_law_firsts" (defScope s_law_firsts) f cdv A outer s H E).nox (defBody s_law_firsts) (t_law_firsts (ct P w K tabs ad)) :=
    have scN := sc_law_firsts
    (pss_cons (ps_set (i := 2) scN.nd rfl (Or.inl rfl) (pe_disp (pps_cons pe_int pe_str pps_nil) rfl rfl (fun z => by cases z) (by decide)))
      (pss_cons (ps_set (i := 3) scN.nd rfl (Or.inl rfl) (pe_lst (pa_cons pe_int pa_nil)))
      (pss_cons (ps_set (i := 4) scN.nd rfl (Or.inl rfl) (pe_lst (pa_cons pe_int pa_nil)))
      (pss_cons (ps_for PassesOwn.never rfl (pi_range1 rfl T.n_range (pa_cons pe_int pa_nil)) (pg_name (i := 5) scN.nd rfl (Or.inl rfl))
      (pss_cons (ps_set (i := 6) scN.nd rfl (Or.inl rfl) (pe_lst pa_nil))
      (pss_cons (ps_for PassesOwn.never rfl (pi_list (pv 4)) (pg_name (i := 7) scN.nd rfl (Or.inl rfl))
      (pss_one (ps_for PassesOwn.never rfl (pi_range1 rfl T.n_range (pa_cons (pe_callB call_lenF rfl T.n_len boot_len (pa_cons (pe_ix ix_list (pv 0) pe_int (fun _ _ => rfl)) pa_nil)) pa_nil)) (pg_name (i := 8) scN.nd rfl (Or.inl rfl))
      (pss_cons (ps_set (i := 9) scN.nd rfl (Or.inl rfl) (pe_ix ix_list (pe_ix ix_list (pe_ix ix_list (pv 0) (pe_op op_add pe_int (pv 1)) (fun _ _ => rfl)) (pv 7) (fun _ _ => rfl)) (pv 8) (fun _ _ => rfl)))
      (pss_cons (ps_set (i := 10) scN.nd rfl (Or.inl rfl) (pe_ix ix_list (pe_lst (pa_cons (pe_op op_addT (pe_dget (hu_of hr) (pv 2) (pv 7) (fun _ _ => rfl)) (pe_ix ix_str (pe_ix ix_list (pv 0) pe_int (fun _ _ => rfl)) (pv 8) (fun _ _ => rfl))) (pa_cons (pe_op op_addT (pe_ix ix_str (pe_ix ix_list (pv 0) pe_int (fun _ _ => rfl)) (pv 8) (fun _ _ => rfl)) (pe_dget (hu_of hr) (pv 2) (pv 7) (fun _ _ => rfl))) pa_nil))) (pv 1) (fun _ _ => rfl)))
      (pss_one (ps_expr (pe_bm PySem.F.plainAttrs_list PySem.F.slot_list_append PySem.F.type_list_append mt_append (pv 6) (pa_cons (pe_tup (pa_cons (pe_cal C_law_key (hr.mono (by decide)) rfl pass0 (pa_cons (pe_ix ix_list (pv 0) pe_int (fun _ _ => rfl)) (pa_cons (pv 10) pa_nil))) (pa_cons (pv 10) (pa_cons (pv 9) pa_nil)))) pa_nil)))))))))
      (pss_cons (ps_set (i := 4) scN.nd rfl (Or.inl rfl) (pe_lst pa_nil))
      (pss_one (ps_for PassesOwn.never rfl (pi_list (pe_callB (call_srt (hu65 hr)) rfl T.n_sorted boot_sorted (pa_cons (pv 6) pa_nil))) (pg_name (i := 11) scN.nd rfl (Or.inl rfl))
      (pss_one (ps_if (pt_cmp (pc_dnotin (hu_of hr) (pe_ix ix_tup (pv 11) pe_int (fun _ _ => rfl)) (pv 2)) rfl) (pss_cons (ps_dput (hu_of hr) (pv 2) (pe_ix ix_tup (pv 11) pe_int (fun _ _ => rfl)) (pe_ix ix_tup (pv 11) pe_int (fun _ _ => rfl)) rfl)
      (pss_cons (ps_expr (pe_bm PySem.F.plainAttrs_list PySem.F.slot_list_append PySem.F.type_list_append mt_append (pv 3) (pa_cons (pe_ix ix_tup (pv 11) pe_int (fun _ _ => rfl)) pa_nil)))
      (pss_one (ps_expr (pe_bm PySem.F.plainAttrs_list PySem.F.slot_list_append PySem.F.type_list_append mt_append (pv 4) (pa_cons (pe_ix ix_tup (pv 11) pe_int (fun _ _ => rfl)) pa_nil)))))) pss_nil))))))))
      (pss_one (ps_ret (pe_lst (pa_cons (pv 3) (pa_cons (pv 2) pa_nil)))))))))
end
end Fx
/-! text LawQ -/
namespace Fx
open PySem L2 Evl PyProof.Rows NdefX Mir MirL
section
variable {c : Ct} {E : XK} {b : Addr} {ρ : Env} {te ta tb tk : TE} {al : Al}
theorem ev_lstRaw {i j : Nat} {d : D} {kds : List (Key × D)} (hi : ρ[i]? = some (some (.dat d))) (hj : ρ[j]? = some (some (.mk kds))) : Ev c (tLst (tCons (tVar i) (tCons (tVar j) tNil))) ρ (fun x => ∃ v, x = .lst [d, .raw v]) := fun G0 H0 σ G H r Q q => by
  obtain ⟨v, h1, h2⟩ := r.dat hi
  obtain ⟨w, h3, _⟩ := r.slot j _ hj
  refine ⟨v, h1, w, h3, by show 2 ≤ sizeLine; rw [sizeLine_eq]; omega, fun p hp => ?_⟩
  have s := Stp.lay (o := .lst [v, w]) r.ok hp
  exact q _ _ _ _ ⟨w, rfl⟩ s (.lst upd_same (.cons (h2.up s.gg) (.cons (.raw w) .nil)))
theorem al_get {k : Nat} (hk : k < 2) (al : Al) : lt al (([0, 1] : List Nat).getD k 0) = lt al k := by
  rcases (show k = 0 ∨ k = 1 by omega) with rfl | rfl <;> rfl
theorem wS_cons (al : Al) (ws : List Nat) (x : Nat) : (⟨#[lt al x]⟩ : Str) ++ wS al ws = wS al (x :: ws) := by
  show (⟨#[lt al x] ++ (ws.map (lt al)).toArray⟩ : Str) = ⟨((x :: ws).map (lt al)).toArray⟩
  rw [List.map_cons]
  simp
abbrev fmF (al : Al) (m : Mc) (s : Bool) (o : List Nat) (f : Nat → List Nat) (rest : Env) : Env :=
  some (.dat (eLM al m)) :: some (.dat (eS s)) :: some (.mk (fnd o fun x => eW al (f x))) :: some (.ml (o.map eI)) :: rest
structure FsOk (rows : List (List Nat)) (o lv : List Nat) (f : Nat → List Nat) (t : Nat) : Prop where
  nd : o.Nodup
  lt : ∀ s ∈ o, s < rows.length
  sub : ∀ s ∈ lv, s ∈ o
  pw : lv.Pairwise fun a b => lexN (f a) (f b)
  wl : ∀ s ∈ lv, (f s).length = t ∧ ∀ x ∈ f s, x < 2
  ll : lv.length ≤ 100
theorem FsOk.ent {rows : List (List Nat)} {o lv : List Nat} {f : Nat → List Nat} {t : Nat} {side : Bool} (ok : RowsOk rows.length rows) (h : FsOk rows o lv f t) : ∀ x ∈ foundE rows side f lv, x.1.length = t + 1 ∧ (∀ k ∈ x.1, k < 2) ∧ x.2 < rows.length := fun x hx => by
  obtain ⟨s, hs, k, hk, rfl⟩ := foundE_mem hx
  obtain ⟨w1, w2⟩ := h.wl s hs
  exact ⟨by show (wd side (f s) k).length = _; rw [wd_len, w1], wd_lt w2 hk, nth_lt ok (h.lt s (h.sub s hs)) k hk⟩
/-- the next layer -/
theorem FsOk.next {rows : List (List Nat)} {o lv : List Nat} {f : Nat → List Nat} {t : Nat} {side : Bool} (ok : RowsOk rows.length rows) (hN : rows.length ≤ 100) (h : FsOk rows o lv f t) :
    (puts (o, f) (sortE rows side f lv)).1 = addRow o (cand rows side lv) ∧ FsOk rows (addRow o (cand rows side lv)) ((addRow o (cand rows side lv)).drop o.length) (puts (o, f) (sortE rows side f lv)).2 (t + 1) := by
  have e1 : (puts (o, f) (sortE rows side f lv)).1 = addRow o (cand rows side lv) := by rw [puts_addRow, sortE_to]
  have es := perm_all (sortE_perm rows side f lv) (h.ent (side := side) ok)
  obtain ⟨lv2, e2, sb⟩ := puts_new o f (sortE rows side f lv)
  have nd : (addRow o (cand rows side lv)).Nodup := addRow_nodup h.nd
  have lt : ∀ s ∈ addRow o (cand rows side lv), s < rows.length := fun s hs => by
    rcases addRow_mem.mp hs with z | z
    · exact h.lt s z
    · rw [← sortE_to rows side f lv] at z
      obtain ⟨x, hx, rfl⟩ := List.mem_map.mp z
      exact (es x hx).2.2
  have ln := nodup_le nd lt
  have e3 : (addRow o (cand rows side lv)).drop o.length = lv2 := by rw [← e1, e2, List.drop_left]
  have pws : ((sortE rows side f lv).map Prod.fst).Pairwise lexN := List.pairwise_map.mpr (sortE_pair h.pw)
  refine ⟨e1, nd, lt, fun s hs => List.mem_of_mem_drop hs, ?_, fun s hs => ?_, by rw [List.length_drop]; omega⟩
  · rw [e3]
    exact List.pairwise_map.mp (pws.sublist sb)
  · rw [e3] at hs
    have hm := sb.mem (List.mem_map.mpr ⟨s, hs, rfl⟩)
    obtain ⟨x, hx, ex⟩ := List.mem_map.mp hm
    obtain ⟨q1, q2, _⟩ := es x hx
    rw [← ex]
    exact ⟨q1, q2⟩
theorem foundE_snoc {rows : List (List Nat)} {side : Bool} {f : Nat → List Nat} {lv : List Nat} {j s : Nat} (h : lv[j]? = some s) : foundE rows side f (lv.take (j + 1)) = foundE rows side f (lv.take j) ++ (List.range 2).map (ent rows side f s) := by
  unfold foundE
  rw [take_snoc h, List.flatMap_append]
  rfl
theorem foundE_len {rows : List (List Nat)} {side : Bool} {f : Nat → List Nat} : ∀ lv : List Nat, (foundE rows side f lv).length = 2 * lv.length
  | [] => rfl
  | a :: lv => by
    have := foundE_len (rows := rows) (side := side) (f := f) lv
    unfold foundE at this ⊢
    rw [List.flatMap_cons, List.length_append, this]
    show 2 + 2 * lv.length = 2 * (lv.length + 1)
    omega
/-- one entry is found -/
theorem as_first_k (hal : al ∈ Als) {m : Mc} {side : Bool} {o lv : List Nat} {f : Nat → List Nat} {t s k : Nat} {xs : List En} {dl : D} (om : McOk 100 m) (h : FsOk (mine side m) o lv f t) (hs : s ∈ lv) (hk : k < 2) (ht : t ≤ 102) (hx : xs.length ≤ 1000) {A : AEnds}
    (hn : A.nx (fmF al m side o f [some (.dat dl), some (.dat (eI t)), some (.ml ((xs ++ [ent (mine side m) side f s k]).map (eEn al))), some (.dat (eI s)), none, none, none, none])) :
    AS c E (tSeq (tAsg (tOp (rIxL c.K) (tOp (rIxL c.K) (tOp (rIxL c.K) (tVar 0) (tOp (rI0 fun i j => .int (i + j)) (tC (.int 2)) (tVar 1))) (tVar 7)) (tVar 8)) (gName 9))
      (tSeq (tAsg (tOp (rIxL c.K) (tLst (tCons (tOp rAddT (tDGet (tVar 2) (tVar 7)) (tOp rIxS (tOp (rIxL c.K) (tVar 0) (tC (.int 0))) (tVar 8))) (tCons (tOp rAddT (tOp rIxS (tOp (rIxL c.K) (tVar 0) (tC (.int 0))) (tVar 8)) (tDGet (tVar 2) (tVar 7))) tNil))) (tVar 1)) (gName 10))
      (tDrop (tBM c.K "list" rAppend (tVar 6) (tCons (tTup (tCons (tCall (sp_law_key c) [] E0 (tCons (tOp (rIxL c.K) (tVar 0) (tC (.int 0))) (tCons (tVar 10) tNil))) (tCons (tVar 10) (tCons (tVar 9) tNil)))) tNil)))))
      (fmF al m side o f [some (.dat dl), some (.dat (eI t)), some (.ml (xs.map (eEn al))), some (.dat (eI s)), some (.dat (eI k)), none, none, none]) { A with nx := fun ρ => ∃ ρ', Wk ρ ρ' ∧ A.nx ρ' } := by
  obtain ⟨ra, r1, r2⟩ := mine_ok (s := side) om
  have so := h.sub s hs
  have sl := h.lt s so
  obtain ⟨w1, w2⟩ := h.wl s hs
  refine as_seq (as_setE (ev_nth (ev_mine (ev_var rfl) (ev_var rfl)) (ev_var rfl) (ev_var rfl) sl (by rw [row_len ra sl]; exact hk)) ?_)
  show AS c E _ (fmF al m side o f [some (.dat dl), some (.dat (eI t)), some (.ml (xs.map (eEn al))), some (.dat (eI s)), some (.dat (eI k)), some (.dat (eI (nth (mine side m) k s))), none, none]) _
  have hv : valD (fnd o fun x => eW al (f x)) (Sum.inl (s : Int)) = some (.str (wS al (f s))) := by
    rw [fnd_val, if_pos so]
    rfl
  have vg : EvE c (tDGet (tVar 2) (tVar 7)) (fmF al m side o f [some (.dat dl), some (.dat (eI t)), some (.ml (xs.map (eEn al))), some (.dat (eI s)), some (.dat (eI k)), some (.dat (eI (nth (mine side m) k s))), none, none]) (.str (wS al (f s))) := ev_getK (key := Sum.inl (s : Int)) rfl (ev_var rfl) hv
  have vk : EvE c (tOp rIxS (tOp (rIxL c.K) (tVar 0) (tC (.int 0))) (tVar 8)) (fmF al m side o f [some (.dat dl), some (.dat (eI t)), some (.ml (xs.map (eEn al))), some (.dat (eI s)), some (.dat (eI k)), some (.dat (eI (nth (mine side m) k s))), none, none]) (.str ⟨#[lt al k]⟩) :=
    EvE.to (ev_ixw (w := [0, 1]) (lm0 (ev_var rfl)) (ev_var rfl) hk (by decide)) (by rw [al_get hk])
  refine as_seq (as_setE (d := eW al (wd side (f s) k)) ?_ ?_)
  · have v1 := ev_opE vg vk (rop_addT (by rw [wS_length, w1, sizeLine_eq]; show t + 1 ≤ _; omega))
    have v2 := ev_opE vk vg (rop_addT (by rw [wS_length, w1, sizeLine_eq]; show 1 + t ≤ _; omega))
    rw [wS_snoc] at v1
    rw [wS_cons] at v2
    cases side
    · exact ev_opE (ev_lst (ea_cons v1 (ea_cons v2 ea_nil))) (ev_var rfl) (rop_ixL rfl)
    · exact ev_opE (ev_lst (ea_cons v1 (ea_cons v2 ea_nil))) (ev_var rfl) (rop_ixL rfl)
  show AS c E _ (fmF al m side o f [some (.dat dl), some (.dat (eI t)), some (.ml (xs.map (eEn al))), some (.dat (eI s)), some (.dat (eI k)), some (.dat (eI (nth (mine side m) k s))), some (.dat (eW al (wd side (f s) k))), none]) _
  refine as_appE (d := eEn al (ent (mine side m) side f s k)) rfl (ev_tup (ea_cons (ev_callE (al, wd side (f s) k) (ea_cons (lm0 (ev_var rfl)) (ea_cons (ev_var rfl) ea_nil)) ⟨hal, by show (wd side (f s) k).length ≤ 1000; rw [wd_len, w1]; omega, wd_lt w2 hk⟩) (ea_cons (ev_var rfl) (ea_cons (ev_var rfl) ea_nil))) (by show 3 ≤ 100000; decide)) (by rw [List.length_map]; omega) ?_
  refine ⟨_, .keep (.keep (.keep (.keep (.keep (.keep (.keep (.keep (.drop (.drop (.drop (.keep .nil))))))))))), ?_⟩
  rw [List.map_append] at hn
  exact hn
/-- an entry is looked at -/
theorem as_first_put {m : Mc} {side : Bool} {st : Sf} {lv : List Nat} {x : En} {dt df : D} (hl : st.1.length ≤ 1000) (hv : lv.length ≤ 1000) {A : AEnds}
    (hn : A.nx (fmF al m side (put1 st x).1 (put1 st x).2 [some (.ml ((if x.2 ∈ st.1 then lv else lv ++ [x.2]).map eI)), some (.dat dt), some (.dat df), none, none, none, none, none])) :
    AS c E (tIfS (tB (tDNotIn (tOp (rIxT c.K) (tVar 11) (tC (.int 2))) (tVar 2))) (tSeq (sDPut (tVar 2) (tOp (rIxT c.K) (tVar 11) (tC (.int 2))) (tOp (rIxT c.K) (tVar 11) (tC (.int 1))))
      (tSeq (tDrop (tBM c.K "list" rAppend (tVar 3) (tCons (tOp (rIxT c.K) (tVar 11) (tC (.int 2))) tNil)))
      (tDrop (tBM c.K "list" rAppend (tVar 4) (tCons (tOp (rIxT c.K) (tVar 11) (tC (.int 2))) tNil))))) tNext)
      (fmF al m side st.1 st.2 [some (.ml (lv.map eI)), some (.dat dt), some (.dat df), none, none, none, none, some (.dat (eEn al x))]) { A with nx := fun ρ => ∃ ρ', Wk ρ ρ' ∧ A.nx ρ' } := by
  have i2 : ∀ ρ : Env, ρ[11]? = some (some (.dat (eEn al x))) → EvE c (tOp (rIxT c.K) (tVar 11) (tC (.int 2))) ρ (eI x.2) := fun ρ h => ev_opE (ev_var h) ev_int (rop_ixT rfl)
  have i1 : ∀ ρ : Env, ρ[11]? = some (some (.dat (eEn al x))) → EvE c (tOp (rIxT c.K) (tVar 11) (tC (.int 1))) ρ (eW al x.1) := fun ρ h => ev_opE (ev_var h) ev_int (rop_ixT rfl)
  unfold put1 at hn
  refine as_ifT (et_B (ev_notInK (key := Sum.inl (x.2 : Int)) (i2 _ rfl) rfl)) (fun e => ?_) fun e => ?_
  · rw [fnd_val] at e
    have hm : x.2 ∉ st.1 := fun z => by rw [if_pos z] at e; cases e
    rw [if_neg hm, if_neg hm] at hn
    refine as_seq (as_putK (key := Sum.inl (x.2 : Int)) rfl (i1 _ rfl) (i2 _ rfl) (by rw [fnd_len]; omega) ?_)
    rw [fnd_put _ _ _ _ hm]
    have ef : (fun y => if y = x.2 then eW al x.1 else eW al (st.2 y)) = fun y => eW al (if y = x.2 then x.1 else st.2 y) := by
      funext y
      split <;> rfl
    rw [ef]
    refine as_seq (as_appE rfl (i2 _ rfl) (by rw [List.length_map]; omega) ?_)
    refine as_appE rfl (i2 _ rfl) (by rw [List.length_map]; omega) ?_
    refine ⟨_, .keep (.keep (.keep (.keep (.keep (.keep (.keep (.keep (.keep (.keep (.keep (.drop .nil))))))))))), ?_⟩
    unfold fmF at hn
    rw [List.map_append, List.map_append] at hn
    exact hn
  · rw [fnd_val] at e
    have hm : x.2 ∈ st.1 := by
      by_cases z : x.2 ∈ st.1
      · exact z
      · rw [if_neg z] at e; cases e
    rw [if_pos hm, if_pos hm] at hn
    exact as_next ⟨_, .keep (.keep (.keep (.keep (.keep (.keep (.keep (.keep (.keep (.keep (.keep (.drop .nil))))))))))), hn⟩
theorem as_law_firsts (i : Al × Mc × Bool) (h : i.1 ∈ Als ∧ McOk 100 i.2.1) : AS c E (t_law_firsts c) (entry N_law_firsts [eLM i.1 i.2.1, eI (if i.2.2 then 1 else 0)]) { nx := fun _ => False, rt := fun d => ∃ v, d = .lst [eIs (firstsL (if i.2.2 then i.2.1.r else i.2.1.l) i.2.2), .raw v] } := by
  obtain ⟨al, m, side⟩ := i
  obtain ⟨hal, om⟩ := h
  have hal : al ∈ Als := hal
  have om : McOk 100 m := om
  obtain ⟨ra, r1, rN⟩ := mine_ok (s := side) om
  show AS c E _ [some (.dat (eLM al m)), some (.dat (eS side)), none, none, none, none, none, none, none, none, none, none] { nx := fun _ => False, rt := fun d => ∃ v, d = .lst [eIs (firstsL (mine side m) side), .raw v] }
  refine as_seq (as_disp1 (key := Sum.inl 0) ev_int ev_str ?_)
  refine as_seq (as_new (ea_cons ev_int ea_nil) (by simp) ?_)
  refine as_seq (as_new (ea_cons ev_int ea_nil) (by simp) ?_)
  show AS c E _ (fmF al m side [0] (fun _ => []) [some (.ml ([0].map eI)), none, none, none, none, none, none, none]) _
  refine as_seq (as_for (ei_rng1 (n := 102) (ea_cons ev_int ea_nil)) (fun t ρ => t ≤ 102 ∧ ∃ (o lv : List Nat) (f : Nat → List Nat), lay (mine side m) side (102 - t) o lv = firstsL (mine side m) side ∧ FsOk (mine side m) o lv f t ∧ ρ = fmF al m side o f [some (.ml (lv.map eI)), none, none, none, none, none, none, none])
    ⟨Nat.zero_le _, [0], [0], fun _ => [], rfl, ⟨by simp, by simp; omega, by simp, by simp, by simp, by simp⟩, rfl⟩ ?_ ?_)
  · rintro t x ρ hx ⟨_, o, lv, f, hlay, ok, rfl⟩
    obtain ⟨ht, rfl⟩ := upTo0_get hx
    have ht : t < 102 := ht
    have hol := nodup_le ok.nd ok.lt
    have hll := ok.ll
    refine ⟨_, _, eg_name, ?_⟩
    refine as_frz (i := 4) rfl ?_
    refine as_seq (as_new ea_nil (by simp) ?_)
    show AS c E _ (fmF al m side o f [some (.dat (eIs lv)), some (.dat (eI t)), some (.ml []), none, none, none, none, none]) _
    refine as_seq (as_for (ei_list (xs := lv.map eI) (ev_var rfl)) (fun j ρ => ρ = fmF al m side o f [some (.dat (eIs lv)), some (.dat (eI t)), some (.ml ((foundE (mine side m) side f (lv.take j)).map (eEn al))), none, none, none, none, none]) rfl ?_ ?_)
    · rintro j x ρ hx rfl
      obtain ⟨s, hs, rfl⟩ := map_get hx
      refine ⟨_, _, eg_name, ?_⟩
      show AS c E _ (fmF al m side o f [some (.dat (eIs lv)), some (.dat (eI t)), some (.ml ((foundE (mine side m) side f (lv.take j)).map (eEn al))), some (.dat (eI s)), none, none, none, none]) _
      have fl : (foundE (mine side m) side f (lv.take j)).length ≤ 200 := by rw [foundE_len, List.length_take]; omega
      refine as_for (ei_rng1 (n := 2) (ea_cons (ev_alLen (lm0 (ev_var rfl))) ea_nil)) (fun k ρ => k ≤ 2 ∧ ρ = fmF al m side o f [some (.dat (eIs lv)), some (.dat (eI t)), some (.ml ((foundE (mine side m) side f (lv.take j) ++ (List.range k).map (ent (mine side m) side f s)).map (eEn al))), some (.dat (eI s)), none, none, none, none]) ⟨Nat.zero_le _, by rw [List.range_zero, List.map_nil, List.append_nil]⟩ ?_ ?_
      · rintro k x ρ hx ⟨_, rfl⟩
        obtain ⟨hk, rfl⟩ := upTo0_get hx
        have hk : k < 2 := hk
        refine ⟨_, _, eg_name, ?_⟩
        refine as_first_k hal om ok (List.mem_of_getElem? hs) hk (by omega) (by rw [List.length_append, List.length_map, List.length_range]; omega) (dl := eIs lv) (xs := foundE (mine side m) side f (lv.take j) ++ (List.range k).map (ent (mine side m) side f s)) (A := { nx := fun ρ => k + 1 ≤ 2 ∧ ρ = fmF al m side o f [some (.dat (eIs lv)), some (.dat (eI t)), some (.ml ((foundE (mine side m) side f (lv.take j) ++ (List.range (k + 1)).map (ent (mine side m) side f s)).map (eEn al))), some (.dat (eI s)), none, none, none, none], rt := fun d => ∃ v, d = .lst [eIs (firstsL (mine side m) side), .raw v] }) ⟨hk, ?_⟩
        rw [List.range_succ, List.map_append (l₁ := List.range k), List.append_assoc]
        rfl
      · rintro ρ ⟨_, rfl⟩
        refine ⟨_, .keep (.keep (.keep (.keep (.keep (.keep (.keep (.drop (.keep (.keep (.keep (.keep .nil))))))))))), ?_⟩
        rw [foundE_snoc hs]
        rfl
    · rintro ρ rfl
      rw [List.length_map, List.take_length]
      refine as_frz (i := 6) rfl ?_
      refine as_seq (as_new ea_nil (by simp) ?_)
      have en := ok.ent (side := side) ra
      have es := perm_all (sortE_perm (mine side m) side f lv) en
      have sp := sortE_pair (rows := mine side m) (side := side) ok.pw
      have hsrt : RClE c (rSrt c.K) [.lst ((foundE (mine side m) side f lv).map (eEn al))] (.lst ((sortE (mine side m) side f lv).map (eEn al))) :=
        rcl_srt (n := 3) (sortE_perm _ _ _ _) (List.Pairwise.imp_of_mem (fun {a b} ha hb z => eEn_lt ((es a ha).1.trans (es b hb).1.symm) z) sp) (fun x _ y _ => eEn_alike al x y) (fun x _ => ⟨_, _, eEn_py al x⟩) (fun x hx => eEn_pl hal (en x hx).2.1) (by decide)
      obtain ⟨e1, ok2⟩ := ok.next (side := side) ra rN
      have e4 : lay (mine side m) side (102 - (t + 1)) (addRow o (cand (mine side m) side lv)) ((addRow o (cand (mine side m) side lv)).drop o.length) = firstsL (mine side m) side := by
        rw [← hlay, show 102 - t = (102 - (t + 1)) + 1 by omega]
        rfl
      generalize (foundE (mine side m) side f lv).map (eEn al) = fd at hsrt
      generalize sortE (mine side m) side f lv = xs at hsrt e1 ok2 es sp
      show AS c E _ (fmF al m side o f [some (.ml []), some (.dat (eI t)), some (.dat (.lst fd)), none, none, none, none, none]) _
      have all : ∀ j, (puts (o, f) (xs.take j)).1.length ≤ 100 := fun j => by
        have n2 : (puts (o, f) (xs.take j)).1.Nodup := by rw [puts_addRow]; exact addRow_nodup ok.nd
        refine Nat.le_trans (nodup_le n2 fun s hs => ?_) rN
        rw [puts_addRow] at hs
        rcases addRow_mem.mp hs with z | z
        · exact ok.lt s z
        · obtain ⟨x, hx, rfl⟩ := List.mem_map.mp z
          exact (es x (List.mem_of_mem_take hx)).2.2
      refine as_for (ei_list (xs := xs.map (eEn al)) (ev_cbE (ea_cons (ev_var rfl) ea_nil) hsrt)) (fun j ρ => ∃ lv', (puts (o, f) (xs.take j)).1 = o ++ lv' ∧ ρ = fmF al m side (puts (o, f) (xs.take j)).1 (puts (o, f) (xs.take j)).2 [some (.ml (lv'.map eI)), some (.dat (eI t)), some (.dat (.lst fd)), none, none, none, none, none]) ⟨[], by simp [puts], rfl⟩ ?_ ?_
      · rintro j x ρ hx ⟨lv', hlv, rfl⟩
        obtain ⟨y, hy, rfl⟩ := map_get hx
        have l1 := all j
        have hn2 : puts (o, f) (xs.take (j + 1)) = put1 (puts (o, f) (xs.take j)) y := by rw [take_snoc hy, puts_snoc]
        rw [hn2]
        generalize puts (o, f) (xs.take j) = st at hlv l1
        have l2 : lv'.length ≤ 100 := by rw [hlv, List.length_append] at l1; omega
        refine ⟨_, _, eg_name, ?_⟩
        refine as_first_put (al := al) (m := m) (side := side) (st := st) (lv := lv') (x := y) (dt := eI t) (df := .lst fd) (by omega) (by omega) (A := { nx := fun ρ => ∃ lv', (put1 st y).1 = o ++ lv' ∧ ρ = fmF al m side (put1 st y).1 (put1 st y).2 [some (.ml (lv'.map eI)), some (.dat (eI t)), some (.dat (.lst fd)), none, none, none, none, none], rt := fun d => ∃ v, d = .lst [eIs (firstsL (mine side m) side), .raw v] }) ⟨if y.2 ∈ st.1 then lv' else lv' ++ [y.2], ?_, rfl⟩
        unfold put1
        split
        · exact hlv
        · show st.1 ++ [y.2] = _
          rw [hlv, List.append_assoc]
      · rintro ρ ⟨lv', hlv, rfl⟩
        rw [List.length_map, List.take_length] at hlv ⊢
        have e5 : (addRow o (cand (mine side m) side lv)).drop o.length = lv' := by rw [← e1, hlv, List.drop_left]
        rw [e1]
        rw [e5] at ok2 e4
        exact ⟨_, .keep (.keep (.keep (.keep (.keep (.drop (.drop (.keep (.keep (.keep (.keep (.keep .nil))))))))))), ht, _, lv', _, e4, ok2, rfl⟩
  · rintro ρ ⟨_, o, lv, f, hlay, ok, rfl⟩
    rw [upTo_length] at hlay
    have hlay : o = firstsL (mine side m) side := hlay
    refine as_frz (i := 3) rfl ?_
    refine as_ret (ev_lstRaw rfl rfl) fun d hd => ?_
    rw [← hlay]
    exact hd
end
end Fx
/-! text CalE -/
namespace Fx
open PySem L2 Evl PyProof.Rows Mir NdefX LamX
section
variable {P : Program} {w : World} {K : PySem.W.Frag} {mg : Str → Option Value} {base : Heap} {tabs : List NdefX.NTab} {ad : Ads} {cdv : Value} {A : Around} {outer : List PySem.Env} {s : Shared} {H : Hp} {E : XK} {f : Addr}
theorem cal_law_cell (T : Top K mg) {f : Addr} {fd : FuncData} (F : FnP K "_law_cell" s_law_cell f fd) (hm : mg "_law_cell" = some (.ref f)) :
    Cal P w K mg base CX0 1 "_law_cell" ["_law_script", "_law_k"] (sp_law_cell (ct P w K tabs ad)) :=
  cal_mk F hm sc_law_cell (fun _ _ _ _ _ _ us hl => match us, hl with | [_, _], _ => rfl) (SpF.len fun _ => rfl) fun cdv A outer s H vs Q E hr h => ⟨_, p_law_cell hr T , body_ok (E' := E) h fun i hi => (as_law_cell (c := ct P w K tabs ad) (E := E) i hi).imp (fun _ z => z.elim) (fun _ h => h) fun _ _ z => z⟩
theorem cal_law_row (T : Top K mg) {f : Addr} {fd : FuncData} (F : FnP K "_law_row" s_law_row f fd) (hm : mg "_law_row" = some (.ref f)) (C_law_cell : Cal P w K mg base CX0 1 "_law_cell" ["_law_script", "_law_k"] (sp_law_cell (ct P w K tabs ad))) :
    Cal P w K mg base CX0 2 "_law_row" ["_law_script", "_law_first", "_law_last"] (sp_law_row (ct P w K tabs ad)) :=
  cal_mk F hm sc_law_row (fun _ _ _ _ _ _ us hl => match us, hl with | [_, _, _], _ => rfl) (SpF.len fun _ => rfl) fun cdv A outer s H vs Q E hr h => ⟨_, p_law_row hr T C_law_cell, body_ok (E' := E) h fun i hi => (as_law_row (c := ct P w K tabs ad) (E := E) i hi).imp (fun _ z => z.elim) (fun _ h => h) fun _ _ z => z⟩
theorem cal_law_draw (T : Top K mg) {f : Addr} {fd : FuncData} (F : FnP K "_law_draw" s_law_draw f fd) (hm : mg "_law_draw" = some (.ref f)) :
    Cal P w K mg base CX0 1 "_law_draw" ["_law_box", "_law_many"] (sp_law_draw (ct P w K tabs ad)) :=
  cal_mk F hm sc_law_draw (fun _ _ _ _ _ _ us hl => match us, hl with | [_, _], _ => rfl) (SpB.len fun _ => rfl) fun cdv A outer s H vs Q E hr h => ⟨_, p_law_draw (tabs := tabs) (ad := ad) hr T , body_okB (E' := E) h fun i b hi => (as_law_draw (c := { ct P w K tabs ad with B := some b }) (E := E) (b := b) rfl i hi).imp (fun _ z => z.elim) (fun _ h => h) fun _ _ z => z⟩
theorem cal_law_states (T : Top K mg) {f : Addr} {fd : FuncData} (F : FnP K "_law_states" s_law_states f fd) (hm : mg "_law_states" = some (.ref f)) (C_law_draw : Cal P w K mg base CX0 1 "_law_draw" ["_law_box", "_law_many"] (sp_law_draw (ct P w K tabs ad))) :
    Cal P w K mg base CX0 2 "_law_states" ["_law_box", "_law_many", "_law_letters"] (sp_law_states (ct P w K tabs ad)) :=
  cal_mk F hm sc_law_states (fun _ _ _ _ _ _ us hl => match us, hl with | [_, _, _], _ => rfl) (SpB.len fun _ => rfl) fun cdv A outer s H vs Q E hr h => ⟨_, p_law_states (tabs := tabs) (ad := ad) hr T C_law_draw, body_okB (E' := E) h fun i b hi => (as_law_states (c := { ct P w K tabs ad with B := some b }) (E := E) (b := b) rfl i hi).imp (fun _ z => z.elim) (fun _ h => h) fun _ _ z => z⟩
theorem cal_law_machine (T : Top K mg) {f : Addr} {fd : FuncData} (F : FnP K "_law_machine" s_law_machine f fd) (hm : mg "_law_machine" = some (.ref f)) (C_law_draw : Cal P w K mg base CX0 1 "_law_draw" ["_law_box", "_law_many"] (sp_law_draw (ct P w K tabs ad))) (C_law_states : Cal P w K mg base CX0 2 "_law_states" ["_law_box", "_law_many", "_law_letters"] (sp_law_states (ct P w K tabs ad))) :
    Cal P w K mg base CX0 3 "_law_machine" ["_law_box", "_law_ins", "_law_outs", "_law_most"] (sp_law_machine (ct P w K tabs ad)) :=
  cal_mk F hm sc_law_machine (fun _ _ _ _ _ _ us hl => match us, hl with | [_, _, _, _], _ => rfl) (SpB.len fun _ => rfl) fun cdv A outer s H vs Q E hr h => ⟨_, p_law_machine (tabs := tabs) (ad := ad) hr T C_law_draw C_law_states, body_okB (E' := E) h fun i b hi => (as_law_machine (c := { ct P w K tabs ad with B := some b }) (E := E) (b := b) rfl i hi).imp (fun _ z => z.elim) (fun _ h => h) fun _ _ z => z⟩
theorem cal_law_alphabet (T : Top K mg) {f : Addr} {fd : FuncData} (F : FnP K "_law_alphabet" s_law_alphabet f fd) (hm : mg "_law_alphabet" = some (.ref f)) (C_law_draw : Cal P w K mg base CX0 1 "_law_draw" ["_law_box", "_law_many"] (sp_law_draw (ct P w K tabs ad))) :
    Cal P w K mg base CX0 2 "_law_alphabet" ["_law_box", "_law_many"] (sp_law_alphabet (ct P w K tabs ad)) :=
  cal_mk F hm sc_law_alphabet (fun _ _ _ _ _ _ us hl => match us, hl with | [_, _], _ => rfl) (SpB.len fun _ => rfl) fun cdv A outer s H vs Q E hr h => ⟨_, p_law_alphabet (tabs := tabs) (ad := ad) hr T C_law_draw, body_okB (E' := E) h fun i b hi => (as_law_alphabet (c := { ct P w K tabs ad with B := some b }) (E := E) (b := b) rfl).imp (fun _ z => z.elim) (fun _ h => h) fun _ _ z => z⟩
theorem cal_law_made (T : Top K mg) {f : Addr} {fd : FuncData} (F : FnP K "_law_made" s_law_made f fd) (hm : mg "_law_made" = some (.ref f)) (C_Machine : CalM P w K mg base 3 "Machine" ad.M (sp_Machine (ct P w K tabs ad))) :
    Cal P w K mg base CX0 5 "_law_made" ["_law_m"] (sp_law_made (ct P w K tabs ad)) :=
  cal_mk F hm sc_law_made (fun _ _ _ _ _ _ us hl => match us, hl with | [_], _ => rfl) (SpF.len fun _ => rfl) fun cdv A outer s H vs Q E hr h => ⟨_, p_law_made hr T C_Machine, body_ok (E' := E) h fun i hi => (as_law_made (c := ct P w K tabs ad) (E := E) i hi).imp (fun _ z => z.elim) (fun _ h => h) fun _ _ z => z⟩
theorem cal_law_key (T : Top K mg) {f : Addr} {fd : FuncData} (F : FnP K "_law_key" s_law_key f fd) (hm : mg "_law_key" = some (.ref f)) :
    Cal P w K mg base CX0 1 "_law_key" ["_law_alphabet_here", "_law_word"] (sp_law_key (ct P w K tabs ad)) :=
  cal_mk F hm sc_law_key (fun _ _ _ _ _ _ us hl => match us, hl with | [_, _], _ => rfl) (SpF.len fun _ => rfl) fun cdv A outer s H vs Q E hr h => ⟨_, p_law_key hr T , body_ok (E' := E) h fun i hi => (as_law_key (c := ct P w K tabs ad) (E := E) i hi).imp (fun _ z => z.elim) (fun _ h => h) fun _ _ z => z⟩
theorem cal_law_firsts (T : Top K mg) {f : Addr} {fd : FuncData} (F : FnP K "_law_firsts" s_law_firsts f fd) (hm : mg "_law_firsts" = some (.ref f)) (C_law_key : Cal P w K mg base CX0 1 "_law_key" ["_law_alphabet_here", "_law_word"] (sp_law_key (ct P w K tabs ad))) :
    Cal P w K mg base CX0 2 "_law_firsts" ["_law_m", "_law_side"] (sp_law_firsts (ct P w K tabs ad)) :=
  cal_mk F hm sc_law_firsts (fun _ _ _ _ _ _ us hl => match us, hl with | [_, _], _ => rfl) (SpF.len fun _ => rfl) fun cdv A outer s H vs Q E hr h => ⟨_, p_law_firsts hr T C_law_key, body_ok (E' := E) h fun i hi => (as_law_firsts (c := ct P w K tabs ad) (E := E) i hi).imp (fun _ z => z.elim) (fun _ h => h) fun _ _ z => z⟩
theorem cal_law_trim (T : Top K mg) {f : Addr} {fd : FuncData} (F : FnP K "_law_trim" s_law_trim f fd) (hm : mg "_law_trim" = some (.ref f)) (C_law_firsts : Cal P w K mg base CX0 2 "_law_firsts" ["_law_m", "_law_side"] (sp_law_firsts (ct P w K tabs ad))) :
    Cal P w K mg base CX0 3 "_law_trim" ["_law_m"] (sp_law_trim (ct P w K tabs ad)) :=
  cal_mk F hm sc_law_trim (fun _ _ _ _ _ _ us hl => match us, hl with | [_], _ => rfl) (SpF.len fun _ => rfl) fun cdv A outer s H vs Q E hr h => ⟨_, p_law_trim hr T C_law_firsts, body_ok (E' := E) h fun i hi => (as_law_trim (c := ct P w K tabs ad) (E := E) i hi).imp (fun _ z => z.elim) (fun _ h => h) fun _ _ z => z⟩
theorem cal_law_classes (T : Top K mg) {f : Addr} {fd : FuncData} (F : FnP K "_law_classes" s_law_classes f fd) (hm : mg "_law_classes" = some (.ref f)) :
    Cal P w K mg base CX0 1 "_law_classes" ["_law_states_here", "_law_rows"] (sp_law_classes (ct P w K tabs ad)) :=
  cal_mk F hm sc_law_classes (fun _ _ _ _ _ _ us hl => match us, hl with | [_, _], _ => rfl) (SpF.len fun _ => rfl) fun cdv A outer s H vs Q E hr h => ⟨_, p_law_classes hr T , body_ok (E' := E) h fun i hi => (as_law_classes (c := ct P w K tabs ad) (E := E) i hi).imp (fun _ z => z.elim) (fun _ h => h) fun _ _ z => z⟩
theorem cal_law_least (T : Top K mg) {f : Addr} {fd : FuncData} (F : FnP K "_law_least" s_law_least f fd) (hm : mg "_law_least" = some (.ref f)) (C_law_trim : Cal P w K mg base CX0 3 "_law_trim" ["_law_m"] (sp_law_trim (ct P w K tabs ad))) (C_law_classes : Cal P w K mg base CX0 1 "_law_classes" ["_law_states_here", "_law_rows"] (sp_law_classes (ct P w K tabs ad))) :
    Cal P w K mg base CX0 4 "_law_least" ["_law_m"] (sp_law_least (ct P w K tabs ad)) :=
  cal_mk F hm sc_law_least (fun _ _ _ _ _ _ us hl => match us, hl with | [_], _ => rfl) (SpF.len fun _ => rfl) fun cdv A outer s H vs Q E hr h => ⟨_, p_law_least hr T C_law_trim C_law_classes, body_ok (E' := E) h fun i hi => (as_law_least (c := ct P w K tabs ad) (E := E) i hi).imp (fun _ z => z.elim) (fun _ h => h) fun _ _ z => z⟩
theorem cal_law_grown (T : Top K mg) {f : Addr} {fd : FuncData} (F : FnP K "_law_grown" s_law_grown f fd) (hm : mg "_law_grown" = some (.ref f)) :
    Cal P w K mg base CX0 1 "_law_grown" ["_law_one", "_law_two", "_law_side"] (sp_law_grown (ct P w K tabs ad)) :=
  cal_mk F hm sc_law_grown (fun _ _ _ _ _ _ us hl => match us, hl with | [_, _, _], _ => rfl) (SpF.len fun _ => rfl) fun cdv A outer s H vs Q E hr h => ⟨_, p_law_grown hr T , body_ok (E' := E) h fun i hi => (as_law_grown (c := ct P w K tabs ad) (E := E) i hi).imp (fun _ z => z.elim) (fun _ h => h) fun _ _ z => z⟩
theorem cal_law_composed (T : Top K mg) {f : Addr} {fd : FuncData} (F : FnP K "_law_composed" s_law_composed f fd) (hm : mg "_law_composed" = some (.ref f)) (C_law_least : Cal P w K mg base CX0 4 "_law_least" ["_law_m"] (sp_law_least (ct P w K tabs ad))) (C_law_grown : Cal P w K mg base CX0 1 "_law_grown" ["_law_one", "_law_two", "_law_side"] (sp_law_grown (ct P w K tabs ad))) :
    Cal P w K mg base CX0 5 "_law_composed" ["_law_first", "_law_second"] (sp_law_composed (ct P w K tabs ad)) :=
  cal_mk F hm sc_law_composed (fun _ _ _ _ _ _ us hl => match us, hl with | [_, _], _ => rfl) (SpF.len fun _ => rfl) fun cdv A outer s H vs Q E hr h => ⟨_, p_law_composed hr T C_law_least C_law_grown, body_ok (E' := E) h fun i hi => (as_law_composed (c := ct P w K tabs ad) (E := E) i hi).imp (fun _ z => z.elim) (fun _ h => h) fun _ _ z => z⟩
theorem cal_law_fit (T : Top K mg) {f : Addr} {fd : FuncData} (F : FnP K "_law_fit" s_law_fit f fd) (hm : mg "_law_fit" = some (.ref f)) (C_law_machine : Cal P w K mg base CX0 3 "_law_machine" ["_law_box", "_law_ins", "_law_outs", "_law_most"] (sp_law_machine (ct P w K tabs ad))) :
    Cal P w K mg base CX0 4 "_law_fit" ["_law_box", "_law_alphabet_here", "_law_most"] (sp_law_fit (ct P w K tabs ad)) :=
  cal_mk F hm sc_law_fit (fun _ _ _ _ _ _ us hl => match us, hl with | [_, _, _], _ => rfl) (SpB.len fun _ => rfl) fun cdv A outer s H vs Q E hr h => ⟨_, p_law_fit (tabs := tabs) (ad := ad) hr T C_law_machine, body_okB (E' := E) h fun i b hi => (as_law_fit (c := { ct P w K tabs ad with B := some b }) (E := E) (b := b) rfl i hi).imp (fun _ z => z.elim) (fun _ h => h) fun _ _ z => z⟩
theorem cal_law_whole (T : Top K mg) {f : Addr} {fd : FuncData} (F : FnP K "_law_whole" s_law_whole f fd) (hm : mg "_law_whole" = some (.ref f)) (C_law_least : Cal P w K mg base CX0 4 "_law_least" ["_law_m"] (sp_law_least (ct P w K tabs ad))) (C_law_composed : Cal P w K mg base CX0 5 "_law_composed" ["_law_first", "_law_second"] (sp_law_composed (ct P w K tabs ad))) :
    Cal P w K mg base CX0 6 "_law_whole" ["_law_alphabet_here", "_law_rows"] (sp_law_whole (ct P w K tabs ad)) :=
  cal_mk F hm sc_law_whole (fun _ _ _ _ _ _ us hl => match us, hl with | [_, _], _ => rfl) (SpF.len fun _ => rfl) fun cdv A outer s H vs Q E hr h => ⟨_, p_law_whole hr T C_law_least C_law_composed, body_ok (E' := E) h fun i hi => (as_law_whole (c := ct P w K tabs ad) (E := E) i hi).imp (fun _ z => z.elim) (fun _ h => h) fun _ _ z => z⟩
theorem cal_law_due_swap (T : Top K mg) {f : Addr} {fd : FuncData} (F : FnP K "_law_due_swap" s_law_due_swap f fd) (hm : mg "_law_due_swap" = some (.ref f)) (C_law_composed : Cal P w K mg base CX0 5 "_law_composed" ["_law_first", "_law_second"] (sp_law_composed (ct P w K tabs ad))) :
    Cal P w K mg base CX0 6 "_law_due_swap" ["_law_rows", "_law_index"] (sp_law_due_swap (ct P w K tabs ad)) :=
  cal_mk F hm sc_law_due_swap (fun _ _ _ _ _ _ us hl => match us, hl with | [_, _], _ => rfl) (SpF.len fun _ => rfl) fun cdv A outer s H vs Q E hr h => ⟨_, p_law_due_swap hr T C_law_composed, body_ok (E' := E) h fun i hi => (as_law_due_swap (c := ct P w K tabs ad) (E := E) i hi).imp (fun _ z => z.elim) (fun _ h => h) fun _ _ z => z⟩
theorem cal_law_due_idle (T : Top K mg) {f : Addr} {fd : FuncData} (F : FnP K "_law_due_idle" s_law_due_idle f fd) (hm : mg "_law_due_idle" = some (.ref f)) (C_law_whole : Cal P w K mg base CX0 6 "_law_whole" ["_law_alphabet_here", "_law_rows"] (sp_law_whole (ct P w K tabs ad))) :
    Cal P w K mg base CX0 7 "_law_due_idle" ["_law_alphabet_here", "_law_rows"] (sp_law_due_idle (ct P w K tabs ad)) :=
  cal_mk F hm sc_law_due_idle (fun _ _ _ _ _ _ us hl => match us, hl with | [_, _], _ => rfl) (SpF.len fun _ => rfl) fun cdv A outer s H vs Q E hr h => ⟨_, p_law_due_idle hr T C_law_whole, body_ok (E' := E) h fun i hi => (as_law_due_idle (c := ct P w K tabs ad) (E := E) i hi).imp (fun _ z => z.elim) (fun _ h => h) fun _ _ z => z⟩
end
end Fx
/-! text HxTry -/
/-! try with several clauses, each with a name -/
namespace L2
open PySem PySem.Spec PyProof.Rows
abbrev HdT := Value × Nat × (Addr → Value → Option Addr → TS)
def asD (D : Ends) (i : Nat) : Ends := { nx := fun σ' H' => D.nx (σ'.set i none) H', rt := D.rt, bk := fun σ' H' => D.bk (σ'.set i none) H', ct := fun σ' H' => D.ct (σ'.set i none) H' }
/-- what the clauses wish, one after the other -/
def wNamed (K : PySem.W.Frag) (Wout : WX) (D : Ends) : List HdT → WX
  | [] => Wout
  | (c, i, ts) :: r => fun cls d σ H => ∃ b, PySem.W.exmOne K cls c = some b ∧ (b = true → ∀ a, H a = none → ts a cls d (asD D i) (σ.set i (some (.ref a))) H) ∧ (b = false → wNamed K Wout D r cls d σ H)
inductive HdsN (X : Cx) : List ExceptHandler → List HdT → Prop
  | nil : HdsN X [] []
  | cons {x n : Str} {c : Value} {i : Nat} {ts : Addr → Value → Option Addr → TS} {b₀ : Stmt} {suite : List Stmt} {np pos' : Pos} {hds : List ExceptHandler} {l : List HdT} (hi : X.N[i]? = some n) (hln : X.env.kindOf n = some .local) (hc : Names X x c)
      (hsu : ∀ (a : Addr) (oe : Obj) (cls : Value) (d : Option Addr) (pn : List (Addr × Obj)), Zc cls d oe → (∃ vs, oe.data = .fields vs) → PSs (X.suite a ((a, oe) :: pn)) (b₀ :: suite) (ts a cls d)) (r : HdsN X hds l) :
      HdsN X (.ExceptHandler (some (.Name x np)) (some n) (b₀ :: suite) pos' :: hds) ((c, i, ts) :: l)
section
variable {X : Cx} {body : List Stmt} {h₀ : ExceptHandler} {hds : List ExceptHandler} {l : List HdT} {pos : Pos} {tb : WX → TS} {Wout : WX}
theorem ps_try_named (hs : X.stack = X.env :: X.outer) (hf : X.env.frame = some X.env.locals) (hN : X.N.Nodup) (tk : Takes X Wout)
    (hb : ∀ (W : WX) (pn : List (Addr × Obj)) (xe : Value → Shared → Prop), Takes (X.tr pn xe) W → PassesOwn (model X.prog X.w) X.A X.env xe → PSs (X.tr pn xe) body (tb W))
    (hh : HdsN X (h₀ :: hds) l) : PS X (.Try body (h₀ :: hds) [] [] pos) (fun D σ H => tb (wNamed X.K Wout D l) D σ H) := by
  refine ⟨fun pins s σ H D I h => ?_⟩
  have ok := I.ok
  have frm : X.A.frames = some (X.env :: X.outer) := by rw [ok.frames, hs]
  let catch_ : Value → Shared → Prop := fun e s₁ => wpAny (model X.prog X.w) X.A (noteFrame e X.env) (fun _ s₂ => wpAny (model X.prog X.w) X.A (setFlight e none) (fun _ s₃ =>
    wpAny (model X.prog X.w) X.A (handleBy e X.env (h₀ :: hds)) (SP X pins D) X.xe s₃) X.xe s₂) X.xe s₁
  have tkB : Takes (X.tr (X.pn ++ pins) catch_) (wNamed X.K Wout D l) := by
    rintro u s' ⟨a, B, sI, pins', σ', H', cls, d, rfl, J', nb, up, sky, na, os, ag, w⟩
    have J : Inv X pins σ' H' sI := J'.ofTry ok
    have sky' : Sky B (X.env :: X.outer) a (Zc cls d) X.env.locals s'.heap := by rw [← hs]; exact sky
    show wpAny (model X.prog X.w) X.A (noteFrame (.ref a) X.env) _ _ _
    refine Sky.land Zc.steady frm hf sky' fun h3 fl3 up3 => ?_
    have J3 : Inv X pins σ' H' { s' with heap := h3 } := J.landed nb fl3.1 (up.trans up3) os ag
    obtain ⟨oe3, vs3, he3, hz3, hd3⟩ := fl3.there
    have nfr : a ∉ frs (X.env :: X.outer) := fun hm => by
      obtain ⟨_, o', e', hnf⟩ := fl3.2.2.1.mem hm
      rw [he3] at e'
      cases e'
      exact hnf _ hd3
    have nL : a ≠ X.env.locals := fun z => nfr (List.mem_filterMap.mpr ⟨X.env, List.mem_cons_self, by rw [hf, z]⟩)
    have nF : a ∉ X.fs := fun hm => by
      obtain ⟨e, he, q⟩ := List.mem_filterMap.mp hm
      exact nfr (List.mem_filterMap.mpr ⟨e, List.mem_cons_of_mem _ he, q⟩)
    have S3 := J3.suite he3 hd3 na nL nF
    have go : ∀ {hds' : List ExceptHandler} {l' : List HdT}, HdsN X hds' l' → wNamed X.K Wout D l' cls d σ' H' → wpAny (model X.prog X.w) X.A (handleBy (.ref a) X.env hds') (SP X pins D) X.xe { s' with heap := h3 } := by
      intro hds' l' hk
      induction hk with
      | nil =>
        intro w
        refine wpAny_handleBy_nil ?_
        obtain ⟨k1, k2, k3, oe, vs, T, oT, ts', he, hz, hd, h1, hr⟩ := id fl3
        unfold PySem.passOn
        refine wpAny_bind (wpAny_field he hd h1 ?_)
        rw [if_neg (show ¬ ((Value.ref T == Value.none) = true) from by simp)]
        have fin : wpAny (model X.prog X.w) X.A (setFlight (.ref a) X.env.frame) (fun _ s4 => wpAny (model X.prog X.w) X.A (throw (.ref a) : Sem Flow) (SP X pins D) X.xe s4) X.xe { s' with heap := h3 } := by
          rw [hf]
          refine HandSPX.setFlight_upZ fl3 fun h4 hh4 up4 => wpAny_throw (tk _ _ ?_)
          exact ⟨a, B, sI, pins, σ', H', cls, d, rfl, J, nb, (up.trans up3).trans up4, .inr (.inr (by rw [hs]; exact hh4)), na, os, ag, w⟩
        first
          | exact wpAny_bind (wpAny_pure (wpAny_bind fin))
          | exact wpAny_bind fin
      | @cons x n c i ts b₀ suite np pos' hds2 l2 hi hln hc hsu r ih =>
        intro w
        obtain ⟨b, hb1, hyes, hno⟩ := w
        refine wpAny_handleBy_cons (codeAny_handlers_test ?_) (by intro q; cases q)
        have LT : PySem.W.Looks (model X.prog X.w) h3 (typeOf (.ref a)) cls := fun A Q E s k q => wpAny_typeOf_ref (k _ _ he3) (by rw [hz3.1]; exact q)
        have LM := PySem.W.exm_one (M := model X.prog X.w) (J3.kIn) LT hb1
        have test : ∀ {Q : Value → Shared → Prop} {E : Value → Shared → Prop}, Q c { s' with heap := h3 } → wpAny (model X.prog X.w) (X.A.mark (some (.ref a))) (eval (.Name x np) X.env) Q E { s' with heap := h3 } := fun {Q E} q => by
          obtain ⟨hg, hdbg, hm | ⟨hm, hv, hnn⟩⟩ := hc
          · exact ld_glob (X := X.suite a ((a, oe3) :: (X.pn ++ pins))) S3 hg hm q hdbg
          · exact ld_blt (X := X.suite a ((a, oe3) :: (X.pn ++ pins))) S3 hg hm hv q hnn hdbg
        refine test (LM.here ?_)
        cases b with
        | true =>
          refine codeAny_handlers_suite_as ?_
          refine HandSPX.lands_againZ fl3 fun h4 fl4 up4 => ?_
          have J4 : Inv X pins σ' H' { s' with heap := h4 } := J.landed nb fl4.1 ((up.trans up3).trans up4) os ag
          obtain ⟨oe4, vs4, he4, hz4, hd4⟩ := fl4.there
          have S4 := J4.suite he4 hd4 na nL nF
          refine store_ok (X := X.suite a ((a, oe4) :: (X.pn ++ pins))) (v := .ref a) S4 hN hi (.inl hln) rfl (fun s5 S5 => ?_) (.inr hln)
          refine wpAny_mono ((hsu a oe4 cls d (X.pn ++ pins) hz4 ⟨_, hd4⟩).run [] s5 _ H' _ S5 (hyes rfl a na)) (fun f s6 hsp => ?_) (fun _ _ z => False.elim z)
          have end_ : ∀ {σ6 : St} {H6 : Hp} {Q : Shared → Prop}, Inv (X.suite a ((a, oe4) :: (X.pn ++ pins))) [] σ6 H6 s6 → (∀ s7, Inv X pins (σ6.set i none) H6 s7 → Q s7) →
              wpAny (model X.prog X.w) X.A (do bindName X.env n .none; unbindBehindTheSuite X.env n pos') (fun _ s7 => Q s7) X.xe s6 := fun {σ6 H6 Q} S6 hq => gone_ok (S6.unsuite ok) hN hi hln hq
          cases f with
          | next =>
            obtain ⟨σ6, H6, S6, q6⟩ := hsp
            exact end_ S6 fun s7 J7 => ⟨_, _, J7, q6⟩
          | brk =>
            obtain ⟨σ6, H6, S6, q6⟩ := hsp
            exact end_ S6 fun s7 J7 => ⟨_, _, J7, q6⟩
          | cont =>
            obtain ⟨σ6, H6, S6, q6⟩ := hsp
            exact end_ S6 fun s7 J7 => ⟨_, _, J7, q6⟩
          | ret u =>
            obtain ⟨v6, σ6, H6, S6, r6, q6⟩ := hsp
            exact end_ S6 fun s7 J7 => ⟨_, _, _, J7, r6, q6⟩
        | false =>
          show wpAny _ X.A (handleBy (.ref a) X.env hds2) _ _ _
          exact ih (hno rfl)
    exact go hh w
  refine wpAny_Try_except ?_
  refine wpAny_mono ((hb (wNamed X.K Wout D l) (X.pn ++ pins) catch_ tkB PassesOwn.looking).run [] s σ H D (I.toTry _) h) (fun f s1 hsp => ?_) (fun e s1 he => he)
  cases f with
  | next =>
    obtain ⟨σ', H', J', q⟩ := hsp
    exact wpAny_execs_nil ⟨σ', H', J'.ofTry ok, q⟩
  | brk =>
    obtain ⟨σ', H', J', q⟩ := hsp
    exact ⟨σ', H', J'.ofTry ok, q⟩
  | cont =>
    obtain ⟨σ', H', J', q⟩ := hsp
    exact ⟨σ', H', J'.ofTry ok, q⟩
  | ret u =>
    obtain ⟨v, σ', H', J', r, q⟩ := hsp
    exact ⟨v, σ', H', J'.ofTry ok, r, q⟩
end
end L2
/-! text LawR -/
namespace Fx
open PySem L2 Evl PyProof.Rows Mir MirL NdefX LamX
/-! ### _law_told -/
abbrev s_law_told : Stmt := topS 62
abbrev N_law_told : List Str := ["_law_book", "_law_index", "e"]
theorem sc_law_told : FnScope N_law_told ["_law_book", "_law_index"] (defScope s_law_told) := ⟨rfl, rfl, rfl, by decide +kernel, rfl, by decide +kernel, by decide +kernel⟩
def toldA : Option Nat → D
  | none => .non
  | some k => eI k
def toldD (ms : List Mc) : Option Nat → D
  | none => eIdle (idleP ms)
  | some k => if k + 1 < ms.length then eSwap (swapP ms k) else .str noPass
abbrev sp_law_told (c : Ct) : Sp := SpF c (fun i : Bk × Option Nat => [eBk c i.1.1 i.1.2.1 i.1.2.2, toldA i.2]) (fun i => BkOk i.1) fun i d => d = toldD i.1.2.1 i.2
def EW (W : WX) : XK := fun cls d H => ∀ σ : L2.St, σ.length = 3 → W cls d σ H
def tbTold (c : Ct) (W : WX) : TS :=
      (tSeq (tIfS (tTest (tOp rIsNn (tVar 1) (tC .non))) (tRet (tMeth c.A.Bk "idle_passes" (sp_Book_idle_passes c) [] (EW W) (tVar 0) tNil)) tNext)
      (tRet (tMeth c.A.Bk "can_swap" (sp_Book_can_swap c) [] (EW W) (tVar 0) (tCons (tVar 1) tNil))))
def lTold (c : Ct) : List HdT := [(.ref c.A.BE, 2, fun a cls d => tRet (tXf a cls d c.A.BE "reason" (tVar 2))), (.ref c.A.ME, 2, fun a cls d => tRet (tXf a cls d c.A.ME "reason" (tVar 2)))]
def t_law_told (c : Ct) : TS := fun D σ H => tbTold c (wNamed c.K (fun _ _ _ _ => False) D (lTold c)) D σ H
/-- what the clauses ask -/
structure XmOk (K : PySem.W.Frag) (mg : Str → Option Value) (ad : Ads) : Prop where
  f1 : XfC K ad.BE
  f2 : XfC K ad.ME
  r1 : PySem.W.findIn K (.ref ad.BE) "reason" = some none
  r2 : PySem.W.findIn K (.ref ad.ME) "reason" = some none
  n1 : mg "BookError" = some (.ref ad.BE)
  n2 : mg "MachineError" = some (.ref ad.ME)
  x1 : PySem.W.exmOne K (.ref ad.BE) (.ref ad.BE) = some true
  x2 : PySem.W.exmOne K (.ref ad.ME) (.ref ad.BE) = some false
  x3 : PySem.W.exmOne K (.ref ad.ME) (.ref ad.ME) = some true
section
variable {P : Program} {w : World} {K : PySem.W.Frag} {mg : Str → Option Value} {base : Heap} {tabs : List NdefX.NTab} {ad : Ads} {cdv : Value} {A : Around} {outer : List PySem.Env} {s : Shared} {H : Hp} {E : XK} {f : Addr}
theorem passW {X : Cx} {W : WX} (hN : X.N.length = 3) (tk : L2.Takes X W) : Passes (L2.CX X.prog X.w) X (EW W) := fun pins σ H s e s' I c => tk e s' (XE.of_call I (fun cls d H' h => h σ (I.len.trans hN)) c)
theorem p_law_told (hr : Room 10 (A.deeper (envOfC "_law_told" (defScope s_law_told) s.heap.objs.size f cdv))) (T : Top K mg) (C_can_swap : CalT P w K mg base (L2.CX P w) 9 ad.Bk "can_swap" (sp_Book_can_swap (ct P w K tabs ad))) (C_idle_passes : CalT P w K mg base (L2.CX P w) 10 ad.Bk "idle_passes" (sp_Book_idle_passes (ct P w K tabs ad))) (XM : XmOk K mg ad) :
    PSs (cxOf CX0 P w K mg base N_law_told "_law_told" (defScope s_law_told) f cdv A outer s H E).nox (defBody s_law_told) (t_law_told (ct P w K tabs ad)) :=
    have scN := sc_law_told
    pss_one (ps_try_named (l := lTold (ct P w K tabs ad)) (tb := tbTold (ct P w K tabs ad)) rfl rfl scN.nd (fun _ _ ⟨_, _, _, _, _, _, _, _, _, _, _, _, _, _, _, _, w⟩ => w.elim)
      (fun W pn xe tk _ => pss_cons (ps_if (pt_cmpR op_isNn (pv 1) pe_non (nomark _)) (pss_one (ps_ret (pe_mtc0 C_idle_passes hr (passW rfl tk) (pv 0)))) pss_nil)
        (pss_one (ps_ret (pe_mtc C_can_swap (hr.mono (by decide)) (passW rfl tk) (pv 0) (pa_cons (pv 1) pa_nil)))))
      (.cons rfl rfl ⟨rfl, by decide, .inl XM.n1⟩ (fun a oe cls d pn hz hd => pss_one (ps_ret (pe_xf XM.f1 XM.r1 hz hd (pv 2))))
        (.cons rfl rfl ⟨rfl, by decide, .inl XM.n2⟩ (fun a oe cls d pn hz hd => pss_one (ps_ret (pe_xf XM.f2 XM.r2 hz hd (pv 2)))) .nil)))
end
section
variable {c : Ct} {E : XK}
theorem as_tbTold (i : Bk × Option Nat) (h : BkOk i.1) : AS c (EW W) (tbTold c W) (entry N_law_told [eBk c i.1.1 i.1.2.1 i.1.2.2, toldA i.2])
    { nx := fun _ => False, rt := fun d => d = toldD i.1.2.1 i.2, ex := fun C s => toldD i.1.2.1 i.2 = .str s ∧ (C = c.A.BE ∨ C = c.A.ME) } := by
  obtain ⟨⟨al, ms, bs⟩, o⟩ := i
  have h : BkOk (al, ms, bs) := h
  show AS c (EW W) _ [some (.dat (eBk c al ms bs)), some (.dat (toldA o)), none] { nx := fun _ => False, rt := fun d => d = toldD ms o, ex := fun C s => toldD ms o = .str s ∧ (C = c.A.BE ∨ C = c.A.ME) }
  refine as_seq (as_ifT (et_test (ev_opE (ev_var rfl) ev_non rop_isN)) (fun e => ?_) fun e => as_next ?_)
  · cases o with
    | some k => cases e
    | none =>
      refine as_retX (evx_meth ((al, ms, bs) : Bk) (ev_var (i := 0) rfl) (bk_no (by decide)) ea_nil rfl h) (fun d hd => ?_) fun C s hx => ?_
      · obtain ⟨ks, hk, rfl⟩ := hd
        show eIs ks = eIdle (idleP ms)
        have hk : idleP ms = some ks := hk
        rw [hk]
        rfl
      · obtain ⟨h1, rfl, rfl⟩ := hx
        have h1 : idleP ms = none := h1
        refine ⟨?_, .inr rfl⟩
        show eIdle (idleP ms) = _
        rw [h1]
        rfl
  · cases o with
    | none => cases e
    | some k =>
      refine as_retX (evx_meth (((al, ms, bs), k) : Bk × Nat) (ev_var (i := 0) rfl) (bk_no (by decide)) (ea_cons (ev_var (i := 1) rfl) ea_nil) rfl h) (fun d hd => ?_) fun C s hx => ?_
      · obtain ⟨hk, b, hb, rfl⟩ := hd
        have hk : k + 1 < ms.length := hk
        have hb : swapP ms k = some b := hb
        show D.bl b = if k + 1 < ms.length then eSwap (swapP ms k) else .str noPass
        rw [if_pos hk, hb]
        rfl
      · show (if k + 1 < ms.length then eSwap (swapP ms k) else .str noPass) = _ ∧ _
        rcases hx with ⟨hk, rfl, rfl⟩ | ⟨hk, h1, rfl, rfl⟩
        · have hk : ¬ k + 1 < ms.length := hk
          rw [if_neg hk]
          exact ⟨rfl, .inl rfl⟩
        · have hk : k + 1 < ms.length := hk
          have h1 : swapP ms k = none := h1
          rw [if_pos hk, h1]
          exact ⟨rfl, .inr rfl⟩
theorem run_law_told {mg : Str → Option Value} (XM : XmOk c.K mg c.A) {vs : List V} {H : Hp} {Q : VK} (hB : c.B = none) (h : sp_law_told c vs H Q E) : t_law_told c { nx := fun _ H' => Q .non H', rt := Q } (L2.start N_law_told vs) H := by
  have eB : { c with B := none } = c := by
    cases c
    simp only at hB
    subst hB
    rfl
  obtain ⟨i, G, ok, r, p, q⟩ := h
  rw [eB] at ok q
  have key := as_tbTold (c := c) (W := wNamed c.K (fun _ _ _ _ => False) { nx := fun _ H' => Q .non H', rt := Q } (lTold c)) i p
  refine key _ _ _ _ _ (Rel.init ok r N_law_told) { nx := fun _ H' => Q .non H', rt := Q } (fun _ _ _ _ z => z.elim) (fun d v G' H' n st _ rp => q d v G' H' n st rp) fun C s d G' H' hx st ex σ' hl => ?_
  obtain ⟨hd, hC⟩ := hx
  have fin : ∀ (C : Addr) (a : Addr), tRet (tXf a (.ref C) (some d) C "reason" (tVar 2)) (asD { nx := fun _ H' => Q .non H', rt := Q } 2) (σ'.set 2 (some (.ref a))) H' := fun C a =>
    ⟨.ref a, List.getElem?_set_self (by omega), rfl, rfl, d, _, .str s, rfl, ex, rfl, q (.str s) (.str s) G' H' hd.symm st (.str s)⟩
  rcases hC with rfl | rfl
  · exact ⟨true, XM.x1, fun _ a _ => fin _ a, fun z => by cases z⟩
  · exact ⟨false, XM.x2, (fun z => nomatch z), fun _ => ⟨true, XM.x3, fun _ a _ => fin _ a, fun z => by cases z⟩⟩
end
section
variable {P : Program} {w : World} {K : PySem.W.Frag} {mg : Str → Option Value} {base : Heap} {tabs : List NdefX.NTab} {ad : Ads} {cdv : Value} {A : Around} {outer : List PySem.Env} {s : Shared} {H : Hp} {E : XK} {f : Addr}
theorem cal_law_told (T : Top K mg) {f : Addr} {fd : FuncData} (F : FnP K "_law_told" s_law_told f fd) (hm : mg "_law_told" = some (.ref f)) (C_can_swap : CalT P w K mg base (L2.CX P w) 9 ad.Bk "can_swap" (sp_Book_can_swap (ct P w K tabs ad))) (C_idle_passes : CalT P w K mg base (L2.CX P w) 10 ad.Bk "idle_passes" (sp_Book_idle_passes (ct P w K tabs ad))) (XM : XmOk K mg ad) :
    Cal P w K mg base CX0 11 "_law_told" ["_law_book", "_law_index"] (sp_law_told (ct P w K tabs ad)) :=
  cal_mk F hm sc_law_told (fun _ _ _ _ _ _ us hl => match us, hl with | [_, _], _ => rfl) (SpF.len fun _ => rfl) fun cdv A outer s H vs Q E hr h => ⟨_, p_law_told hr T C_can_swap C_idle_passes XM, run_law_told XM rfl h⟩
end
end Fx
/-! text CalD -/
namespace Fx
open PySem L2 Evl PyProof.Rows Mir NdefX LamX
section
variable {P : Program} {w : World} {K : PySem.W.Frag} {mg : Str → Option Value} {base : Heap} {tabs : List NdefX.NTab} {ad : Ads} {cdv : Value} {A : Around} {outer : List PySem.Env} {s : Shared} {H : Hp} {E : XK} {f : Addr}

theorem calT_mk {k : Nat} {C : Addr} {m q : Str} {st : Stmt} {f : Addr} {fd : FuncData} {N ps : List Str} {sp : Sp} (F : FnM K m q st f fd) (hm : Meth K C m f) (hc : Cls K C) (S : FnScope N ps (defScope st))
    (hb : ∀ (kV doc pm : Value) (an : Option Addr) (cdv ct : Value) (us : List Value), us.length = ps.length → bindArgs (PySem.W.fnOf m q (defArgs st) (defBody st) (defScope st) .none kV doc pm an cdv ct) ⟨us, []⟩ = pure (ps.zip us))
    (len : ∀ vs H Q E, sp vs H Q E → vs.length = ps.length)
    (hbody : ∀ (cdv : Value) (A : Around) (outer : List PySem.Env) (s : Shared) (H : Hp) (vs : List V) (Q : VK) (E : XK), Room k (A.deeper (envOfC q (defScope st) s.heap.objs.size f cdv)) → sp vs H Q E →
      ∃ t, PSs (cxOf CX0 P w K mg base N q (defScope st) f cdv A outer s H E).nox (defBody st) t ∧ t { nx := fun _ H' => Q .non H', rt := Q } (L2.start N vs) H) : CalT P w K mg base CX0 (k + 1) C m sp :=
  ⟨⟨f, fd, ps, hm, F.ok S len fun cdv A outer s H vs Q E hr h => let ⟨t, h1, h2⟩ := hbody cdv A outer s H vs Q E hr h; ⟨t, h1.nox, h2⟩, F.bindsN hb⟩, hc⟩
theorem calTX_mk {k : Nat} {C : Addr} {m q : Str} {st : Stmt} {f : Addr} {fd : FuncData} {N ps : List Str} {sp : Sp} (F : FnM K m q st f fd) (hm : Meth K C m f) (hc : Cls K C) (S : FnScope N ps (defScope st))
    (hb : ∀ (kV doc pm : Value) (an : Option Addr) (cdv ct : Value) (us : List Value), us.length = ps.length → bindArgs (PySem.W.fnOf m q (defArgs st) (defBody st) (defScope st) .none kV doc pm an cdv ct) ⟨us, []⟩ = pure (ps.zip us))
    (len : ∀ vs H Q E, sp vs H Q E → vs.length = ps.length)
    (hbody : ∀ (cdv : Value) (A : Around) (outer : List PySem.Env) (s : Shared) (H : Hp) (vs : List V) (Q : VK) (E : XK), Room k (A.deeper (envOfC q (defScope st) s.heap.objs.size f cdv)) → sp vs H Q E →
      ∃ t, PSs (cxOf (L2.CX P w) P w K mg base N q (defScope st) f cdv A outer s H E) (defBody st) t ∧ t { nx := fun _ H' => Q .non H', rt := Q } (L2.start N vs) H) : CalT P w K mg base (L2.CX P w) (k + 1) C m sp :=
  ⟨⟨f, fd, ps, hm, F.ok S len hbody, F.bindsN hb⟩, hc⟩
theorem spI_len {c : Ct} {C : Addr} {ι : Type} {args : ι → List D} {pre : ι → Prop} {ns : List Str} {fl : ι → List D} {n : Nat} (h : ∀ i, (args i).length = n) : ∀ vs H Q E, SpI c C args pre ns fl vs H Q E → vs.length = n + 1 := fun vs H Q E h' => by
  obtain ⟨i, G, p, dx, ws, rfl, _, _, _, r, _⟩ := h'
  rw [List.length_cons, ← r.len, h i]
theorem spW_len {c : Ct} {C : Addr} {ι : Type} {fl args : ι → List D} {pre : ι → Prop} {ns : List Str} {fl' : ι → List D} {n : Nat} (h : ∀ i, (args i).length = n) : ∀ vs H Q E, SpW c C ns fl args pre fl' vs H Q E → vs.length = n + 1 := fun vs H Q E h' => by
  obtain ⟨i, G, p, dx, fs, ws, rfl, _, _, _, _, _, r, _⟩ := h'
  rw [List.length_cons, ← r.len, h i]
theorem calM_Book (hK : BOk (ct P w K tabs ad)) (T : Top K mg) {f : Addr} {fd : FuncData} (M : Mk K ad.Bk f) (F : FnM K "__init__" "Book.__init__" s_Book___init__ f fd) (hm : mg "Book" = some (.ref ad.Bk)) :
    CalM P w K mg base 1 "Book" ad.Bk (sp_Book___init__ (ct P w K tabs ad)) :=
  ⟨f, fd, ["self", "alphabet"], M, F.ok sc_Book___init__ (spI_len (n := 1) fun _ => rfl) fun cdv A outer s H vs Q E hr h => ⟨_, (p_Book___init__ hr T).nox, init_Book (E' := E) hK rfl h⟩, hm, F.bindsN fun _ _ _ _ _ _ us hl => match us, hl with | [_, _], _ => rfl⟩
theorem calT_change (hK : BOk (ct P w K tabs ad)) (T : Top K mg) {f : Addr} {fd : FuncData} (F : FnM K "_change" "Book._change" s_Book__change f fd) (hm : Meth K ad.Bk "_change" f) :
    CalT P w K mg base CX0 1 ad.Bk "_change" (sp_Book__change (ct P w K tabs ad)) :=
  calT_mk F hm hK.cls sc_Book__change (fun _ _ _ _ _ _ us hl => match us, hl with | [_, _], _ => rfl) (spW_len (n := 1) fun _ => rfl) fun cdv A outer s H vs Q E hr h => ⟨_, p_Book__change hr T, run_change (E' := E) hK rfl h⟩
theorem calT_insert (hM : MOk (ct P w K tabs ad)) (hK : BOk (ct P w K tabs ad)) (T : Top K mg) {f : Addr} {fd : FuncData} (F : FnM K "insert" "Book.insert" s_Book_insert f fd) (hm : Meth K ad.Bk "insert" f) (C_copied : Cal P w K mg base CX0 5 "copied" ["machine"] (sp_copied (ct P w K tabs ad))) (C_Book__change : CalT P w K mg base CX0 1 ad.Bk "_change" (sp_Book__change (ct P w K tabs ad))) :
    CalT P w K mg base CX0 6 ad.Bk "insert" (sp_Book_insert (ct P w K tabs ad)) :=
  calT_mk F hm hK.cls sc_Book_insert (fun _ _ _ _ _ _ us hl => match us, hl with | [_, _, _], _ => rfl) (spW_len (n := 2) fun _ => rfl) fun cdv A outer s H vs Q E hr h => ⟨_, p_Book_insert hr T C_copied C_Book__change , run_insert (E' := E) hM hK rfl h⟩
theorem calT__require (hK : BOk (ct P w K tabs ad)) (T : Top K mg) {f : Addr} {fd : FuncData} (F : FnM K "_require" "Book._require" s_Book__require f fd) (hm : Meth K ad.Bk "_require" f) (R_BookError : CalR P w K mg base 1 "BookError" ad.BE) :
    CalT P w K mg base (L2.CX P w) 3 ad.Bk "_require" (sp_Book__require (ct P w K tabs ad)) :=
  calTX_mk F hm hK.cls sc_Book__require (fun _ _ _ _ _ _ us hl => match us, hl with | [_, _], _ => rfl) (SpX.len fun _ => rfl) fun cdv A outer s H vs Q E hr h => ⟨_, p_Book__require hr T   R_BookError, body_okX h fun i hi => (as_Book__require (c := ct P w K tabs ad) (E := E) hK i hi).imp (fun _ z => ⟨z, rfl⟩) (fun _ h => h) fun _ _ z => z⟩
theorem calT_whole (hK : BOk (ct P w K tabs ad)) (T : Top K mg) {f : Addr} {fd : FuncData} (F : FnM K "whole" "Book.whole" s_Book_whole f fd) (hm : Meth K ad.Bk "whole" f) (C_whole : Cal P w K mg base (L2.CX P w) 8 "_whole" ["alphabet", "machines"] (sp_whole (ct P w K tabs ad))) :
    CalT P w K mg base (L2.CX P w) 9 ad.Bk "whole" (sp_Book_whole (ct P w K tabs ad)) :=
  calTX_mk F hm hK.cls sc_Book_whole (fun _ _ _ _ _ _ us hl => match us, hl with | [_], _ => rfl) (SpX.len fun _ => rfl) fun cdv A outer s H vs Q E hr h => ⟨_, p_Book_whole hr T C_whole  , body_okX h fun i hi => (as_Book_whole (c := ct P w K tabs ad) (E := E) hK i hi).imp (fun _ z => z.elim) (fun _ h => h) fun _ _ z => z⟩
theorem calT_can_swap (hK : BOk (ct P w K tabs ad)) (T : Top K mg) {f : Addr} {fd : FuncData} (F : FnM K "can_swap" "Book.can_swap" s_Book_can_swap f fd) (hm : Meth K ad.Bk "can_swap" f) (C_commutes : Cal P w K mg base (L2.CX P w) 8 "commutes" ["one", "two"] (sp_commutes (ct P w K tabs ad))) (C_Book__require : CalT P w K mg base (L2.CX P w) 3 ad.Bk "_require" (sp_Book__require (ct P w K tabs ad))) :
    CalT P w K mg base (L2.CX P w) 9 ad.Bk "can_swap" (sp_Book_can_swap (ct P w K tabs ad)) :=
  calTX_mk F hm hK.cls sc_Book_can_swap (fun _ _ _ _ _ _ us hl => match us, hl with | [_, _], _ => rfl) (SpX.len fun _ => rfl) fun cdv A outer s H vs Q E hr h => ⟨_, p_Book_can_swap hr T C_commutes C_Book__require , body_okX h fun i hi => (as_Book_can_swap (c := ct P w K tabs ad) (E := E) hK i hi).imp (fun _ z => z.elim) (fun _ h => h) fun _ _ z => z⟩
theorem calT_idle_passes (hK : BOk (ct P w K tabs ad)) (T : Top K mg) {f : Addr} {fd : FuncData} (F : FnM K "idle_passes" "Book.idle_passes" s_Book_idle_passes f fd) (hm : Meth K ad.Bk "idle_passes" f) (C_form : Cal P w K mg base CX0 1 "form" ["machine"] (sp_form (ct P w K tabs ad))) (C_whole : Cal P w K mg base (L2.CX P w) 8 "_whole" ["alphabet", "machines"] (sp_whole (ct P w K tabs ad))) (C_Book_whole : CalT P w K mg base (L2.CX P w) 9 ad.Bk "whole" (sp_Book_whole (ct P w K tabs ad))) :
    CalT P w K mg base (L2.CX P w) 10 ad.Bk "idle_passes" (sp_Book_idle_passes (ct P w K tabs ad)) :=
  calTX_mk F hm hK.cls sc_Book_idle_passes (fun _ _ _ _ _ _ us hl => match us, hl with | [_], _ => rfl) (SpX.len fun _ => rfl) fun cdv A outer s H vs Q E hr h => ⟨_, p_Book_idle_passes hr T C_form C_whole C_Book_whole , body_okX h fun i hi => (as_Book_idle_passes (c := ct P w K tabs ad) (E := E) hK i hi).imp (fun _ z => z.elim) (fun _ h => h) fun _ _ z => z⟩
end
end Fx
/-! text PsF -/
namespace Fx
open PySem L2 Evl PyProof.Rows Mir NdefX LamX
section
variable {P : Program} {w : World} {K : PySem.W.Frag} {mg : Str → Option Value} {base : Heap} {tabs : List NdefX.NTab} {ad : Ads} {cdv : Value} {A : Around} {outer : List PySem.Env} {s : Shared} {H : Hp} {E : XK} {f : Addr}
/-! ### law -/
abbrev s_law : Stmt := topS 65
abbrev N_law : List Str := ["_law_script", "_law_box", "_law_alphabet_here", "_law_turn", "_law_book", "_law_rows", "_law_k", "_law_m", "_law_due", "_law_told_here"]
theorem sc_law : FnScope N_law ["_law_script"] (defScope s_law) := ⟨rfl, rfl, rfl, by decide +kernel, rfl, by decide +kernel, by decide +kernel⟩
def t_law (c : Ct) : TS :=
      (tSeq (tAsg (tLst (tCons (tCall (sp_law_row c) [] E0 (tCons (tVar 0) (tCons (tC (.int 0)) (tCons (tC (.int 50)) tNil)))) (tCons (tC (.int 0)) tNil))) (gName 1))
      (tSeq (tAsg (tCall (sp_law_alphabet c) [] E0 (tCons (tVar 1) (tCons (tC (.int 2)) tNil))) (gName 2))
      (tSeq (tFor (iRng1 (tCons (tC (.int 2)) tNil)) (gName 3)
      (tSeq (tAsg (tMake c.A.Bk (sp_Book___init__ c) [] E0 (tCons (tVar 2) tNil)) (gName 4))
      (tSeq (tAsg (tLst tNil) (gName 5))
      (tSeq (tFor (iRng1 (tCons (tOp (rI0 fun i j => .int (i + j)) (tC (.int 2)) (tCall (sp_law_draw c) [] E0 (tCons (tVar 1) (tCons (tC (.int 3)) tNil)))) tNil)) (gName 6)
      (tSeq (tAsg (tCall (sp_law_fit c) [] E0 (tCons (tVar 1) (tCons (tVar 2) (tCons (tC (.int 2)) tNil)))) (gName 7))
      (tSeq (tIfS (tTest (tOp rEq (tCall (sp_law_draw c) [] E0 (tCons (tVar 1) (tCons (tC (.int 4)) tNil))) (tC (.int 0)))) (tAsg (tCall (sp_law_whole c) [] E0 (tCons (tVar 2) (tCons (tLst tNil) tNil))) (gName 7)) tNext)
      (tSeq (tIfS (tAnd (tTest (tOp rEq (tCall (sp_law_draw c) [] E0 (tCons (tVar 1) (tCons (tC (.int 4)) tNil))) (tC (.int 0)))) (tTest (tOp (rI0 fun i j => .bl (decide (j < i))) (tCB (rLenF c.K) (tCons (tVar 5) tNil)) (tC (.int 0))))) (tAsg (tOp (rIxL c.K) (tVar 5) (tC (.int 0))) (gName 7)) tNext)
      (tSeq (tDrop (tBM c.K "list" rAppend (tVar 5) (tCons (tVar 7) tNil)))
      (tDrop (tMeth c.A.Bk "insert" (sp_Book_insert c) [] E0 (tVar 4) (tCons (tVar 6) (tCons (tCall (sp_law_made c) [] E0 (tCons (tVar 7) tNil)) tNil)))))))))
      (tSeq (tFor (iRng1 (tCons (tOp (rI0 fun i j => .int (i + j)) (tCB (rLenF c.K) (tCons (tVar 5) tNil)) (tC (.int 1))) tNil)) (gName 6)
      (tSeq (tAsg (tCall (sp_law_due_swap c) [] E0 (tCons (tVar 5) (tCons (tVar 6) tNil))) (gName 8))
      (tSeq (tAsg (tCall (sp_law_told c) [] E0 (tCons (tVar 4) (tCons (tVar 6) tNil))) (gName 9))
      (tIfS (tOr (tTest (tOp (rNeD c.K) (tVar 9) (tVar 8))) (tTest (tOp rNe (tCB (rIsi c.K) (tCons (tVar 8) (tCons (tC (.ty "bool")) tNil))) (tCB (rIsi c.K) (tCons (tVar 9) (tCons (tC (.ty "bool")) tNil)))))) (tRet (tC (.bl false))) tNext))))
      (tIfS (tTest (tOp (rNeD c.K) (tCall (sp_law_told c) [] E0 (tCons (tVar 4) (tCons (tC .non) tNil))) (tCall (sp_law_due_idle c) [] E0 (tCons (tVar 2) (tCons (tVar 5) tNil))))) (tRet (tC (.bl false))) tNext))))))
      (tRet (tC (.bl true))))))
theorem p_law (hr : Room 11 (A.deeper (envOfC "law" (defScope s_law) s.heap.objs.size f cdv))) (T : Top K mg) (C_law_row : Cal P w K mg base CX0 2 "_law_row" ["_law_script", "_law_first", "_law_last"] (sp_law_row (ct P w K tabs ad))) (C_law_alphabet : Cal P w K mg base CX0 2 "_law_alphabet" ["_law_box", "_law_many"] (sp_law_alphabet (ct P w K tabs ad))) (C_law_draw : Cal P w K mg base CX0 1 "_law_draw" ["_law_box", "_law_many"] (sp_law_draw (ct P w K tabs ad))) (C_law_fit : Cal P w K mg base CX0 4 "_law_fit" ["_law_box", "_law_alphabet_here", "_law_most"] (sp_law_fit (ct P w K tabs ad))) (C_law_whole : Cal P w K mg base CX0 6 "_law_whole" ["_law_alphabet_here", "_law_rows"] (sp_law_whole (ct P w K tabs ad))) (C_law_made : Cal P w K mg base CX0 5 "_law_made" ["_law_m"] (sp_law_made (ct P w K tabs ad))) (C_law_due_swap : Cal P w K mg base CX0 6 "_law_due_swap" ["_law_rows", "_law_index"] (sp_law_due_swap (ct P w K tabs ad))) (C_law_told : Cal P w K mg base CX0 11 "_law_told" ["_law_book", "_law_index"] (sp_law_told (ct P w K tabs ad))) (C_law_due_idle : Cal P w K mg base CX0 7 "_law_due_idle" ["_law_alphabet_here", "_law_rows"] (sp_law_due_idle (ct P w K tabs ad))) (C_Book : CalM P w K mg base 1 "Book" ad.Bk (sp_Book___init__ (ct P w K tabs ad))) (C_Book_insert : CalT P w K mg base CX0 6 ad.Bk "insert" (sp_Book_insert (ct P w K tabs ad))) :
    PSs (cxOf CX0 P w K mg base N_law "law" (defScope s_law) f cdv A outer s H E).nox (defBody s_law) (t_law (ct P w K tabs ad)) :=
    have scN := sc_law
    (pss_cons (ps_set (i := 1) scN.nd rfl (Or.inl rfl) (pe_lst (pa_cons (pe_cal C_law_row (hr.mono (by decide)) rfl pass0 (pa_cons (pv 0) (pa_cons pe_int (pa_cons pe_int pa_nil)))) (pa_cons pe_int pa_nil))))
      (pss_cons (ps_set (i := 2) scN.nd rfl (Or.inl rfl) (pe_cal C_law_alphabet (hr.mono (by decide)) rfl pass0 (pa_cons (pv 1) (pa_cons pe_int pa_nil))))
      (pss_cons (ps_for PassesOwn.never rfl (pi_range1 rfl T.n_range (pa_cons pe_int pa_nil)) (pg_name (i := 3) scN.nd rfl (Or.inl rfl))
      (pss_cons (ps_set (i := 4) scN.nd rfl (Or.inl rfl) (pe_mkm C_Book (hr.mono (by decide)) rfl pass0 (pa_cons (pv 2) pa_nil)))
      (pss_cons (ps_set (i := 5) scN.nd rfl (Or.inl rfl) (pe_lst pa_nil))
      (pss_cons (ps_for PassesOwn.never rfl (pi_range1 rfl T.n_range (pa_cons (pe_op op_add pe_int (pe_cal C_law_draw (hr.mono (by decide)) rfl pass0 (pa_cons (pv 1) (pa_cons pe_int pa_nil)))) pa_nil)) (pg_name (i := 6) scN.nd rfl (Or.inl rfl))
      (pss_cons (ps_set (i := 7) scN.nd rfl (Or.inl rfl) (pe_cal C_law_fit (hr.mono (by decide)) rfl pass0 (pa_cons (pv 1) (pa_cons (pv 2) (pa_cons pe_int pa_nil)))))
      (pss_cons (ps_if (pt_cmpR op_eq (pe_cal C_law_draw (hr.mono (by decide)) rfl pass0 (pa_cons (pv 1) (pa_cons pe_int pa_nil))) pe_int (nomark _)) (pss_one (ps_set (i := 7) scN.nd rfl (Or.inl rfl) (pe_cal C_law_whole (hr.mono (by decide)) rfl pass0 (pa_cons (pv 2) (pa_cons (pe_lst pa_nil) pa_nil))))) pss_nil)
      (pss_cons (ps_if (PW.pt (pw_and (pt_cmpR op_eq (pe_cal C_law_draw (hr.mono (by decide)) rfl pass0 (pa_cons (pv 1) (pa_cons pe_int pa_nil))) pe_int (nomark _)) (pw_and1 (pt_cmpR op_gt (pe_callB call_lenF rfl T.n_len boot_len (pa_cons (pv 5) pa_nil)) pe_int (nomark _))))) (pss_one (ps_set (i := 7) scN.nd rfl (Or.inl rfl) (pe_ix ix_list (pv 5) pe_int (fun _ _ => rfl)))) pss_nil)
      (pss_cons (ps_expr (pe_bm PySem.F.plainAttrs_list PySem.F.slot_list_append PySem.F.type_list_append mt_append (pv 5) (pa_cons (pv 7) pa_nil)))
      (pss_one (ps_expr (pe_mtc C_Book_insert (hr.mono (by decide)) pass0 (pv 4) (pa_cons (pv 6) (pa_cons (pe_cal C_law_made (hr.mono (by decide)) rfl pass0 (pa_cons (pv 7) pa_nil)) pa_nil))))))))))
      (pss_cons (ps_for PassesOwn.never rfl (pi_range1 rfl T.n_range (pa_cons (pe_op op_add (pe_callB call_lenF rfl T.n_len boot_len (pa_cons (pv 5) pa_nil)) pe_int) pa_nil)) (pg_name (i := 6) scN.nd rfl (Or.inl rfl))
      (pss_cons (ps_set (i := 8) scN.nd rfl (Or.inl rfl) (pe_cal C_law_due_swap (hr.mono (by decide)) rfl pass0 (pa_cons (pv 5) (pa_cons (pv 6) pa_nil))))
      (pss_cons (ps_set (i := 9) scN.nd rfl (Or.inl rfl) (pe_cal C_law_told (hr.mono (by decide)) rfl pass0 (pa_cons (pv 4) (pa_cons (pv 6) pa_nil))))
      (pss_one (ps_if (PW.pt (pw_or (pt_cmpR (op_neD hr.units) (pv 9) (pv 8) (nomark _)) (pw_or1 (pt_cmpR op_ne (pe_callB call_isi rfl T.n_isinstance boot_isinstance (pa_cons (pv 8) (pa_cons (pe_bltn rfl T.n_bool boot_bool rfl) pa_nil))) (pe_callB call_isi rfl T.n_isinstance boot_isinstance (pa_cons (pv 9) (pa_cons (pe_bltn rfl T.n_bool boot_bool rfl) pa_nil))) (nomark _))))) (pss_one (ps_ret pe_bl)) pss_nil)))))
      (pss_one (ps_if (pt_cmpR (op_neD hr.units) (pe_cal C_law_told (hr.mono (by decide)) rfl pass0 (pa_cons (pv 4) (pa_cons pe_non pa_nil))) (pe_cal C_law_due_idle (hr.mono (by decide)) rfl pass0 (pa_cons (pv 2) (pa_cons (pv 5) pa_nil))) (nomark _)) (pss_one (ps_ret pe_bl)) pss_nil)))))))
      (pss_one (ps_ret pe_bl)))))
end
end Fx
/-! text LawS -/
namespace Fx
open PySem L2 Evl PyProof.Rows Mir MirL NdefX LamX
/-! ### what law does once the box is there -/
/-- what is told and what is due: a bool or a reason -/
def isB : D → Bool
  | .bl _ => true
  | _ => false
def Ans (d : D) : Prop := (∃ b, d = .bl b) ∨ d = .str tooMany ∨ d = .str noPass
theorem swap_ans (ms : List Mc) (k : Nat) : Ans (toldD ms (some k)) := by
  show Ans (if k + 1 < ms.length then eSwap (swapP ms k) else .str noPass)
  split
  · cases swapP ms k with
    | none => exact .inr (.inl rfl)
    | some b => exact .inl ⟨b, rfl⟩
  · exact .inr (.inr rfl)
theorem pl_reason : Pl 1 (.str tooMany) ∧ Pl 1 (.str noPass) := by
  constructor
  · show PyData.strOk tooMany = true
    decide +kernel
  · show PyData.strOk noPass = true
    decide +kernel
section
variable {c : Ct} {E : XK} {b : Addr} {ρ : Env} {te ta tb tk : TE} {al : Al}
theorem rop_neAns {d : D} (h : Ans d) : ROpE c (rNeD c.K) d d (.bl false) := by
  rcases h with ⟨b, rfl⟩ | rfl | rfl
  · intro G H ok v u rx ry Q q
    cases rx
    cases ry
    refine ⟨.bool b, .bool b, .bl b, .bl b, ?_, ?_, ?_⟩
    · cases b <;> rfl
    · cases b <;> rfl
    · have e : (!PyData.eqv (.bool b) (.bool b)) = false := by cases b <;> rfl
      rw [e]
      exact q _ _ G H rfl (.refl ok) (.bl false)
  · exact rop_neD (b := true) pl_reason.1 pl_reason.1 (by simp)
  · exact rop_neD (b := true) pl_reason.2 pl_reason.2 (by simp)
theorem ev_isB {d : D} {i : Nat} (h : Ans d) (hi : ρ[i]? = some (some (.dat d))) : EvE c (tCB (rIsi c.K) (tCons (tVar i) (tCons (tC (.ty "bool")) tNil))) ρ (.bl (isB d)) := by
  rcases h with ⟨b, rfl⟩ | rfl | rfl
  · exact ev_cbE (ea_cons (ev_var hi) (ea_cons ev_raw ea_nil)) (rcl_isi (t := "bool") rfl (by rfl))
  · exact ev_cbE (ea_cons (ev_var hi) (ea_cons ev_raw ea_nil)) (rcl_isi (t := "str") rfl (by rfl))
  · exact ev_cbE (ea_cons (ev_var hi) (ea_cons ev_raw ea_nil)) (rcl_isi (t := "str") rfl (by rfl))
theorem idle_eq (o : Option (List Nat)) : ROpE c (rNeD c.K) (eIdle o) (eIdle o) (.bl false) := by
  cases o with
  | none => exact rop_neD (b := true) pl_reason.1 pl_reason.1 (by simp)
  | some ks => exact rop_neD (n := 1) (m := 1) (b := true) (pl_ints ks) (pl_ints ks) (by simp)
abbrev sp_law (c : Ct) : Sp := fun vs H Q _ => ∃ (a : Addr) (ns : List Int) (G : Hp), vs = [.ref a] ∧ Ok { c with B := none } G H ∧ SqL c.K G a (ns.map V.int) ∧ ∀ H', Q (.bl true) H'
/-- the body behind the box -/
def t_lawR (c : Ct) : TS :=
      (tSeq (tAsg (tCall (sp_law_alphabet c) [] E0 (tCons (tVar 1) (tCons (tC (.int 2)) tNil))) (gName 2))
      (tSeq (tFor (iRng1 (tCons (tC (.int 2)) tNil)) (gName 3)
      (tSeq (tAsg (tMake c.A.Bk (sp_Book___init__ c) [] E0 (tCons (tVar 2) tNil)) (gName 4))
      (tSeq (tAsg (tLst tNil) (gName 5))
      (tSeq (tFor (iRng1 (tCons (tOp (rI0 fun i j => .int (i + j)) (tC (.int 2)) (tCall (sp_law_draw c) [] E0 (tCons (tVar 1) (tCons (tC (.int 3)) tNil)))) tNil)) (gName 6)
      (tSeq (tAsg (tCall (sp_law_fit c) [] E0 (tCons (tVar 1) (tCons (tVar 2) (tCons (tC (.int 2)) tNil)))) (gName 7))
      (tSeq (tIfS (tTest (tOp rEq (tCall (sp_law_draw c) [] E0 (tCons (tVar 1) (tCons (tC (.int 4)) tNil))) (tC (.int 0)))) (tAsg (tCall (sp_law_whole c) [] E0 (tCons (tVar 2) (tCons (tLst tNil) tNil))) (gName 7)) tNext)
      (tSeq (tIfS (tAnd (tTest (tOp rEq (tCall (sp_law_draw c) [] E0 (tCons (tVar 1) (tCons (tC (.int 4)) tNil))) (tC (.int 0)))) (tTest (tOp (rI0 fun i j => .bl (decide (j < i))) (tCB (rLenF c.K) (tCons (tVar 5) tNil)) (tC (.int 0))))) (tAsg (tOp (rIxL c.K) (tVar 5) (tC (.int 0))) (gName 7)) tNext)
      (tSeq (tDrop (tBM c.K "list" rAppend (tVar 5) (tCons (tVar 7) tNil)))
      (tDrop (tMeth c.A.Bk "insert" (sp_Book_insert c) [] E0 (tVar 4) (tCons (tVar 6) (tCons (tCall (sp_law_made c) [] E0 (tCons (tVar 7) tNil)) tNil)))))))))
      (tSeq (tFor (iRng1 (tCons (tOp (rI0 fun i j => .int (i + j)) (tCB (rLenF c.K) (tCons (tVar 5) tNil)) (tC (.int 1))) tNil)) (gName 6)
      (tSeq (tAsg (tCall (sp_law_due_swap c) [] E0 (tCons (tVar 5) (tCons (tVar 6) tNil))) (gName 8))
      (tSeq (tAsg (tCall (sp_law_told c) [] E0 (tCons (tVar 4) (tCons (tVar 6) tNil))) (gName 9))
      (tIfS (tOr (tTest (tOp (rNeD c.K) (tVar 9) (tVar 8))) (tTest (tOp rNe (tCB (rIsi c.K) (tCons (tVar 8) (tCons (tC (.ty "bool")) tNil))) (tCB (rIsi c.K) (tCons (tVar 9) (tCons (tC (.ty "bool")) tNil)))))) (tRet (tC (.bl false))) tNext))))
      (tIfS (tTest (tOp (rNeD c.K) (tCall (sp_law_told c) [] E0 (tCons (tVar 4) (tCons (tC .non) tNil))) (tCall (sp_law_due_idle c) [] E0 (tCons (tVar 2) (tCons (tVar 5) tNil))))) (tRet (tC (.bl false))) tNext))))))
      (tRet (tC (.bl true)))))
theorem ev_draw0 {n : Nat} (hb : c.B = some b) (h1 : ρ[1]? = some (some (.dat (.raw (.ref b))))) (hn : 0 < n) : EvB c (tTest (tOp rEq (tCall (sp_law_draw c) [] E0 (tCons (tVar 1) (tCons (tC (.int n)) tNil))) (tC (.int 0)))) ρ (fun _ => True) :=
  eb_test (ev_op (ka := fun d => ∃ k, k < n ∧ d = eI k) (kb := fun _ d => d = .int 0) (ev_callB (b := b) n hb (ea_cons (ev_var h1) (ea_cons ev_int ea_nil)) hn) (fun _ _ => ev_int) fun x y ⟨k, hk, e1⟩ e2 => by
    subst e1 e2
    intro G H ok v u rx ry Q q
    exact rop_eqI G H ok v u rx ry Q fun d w G' H' e s r => q d w G' H' ⟨_, e, trivial⟩ s r)
abbrev fmL (b : Addr) (ns : List Int) (al : Al) (t : Nat) (rest : Env) : Env := some (.dat (.scr ns)) :: some (.dat (.raw (.ref b))) :: some (.dat (.str (alS al))) :: some (.dat (eI t)) :: rest
/-- one machine is drawn and put in -/
theorem as_law_in (hb : c.B = some b) {ns : List Int} (hal : al ∈ Als) {t : Nat} {ms : List Mc} {bs : List D} (hm : ∀ m ∈ ms, McOk 40 m) (hl : ms.length < 5) (hbs : bs.length = ms.length) {A : AEnds}
    (hn : ∀ m bs', McOk 40 m → bs'.length = ms.length + 1 → A.nx (fmL b ns al t [some (.ro c.A.Bk bNames (bFlds c al (ms ++ [m]) bs')), some (.ml ((ms ++ [m]).map (eLM al))), none, none, none, none])) :
    AS c E (tSeq (tAsg (tCall (sp_law_fit c) [] E0 (tCons (tVar 1) (tCons (tVar 2) (tCons (tC (.int 2)) tNil)))) (gName 7))
      (tSeq (tIfS (tTest (tOp rEq (tCall (sp_law_draw c) [] E0 (tCons (tVar 1) (tCons (tC (.int 4)) tNil))) (tC (.int 0)))) (tAsg (tCall (sp_law_whole c) [] E0 (tCons (tVar 2) (tCons (tLst tNil) tNil))) (gName 7)) tNext)
      (tSeq (tIfS (tAnd (tTest (tOp rEq (tCall (sp_law_draw c) [] E0 (tCons (tVar 1) (tCons (tC (.int 4)) tNil))) (tC (.int 0)))) (tTest (tOp (rI0 fun i j => .bl (decide (j < i))) (tCB (rLenF c.K) (tCons (tVar 5) tNil)) (tC (.int 0))))) (tAsg (tOp (rIxL c.K) (tVar 5) (tC (.int 0))) (gName 7)) tNext)
      (tSeq (tDrop (tBM c.K "list" rAppend (tVar 5) (tCons (tVar 7) tNil)))
      (tDrop (tMeth c.A.Bk "insert" (sp_Book_insert c) [] E0 (tVar 4) (tCons (tVar 6) (tCons (tCall (sp_law_made c) [] E0 (tCons (tVar 7) tNil)) tNil))))))))
      (fmL b ns al t [some (.ro c.A.Bk bNames (bFlds c al ms bs)), some (.ml (ms.map (eLM al))), some (.dat (eI ms.length)), none, none, none]) { A with nx := fun ρ => ∃ ρ', Wk ρ ρ' ∧ A.nx ρ' } := by
  refine as_seq (as_set (ev_callB (b := b) al hb (ea_cons (ev_var rfl) (ea_cons (ev_var rfl) (ea_cons ev_int ea_nil))) hal) fun d hd => ?_)
  obtain ⟨m, om, rfl⟩ := hd
  have om := om.up (show 2 ≤ 40 by decide)
  show AS c E _ (fmL b ns al t [some (.ro c.A.Bk bNames (bFlds c al ms bs)), some (.ml (ms.map (eLM al))), some (.dat (eI ms.length)), some (.dat (eLM al m)), none, none]) _
  have f3 : ∀ m, McOk 40 m → AS c E (tSeq (tDrop (tBM c.K "list" rAppend (tVar 5) (tCons (tVar 7) tNil)))
      (tDrop (tMeth c.A.Bk "insert" (sp_Book_insert c) [] E0 (tVar 4) (tCons (tVar 6) (tCons (tCall (sp_law_made c) [] E0 (tCons (tVar 7) tNil)) tNil)))))
      (fmL b ns al t [some (.ro c.A.Bk bNames (bFlds c al ms bs)), some (.ml (ms.map (eLM al))), some (.dat (eI ms.length)), some (.dat (eLM al m)), none, none]) { A with nx := fun ρ => ∃ ρ', Wk ρ ρ' ∧ A.nx ρ' } := fun m om => by
    refine as_seq (as_appE rfl (ev_var rfl) (by rw [List.length_map]; omega) ?_)
    refine as_methW (j := (((al, ms, bs), m) : Bk × Mc)) rfl (bk_no (by decide)) (ea_cons (ev_var rfl) (ea_cons (ev_callE (al, m) (ea_cons (ev_var rfl) ea_nil) ⟨hal, om⟩) ea_nil)) ⟨⟨hal, by show ms.length ≤ 6; omega, hm⟩, by show ms.length < 6; omega, by show bs.length ≤ 1000; omega, om⟩ ?_
    have := hn m (bs ++ [.lst (ms.map (eM c.A.M al))]) om (by rw [List.length_append, hbs]; rfl)
    unfold fmL at this
    rw [List.map_append (f := eLM al)] at this
    exact ⟨_, .keep (.keep (.keep (.keep (.keep (.keep (.drop (.drop (.keep (.keep .nil))))))))), this⟩
  have f2 : ∀ m, McOk 40 m → AS c E (tSeq (tIfS (tAnd (tTest (tOp rEq (tCall (sp_law_draw c) [] E0 (tCons (tVar 1) (tCons (tC (.int 4)) tNil))) (tC (.int 0)))) (tTest (tOp (rI0 fun i j => .bl (decide (j < i))) (tCB (rLenF c.K) (tCons (tVar 5) tNil)) (tC (.int 0))))) (tAsg (tOp (rIxL c.K) (tVar 5) (tC (.int 0))) (gName 7)) tNext)
      (tSeq (tDrop (tBM c.K "list" rAppend (tVar 5) (tCons (tVar 7) tNil)))
      (tDrop (tMeth c.A.Bk "insert" (sp_Book_insert c) [] E0 (tVar 4) (tCons (tVar 6) (tCons (tCall (sp_law_made c) [] E0 (tCons (tVar 7) tNil)) tNil))))))
      (fmL b ns al t [some (.ro c.A.Bk bNames (bFlds c al ms bs)), some (.ml (ms.map (eLM al))), some (.dat (eI ms.length)), some (.dat (eLM al m)), none, none]) { A with nx := fun ρ => ∃ ρ', Wk ρ ρ' ∧ A.nx ρ' } := fun m om => by
    refine as_seq (as_if (kb := fun x => x = true → 0 < ms.length) (eb_and (k1 := fun _ => True) (k2 := fun x => x = decide ((0 : Int) < ((ms.map (eLM al)).length : Nat))) (ev_draw0 (n := 4) hb rfl (by decide)) (fun _ => et_test (ev_opE (ev_lenM rfl) ev_int rop_B0)) (fun _ z => by cases z) fun x _ h2 h3 => ?_) (fun h0 => ?_) fun _ => as_next (f3 m om))
    · rw [h3, List.length_map] at h2
      have := of_decide_eq_true h2.symm
      omega
    · have h0 := h0 rfl
      obtain ⟨m0, mr, rfl⟩ := List.exists_cons_of_length_pos h0
      exact as_setE (d := eLM al m0) (ev_ixM (i := 5) rfl ev_int (at_nat (j := 0) rfl)) (f3 m0 (hm m0 List.mem_cons_self))
  refine as_seq (as_if (ev_draw0 (n := 4) hb rfl (by decide)) (fun _ => ?_) fun _ => as_next (f2 m om))
  exact as_setE (d := eLM al idM) (ev_callE (al, []) (ea_cons (ev_var rfl) (ea_cons (ev_lst ea_nil) ea_nil)) ⟨hal, by show 0 ≤ 6; decide, by simp⟩) (f2 idM id_ok)
theorem as_lawR (hb : c.B = some b) (ns : List Int) : AS c E (t_lawR c) [some (.dat (.scr ns)), some (.dat (.raw (.ref b))), none, none, none, none, none, none, none, none] { nx := fun _ => False, rt := fun d => d = .bl true } := by
  refine as_seq (as_set (ev_callB (b := b) () hb (ea_cons (ev_var rfl) (ea_cons ev_int ea_nil)) trivial) fun d hd => ?_)
  obtain ⟨al, hal, rfl⟩ := hd
  show AS c E _ [some (.dat (.scr ns)), some (.dat (.raw (.ref b))), some (.dat (.str (alS al))), none, none, none, none, none, none, none] _
  refine as_seq (as_for (ei_rng1 (n := 2) (ea_cons ev_int ea_nil)) (fun i ρ => ρ = [some (.dat (.scr ns)), some (.dat (.raw (.ref b))), some (.dat (.str (alS al))), none, none, none, none, none, none, none]) rfl ?_ fun ρ _ => as_retE ev_bl rfl)
  rintro t x ρ hx rfl
  obtain ⟨ht, rfl⟩ := upTo0_get hx
  refine ⟨_, _, eg_name, ?_⟩
  show AS c E _ (fmL b ns al t [none, none, none, none, none, none]) _
  refine as_seq (as_make al (ea_cons (ev_var rfl) ea_nil) hal ?_)
  refine as_seq (as_new ea_nil (by simp) ?_)
  show AS c E _ (fmL b ns al t [some (.ro c.A.Bk bNames (bFlds c al [] [])), some (.ml []), none, none, none, none]) _
  refine as_seq (as_forK (kx := fun xs => ∃ n : Int, (0 ≤ n ∧ n ≤ 4) ∧ xs = upTo 0 n.toNat) (ei_rng1K (kn := fun n => 0 ≤ n ∧ n ≤ 4) (ea_consK (ka := fun d => ∃ n : Int, d = .int n ∧ 0 ≤ n ∧ n ≤ 4) (kr := fun _ xs => xs = []) (ev_op (ka := fun d => d = .int 2) (kb := fun _ d => ∃ k, k < 3 ∧ d = eI k) ev_int (fun _ _ => ev_callB (b := b) 3 hb (ea_cons (ev_var rfl) (ea_cons ev_int ea_nil)) (by decide)) fun x y e1 ⟨k, hk, e2⟩ => ?_) (fun _ _ => ea_nil) fun x xs ⟨n, e, h⟩ e2 => ⟨n, by rw [e, e2], h⟩) fun n h => by omega) fun xs hxs => ?_)
  · subst e1 e2
    intro G H ok v u rx ry Q q
    exact rop_I0 G H ok v u rx ry Q fun d w G' H' e s r => q d w G' H' ⟨_, e, by omega, by omega⟩ s r
  obtain ⟨n, ⟨n0, n4⟩, rfl⟩ := hxs
  refine ⟨fun k ρ => ∃ (ms : List Mc) (bs : List D), ms.length = k ∧ (∀ m ∈ ms, McOk 40 m) ∧ bs.length = ms.length ∧ ρ = fmL b ns al t [some (.ro c.A.Bk bNames (bFlds c al ms bs)), some (.ml (ms.map (eLM al))), none, none, none, none], ⟨[], [], rfl, by simp, rfl, rfl⟩, ?_, ?_⟩
  · rintro k x ρ hx ⟨ms, bs, rfl, hm, hbs, rfl⟩
    obtain ⟨hk, rfl⟩ := upTo0_get hx
    refine ⟨_, _, eg_name, ?_⟩
    refine as_law_in hb hal hm (by omega) hbs (A := { nx := fun ρ => ∃ (ms' : List Mc) (bs : List D), ms'.length = ms.length + 1 ∧ (∀ m ∈ ms', McOk 40 m) ∧ bs.length = ms'.length ∧ ρ = fmL b ns al t [some (.ro c.A.Bk bNames (bFlds c al ms' bs)), some (.ml (ms'.map (eLM al))), none, none, none, none], rt := fun d => d = .bl true }) fun m bs' om hb' => ⟨ms ++ [m], bs', by rw [List.length_append]; rfl, fun z hz => ?_, by rw [List.length_append]; exact hb', rfl⟩
    rcases List.mem_append.mp hz with h | h
    · exact hm z h
    · rw [List.mem_singleton.mp h]; exact om
  · rintro ρ ⟨ms, bs, hl, hm, hbs, rfl⟩
    rw [upTo_length] at hl
    have hl4 : ms.length ≤ 4 := by omega
    refine as_frzO (i := 4) rfl (as_frz (i := 5) rfl ?_)
    show AS c E _ (fmL b ns al t [some (.dat (eBk c al ms bs)), some (.dat (.lst (ms.map (eLM al)))), none, none, none, none]) _
    have bok : BkOk (al, ms, bs) := ⟨hal, by show ms.length ≤ 6; omega, hm⟩
    refine as_seq (as_for (ei_rng1 (n := (ms.length : Int) + 1) (ea_cons (ev_opE (ev_lenEq (ev_var rfl) (by rw [List.length_map])) ev_int rop_I0) ea_nil)) (fun i ρ => ρ = fmL b ns al t [some (.dat (eBk c al ms bs)), some (.dat (.lst (ms.map (eLM al)))), none, none, none, none]) rfl ?_ ?_)
    · rintro k x ρ hx rfl
      obtain ⟨hk, rfl⟩ := upTo0_get hx
      refine ⟨_, _, eg_name, ?_⟩
      show AS c E _ (fmL b ns al t [some (.dat (eBk c al ms bs)), some (.dat (.lst (ms.map (eLM al)))), some (.dat (eI k)), none, none, none]) _
      have ed : (if k + 1 < ms.length then eSwap (swapL ms k) else .str noPass) = toldD ms (some k) := by
        show _ = if k + 1 < ms.length then eSwap (swapP ms k) else .str noPass
        by_cases h : k + 1 < ms.length
        · rw [if_pos h, if_pos h, swapL_eq hal hm h]
        · rw [if_neg h, if_neg h]
      refine as_seq (as_setE (d := toldD ms (some k)) (EvE.to (ev_callE (al, ms, k) (ea_cons (ev_var rfl) (ea_cons (ev_var rfl) ea_nil)) ⟨hal, by show ms.length ≤ 6; omega, hm⟩) ed) ?_)
      refine as_seq (as_setE (d := toldD ms (some k)) (ev_callE (((al, ms, bs), some k) : Bk × Option Nat) (ea_cons (ev_var rfl) (ea_cons (ev_var rfl) ea_nil)) bok) ?_)
      have an := swap_ans ms k
      generalize toldD ms (some k) = d at an
      show AS c E _ (fmL b ns al t [some (.dat (eBk c al ms bs)), some (.dat (.lst (ms.map (eLM al)))), some (.dat (eI k)), none, some (.dat d), some (.dat d)]) _
      refine as_ifT (b := false) (EvT.to (et_or (et_test (ev_opE (ev_var rfl) (ev_var rfl) (rop_neAns an))) fun _ => et_test (ev_opE (ev_isB an rfl) (ev_isB an rfl) rop_neB)) (by simp)) (fun z => by cases z) fun _ => as_next ?_
      exact ⟨_, .keep (.keep (.keep (.keep (.keep (.keep (.drop (.keep (.drop (.drop .nil))))))))), rfl⟩
    · rintro ρ rfl
      refine as_ifT (b := false) (et_test (ev_opE (x := eIdle (idleP ms)) (y := eIdle (idleP ms)) (ev_callE (((al, ms, bs), none) : Bk × Option Nat) (ea_cons (ev_var rfl) (ea_cons ev_non ea_nil)) bok) (EvE.to (ev_callE (al, ms) (ea_cons (ev_var rfl) (ea_cons (ev_var rfl) ea_nil)) ⟨hal, by show ms.length ≤ 6; omega, hm⟩) (by show eIdle (idleL ms) = _; rw [idleL_eq hal hm])) (idle_eq _))) (fun z => by cases z) fun _ => as_next ?_
      exact ⟨_, .keep (.keep (.keep (.drop (.drop (.drop (.keep (.keep (.keep (.keep .nil))))))))), rfl⟩
end
section
variable {c : Ct}
theorem run_law {E E' : XK} {vs : List V} {H : Hp} {Q : VK} (hB : c.B = none) (h : sp_law c vs H Q E) : t_law c { nx := fun _ H' => Q .non H', rt := Q } (L2.start N_law vs) H := by
  have eB : { c with B := none } = c := by
    cases c
    simp only at hB
    subst hB
    rfl
  obtain ⟨a, ns, G, rfl, ok, hs, q⟩ := h
  rw [eB] at ok
  have r0 : Rel c G H [some (.dat (.scr ns)), none, none, none, none, none, none, none, none, none] (L2.start N_law [.ref a]) G H := Rel.init ok (ds := [.scr ns]) (.cons (.scr hs) .nil) N_law
  have row : Ev c (tCall (sp_law_row c) [] E0 (tCons (tVar 0) (tCons (tC (.int 0)) (tCons (tC (.int 50)) tNil)))) [some (.dat (.scr ns)), none, none, none, none, none, none, none, none, none] (fun d => ∃ ms : List Int, d = .lst (ms.map .int)) :=
    ev_call ns (ea_cons (ev_var rfl) (ea_cons ev_int (ea_cons ev_int ea_nil))) trivial
  refine row _ _ _ _ _ r0 _ fun d v G1 H1 kd s1 rd => ?_
  obtain ⟨ms, rfl⟩ := kd
  obtain ⟨r, vs, rfl, hr, hl⟩ := rd.list
  refine ⟨by show 2 ≤ sizeLine; rw [sizeLine_eq]; omega, fun p hp => ?_⟩
  have gp : G1 p = none := fresh_back s1.ok.gh hp
  have ok2 : Ok { c with B := some p } G1 (upd H1 p (.lst [.ref r, .int 0])) := ⟨s1.ok.gh.trans (Ex.new hp), fun b hb => by
    obtain rfl : p = b := Option.some.inj hb
    exact ⟨gp, r, ms, 0, upd_same, by decide, .lst hr hl⟩, s1.ok.tb.ext (Ex.new hp), s1.ok.nt⟩
  have r2 : Rel { c with B := some p } G1 (upd H1 p (.lst [.ref r, .int 0])) [some (.dat (.scr ns)), some (.dat (.raw (.ref p))), none, none, none, none, none, none, none, none] (L2.start N_law [.ref a, .ref p]) G1 (upd H1 p (.lst [.ref r, .int 0])) :=
    Rel.init ok2 (ds := [.scr ns, .raw (.ref p)]) (.cons (.scr (ex_l s1.gg hs)) (.cons (.raw _) .nil)) N_law
  exact as_lawR (c := { c with B := some p }) (E := E') (b := p) rfl ns _ _ _ _ _ r2 { nx := fun _ H' => Q .non H', rt := Q } (fun _ _ _ _ z => z.elim) (fun d v G' H' n st _ rp => by
    subst n
    cases rp
    exact q H') fun _ _ _ _ _ z => z.elim
end
end Fx
/-! text CalA -/
namespace Fx
open PySem L2 Evl PyProof.Rows Mir
section
variable {P : Program} {w : World} {K : PySem.W.Frag} {mg : Str → Option Value} {base : Heap} {tabs : List NdefX.NTab} {ad : Ads} {cdv : Value} {A : Around} {outer : List PySem.Env} {s : Shared} {H : Hp} {E : XK} {f : Addr}
theorem cal_reached_behind (T : Top K mg) {f : Addr} {fd : FuncData} (F : FnP K "reached_behind" s_reached_behind f fd) (hm : mg "reached_behind" = some (.ref f)) :
    Cal P w K mg base CX0 1 "reached_behind" ["rows", "start"] (sp_reached_behind (ct P w K tabs ad)) :=
  cal_mk F hm sc_reached_behind (fun _ _ _ _ _ _ us hl => match us, hl with | [_, _], _ => rfl) (SpF.len fun _ => rfl) fun cdv A outer s H vs Q E hr h => ⟨_, p_reached_behind hr T , body_ok (E' := E) h fun i hi => (as_reached_behind (c := ct P w K tabs ad) (E := E) i hi).imp (fun _ z => z.elim) (fun _ h => h) fun _ _ z => z⟩
theorem cal_reached_in_front (T : Top K mg) {f : Addr} {fd : FuncData} (F : FnP K "reached_in_front" s_reached_in_front f fd) (hm : mg "reached_in_front" = some (.ref f)) :
    Cal P w K mg base CX0 1 "reached_in_front" ["rows", "start", "letters"] (sp_reached_in_front (ct P w K tabs ad)) :=
  cal_mk F hm sc_reached_in_front (fun _ _ _ _ _ _ us hl => match us, hl with | [_, _, _], _ => rfl) (SpF.len fun _ => rfl) fun cdv A outer s H vs Q E hr h => ⟨_, p_reached_in_front hr T , body_ok (E' := E) h fun i hi => (as_reached_in_front (c := ct P w K tabs ad) (E := E) i hi).imp (fun _ z => z.elim) (fun _ h => h) fun _ _ z => z⟩
theorem cal_kept_rows (T : Top K mg) {f : Addr} {fd : FuncData} (F : FnP K "kept_rows" s_kept_rows f fd) (hm : mg "kept_rows" = some (.ref f)) :
    Cal P w K mg base CX0 1 "kept_rows" ["rows", "order"] (sp_kept_rows (ct P w K tabs ad)) :=
  cal_mk F hm sc_kept_rows (fun _ _ _ _ _ _ us hl => match us, hl with | [_, _], _ => rfl) (SpF.len fun _ => rfl) fun cdv A outer s H vs Q E hr h => ⟨_, p_kept_rows hr T , body_ok (E' := E) h fun i hi => (as_kept_rows (c := ct P w K tabs ad) (E := E) i hi).imp (fun _ z => z.elim) (fun _ h => h) fun _ _ z => z⟩
theorem cal_numbered (T : Top K mg) {f : Addr} {fd : FuncData} (F : FnP K "_numbered" s_numbered f fd) (hm : mg "_numbered" = some (.ref f)) :
    Cal P w K mg base CX0 1 "_numbered" ["keys"] (sp_numbered (ct P w K tabs ad)) :=
  cal_mk F hm sc_numbered (fun _ _ _ _ _ _ us hl => match us, hl with | [_], _ => rfl) (SpF.len fun _ => rfl) fun cdv A outer s H vs Q E hr h => ⟨_, p_numbered hr T , body_ok (E' := E) h fun i hi => (as_numbered (c := ct P w K tabs ad) (E := E) i hi).imp (fun _ z => z.elim) (fun _ h => h) fun _ _ z => z⟩
theorem cal_classes (T : Top K mg) {f : Addr} {fd : FuncData} (F : FnP K "classes" s_classes f fd) (hm : mg "classes" = some (.ref f)) (C_numbered : Cal P w K mg base CX0 1 "_numbered" ["keys"] (sp_numbered (ct P w K tabs ad))) :
    Cal P w K mg base CX0 2 "classes" ["rows", "marks"] (sp_classes (ct P w K tabs ad)) :=
  cal_mk F hm sc_classes (fun _ _ _ _ _ _ us hl => match us, hl with | [_, _], _ => rfl) (SpF.len fun _ => rfl) fun cdv A outer s H vs Q E hr h => ⟨_, p_classes hr T C_numbered, body_ok (E' := E) h fun i hi => (as_classes (c := ct P w K tabs ad) (E := E) i hi).imp (fun _ z => z.elim) (fun _ h => h) fun _ _ z => z⟩
theorem cal_chosen (T : Top K mg) {f : Addr} {fd : FuncData} (F : FnP K "_chosen" s_chosen f fd) (hm : mg "_chosen" = some (.ref f)) :
    Cal P w K mg base CX0 1 "_chosen" ["rows", "parts"] (sp_chosen (ct P w K tabs ad)) :=
  cal_mk F hm sc_chosen (fun _ _ _ _ _ _ us hl => match us, hl with | [_, _], _ => rfl) (SpF.len fun _ => rfl) fun cdv A outer s H vs Q E hr h => ⟨_, p_chosen hr T , body_ok (E' := E) h fun i hi => (as_chosen (c := ct P w K tabs ad) (E := E) i hi).imp (fun _ z => z.elim) (fun _ h => h) fun _ _ z => z⟩
theorem cal_least_parts (T : Top K mg) {f : Addr} {fd : FuncData} (F : FnP K "least_parts" s_least_parts f fd) (hm : mg "least_parts" = some (.ref f)) (C_reached_behind : Cal P w K mg base CX0 1 "reached_behind" ["rows", "start"] (sp_reached_behind (ct P w K tabs ad))) (C_reached_in_front : Cal P w K mg base CX0 1 "reached_in_front" ["rows", "start", "letters"] (sp_reached_in_front (ct P w K tabs ad))) (C_kept_rows : Cal P w K mg base CX0 1 "kept_rows" ["rows", "order"] (sp_kept_rows (ct P w K tabs ad))) (C_chosen : Cal P w K mg base CX0 1 "_chosen" ["rows", "parts"] (sp_chosen (ct P w K tabs ad))) (C_classes : Cal P w K mg base CX0 2 "classes" ["rows", "marks"] (sp_classes (ct P w K tabs ad))) :
    Cal P w K mg base CX0 3 "least_parts" ["left", "right", "table", "letters"] (sp_least_parts (ct P w K tabs ad)) :=
  cal_mk F hm sc_least_parts (fun _ _ _ _ _ _ us hl => match us, hl with | [_, _, _, _], _ => rfl) (SpF.len fun _ => rfl) fun cdv A outer s H vs Q E hr h => ⟨_, p_least_parts hr T C_reached_behind C_reached_in_front C_kept_rows C_chosen C_classes, body_ok (E' := E) h fun i hi => (as_least_parts (c := ct P w K tabs ad) (E := E) i hi).imp (fun _ z => z.elim) (fun _ h => h) fun _ _ z => z⟩
theorem cal_is_alphabet (T : Top K mg) {f : Addr} {fd : FuncData} (F : FnP K "is_alphabet" s_is_alphabet f fd) (hm : mg "is_alphabet" = some (.ref f)) :
    Cal P w K mg base CX0 1 "is_alphabet" ["thing"] (sp_is_alphabet (ct P w K tabs ad)) :=
  cal_mk F hm sc_is_alphabet (fun _ _ _ _ _ _ us hl => match us, hl with | [_], _ => rfl) (SpF.len fun _ => rfl) fun cdv A outer s H vs Q E hr h => ⟨_, p_is_alphabet hr T , body_ok (E' := E) h fun i hi => (as_is_alphabet (c := ct P w K tabs ad) (E := E) i hi).imp (fun _ z => z.elim) (fun _ h => h) fun _ _ z => z⟩
theorem cal_is_word (T : Top K mg) {f : Addr} {fd : FuncData} (F : FnP K "is_word" s_is_word f fd) (hm : mg "is_word" = some (.ref f)) :
    Cal P w K mg base CX0 1 "is_word" ["alphabet", "thing"] (sp_is_word (ct P w K tabs ad)) :=
  cal_mk F hm sc_is_word (fun _ _ _ _ _ _ us hl => match us, hl with | [_, _], _ => rfl) (SpF.len fun _ => rfl) fun cdv A outer s H vs Q E hr h => ⟨_, p_is_word hr T , body_ok (E' := E) h fun i hi => (as_is_word (c := ct P w K tabs ad) (E := E) i hi).imp (fun _ z => z.elim) (fun _ h => h) fun _ _ z => z⟩
theorem cal_are_rows (T : Top K mg) {f : Addr} {fd : FuncData} (F : FnP K "_are_rows" s_are_rows f fd) (hm : mg "_are_rows" = some (.ref f)) :
    Cal P w K mg base CX0 1 "_are_rows" ["thing", "letters"] (sp_are_rows (ct P w K tabs ad)) :=
  cal_mk F hm sc_are_rows (fun _ _ _ _ _ _ us hl => match us, hl with | [_, _], _ => rfl) (SpF.len fun _ => rfl) fun cdv A outer s H vs Q E hr h => ⟨_, p_are_rows hr T , body_ok (E' := E) h fun i hi => (as_are_rows (c := ct P w K tabs ad) (E := E) i hi).imp (fun _ z => z.elim) (fun _ h => h) fun _ _ z => z⟩
theorem cal_is_table (T : Top K mg) {f : Addr} {fd : FuncData} (F : FnP K "_is_table" s_is_table f fd) (hm : mg "_is_table" = some (.ref f)) (C_is_word : Cal P w K mg base CX0 1 "is_word" ["alphabet", "thing"] (sp_is_word (ct P w K tabs ad))) :
    Cal P w K mg base CX0 2 "_is_table" ["thing", "left", "right", "letters", "writes"] (sp_is_table (ct P w K tabs ad)) :=
  cal_mk F hm sc_is_table (fun _ _ _ _ _ _ us hl => match us, hl with | [_, _, _, _, _], _ => rfl) (SpF.len fun _ => rfl) fun cdv A outer s H vs Q E hr h => ⟨_, p_is_table hr T C_is_word, body_ok (E' := E) h fun i hi => (as_is_table (c := ct P w K tabs ad) (E := E) i hi).imp (fun _ z => z.elim) (fun _ h => h) fun _ _ z => z⟩
end
end Fx
/-! text CalB -/
namespace Fx
open PySem L2 Evl PyProof.Rows Mir
section
variable {P : Program} {w : World} {K : PySem.W.Frag} {mg : Str → Option Value} {base : Heap} {tabs : List NdefX.NTab} {ad : Ads} {cdv : Value} {A : Around} {outer : List PySem.Env} {s : Shared} {H : Hp} {E : XK} {f : Addr}
theorem cal_form (T : Top K mg) {f : Addr} {fd : FuncData} (F : FnP K "form" s_form f fd) (hm : mg "form" = some (.ref f)) (hM : MOk (ct P w K tabs ad)) :
    Cal P w K mg base CX0 1 "form" ["machine"] (sp_form (ct P w K tabs ad)) :=
  cal_mk F hm sc_form (fun _ _ _ _ _ _ us hl => match us, hl with | [_], _ => rfl) (SpF.len fun _ => rfl) fun cdv A outer s H vs Q E hr h => ⟨_, p_form hr T , body_ok (E' := E) h fun i hi => (as_form hM (c := ct P w K tabs ad) (E := E) i hi).imp (fun _ z => z.elim) (fun _ h => h) fun _ _ z => z⟩
theorem cal_identity (T : Top K mg) {f : Addr} {fd : FuncData} (F : FnP K "identity" s_identity f fd) (hm : mg "identity" = some (.ref f)) (C_Machine : CalM P w K mg base 3 "Machine" ad.M (sp_Machine (ct P w K tabs ad))) :
    Cal P w K mg base CX0 5 "identity" ["alphabet"] (sp_identity (ct P w K tabs ad)) :=
  cal_mk F hm sc_identity (fun _ _ _ _ _ _ us hl => match us, hl with | [_], _ => rfl) (SpF.len fun _ => rfl) fun cdv A outer s H vs Q E hr h => ⟨_, p_identity hr T C_Machine, body_ok (E' := E) h fun i hi => (as_identity (c := ct P w K tabs ad) (E := E) i hi).imp (fun _ z => z.elim) (fun _ h => h) fun _ _ z => z⟩
theorem cal_least (T : Top K mg) {f : Addr} {fd : FuncData} (F : FnP K "least" s_least f fd) (hm : mg "least" = some (.ref f)) (C_least_parts : Cal P w K mg base CX0 3 "least_parts" ["left", "right", "table", "letters"] (sp_least_parts (ct P w K tabs ad))) (C_Machine : CalM P w K mg base 3 "Machine" ad.M (sp_Machine (ct P w K tabs ad))) (hM : MOk (ct P w K tabs ad)) :
    Cal P w K mg base CX0 5 "least" ["machine"] (sp_least (ct P w K tabs ad)) :=
  cal_mk F hm sc_least (fun _ _ _ _ _ _ us hl => match us, hl with | [_], _ => rfl) (SpF.len fun _ => rfl) fun cdv A outer s H vs Q E hr h => ⟨_, p_least hr T C_least_parts C_Machine, body_ok (E' := E) h fun i hi => (as_least hM (c := ct P w K tabs ad) (E := E) i hi).imp (fun _ z => z.elim) (fun _ h => h) fun _ _ z => z⟩
theorem cal_copied (T : Top K mg) {f : Addr} {fd : FuncData} (F : FnP K "copied" s_copied f fd) (hm : mg "copied" = some (.ref f)) (C_Machine : CalM P w K mg base 3 "Machine" ad.M (sp_Machine (ct P w K tabs ad))) (hM : MOk (ct P w K tabs ad)) :
    Cal P w K mg base CX0 5 "copied" ["machine"] (sp_copied (ct P w K tabs ad)) :=
  cal_mk F hm sc_copied (fun _ _ _ _ _ _ us hl => match us, hl with | [_], _ => rfl) (SpF.len fun _ => rfl) fun cdv A outer s H vs Q E hr h => ⟨_, p_copied hr T C_Machine, body_ok (E' := E) h fun i hi => (as_copied hM (c := ct P w K tabs ad) (E := E) i hi).imp (fun _ z => z.elim) (fun _ h => h) fun _ _ z => z⟩
theorem cal_left_onward (T : Top K mg) {f : Addr} {fd : FuncData} (F : FnP K "_left_onward" s_left_onward f fd) (hm : mg "_left_onward" = some (.ref f)) (hM : MOk (ct P w K tabs ad)) :
    Cal P w K mg base CX0 1 "_left_onward" ["one", "two", "thing", "k"] (sp_left_onward (ct P w K tabs ad)) :=
  cal_mk F hm sc_left_onward (fun _ _ _ _ _ _ us hl => match us, hl with | [_, _, _, _], _ => rfl) (SpF.len fun _ => rfl) fun cdv A outer s H vs Q E hr h => ⟨_, p_left_onward hr T , body_ok (E' := E) h fun i hi => (as_left_onward hM (c := ct P w K tabs ad) (E := E) i hi).imp (fun _ z => z.elim) (fun _ h => h) fun _ _ z => z⟩
theorem cal_right_onward (T : Top K mg) {f : Addr} {fd : FuncData} (F : FnP K "_right_onward" s_right_onward f fd) (hm : mg "_right_onward" = some (.ref f)) (hM : MOk (ct P w K tabs ad)) :
    Cal P w K mg base CX0 1 "_right_onward" ["one", "two", "thing", "k"] (sp_right_onward (ct P w K tabs ad)) :=
  cal_mk F hm sc_right_onward (fun _ _ _ _ _ _ us hl => match us, hl with | [_, _, _, _], _ => rfl) (SpF.len fun _ => rfl) fun cdv A outer s H vs Q E hr h => ⟨_, p_right_onward hr T , body_ok (E' := E) h fun i hi => (as_right_onward hM (c := ct P w K tabs ad) (E := E) i hi).imp (fun _ z => z.elim) (fun _ h => h) fun _ _ z => z⟩
theorem cal_letter (T : Top K mg) {f : Addr} {fd : FuncData} (F : FnP K "_letter" s_letter f fd) (hm : mg "_letter" = some (.ref f)) (hM : MOk (ct P w K tabs ad)) :
    Cal P w K mg base CX0 1 "_letter" ["one", "two", "front", "behind", "k"] (sp_letter (ct P w K tabs ad)) :=
  cal_mk F hm sc_letter (fun _ _ _ _ _ _ us hl => match us, hl with | [_, _, _, _, _], _ => rfl) (SpF.len fun _ => rfl) fun cdv A outer s H vs Q E hr h => ⟨_, p_letter hr T , body_ok (E' := E) h fun i hi => (as_letter hM (c := ct P w K tabs ad) (E := E) i hi).imp (fun _ z => z.elim) (fun _ h => h) fun _ _ z => z⟩
theorem cal_told (T : Top K mg) {f : Addr} {fd : FuncData} (F : FnP K "_told" s_told f fd) (hm : mg "_told" = some (.ref f)) (C_letter : Cal P w K mg base CX0 1 "_letter" ["one", "two", "front", "behind", "k"] (sp_letter (ct P w K tabs ad))) (hM : MOk (ct P w K tabs ad)) :
    Cal P w K mg base CX0 2 "_told" ["one", "two", "front", "behind"] (sp_told (ct P w K tabs ad)) :=
  cal_mk F hm sc_told (fun _ _ _ _ _ _ us hl => match us, hl with | [_, _, _, _], _ => rfl) (SpF.len fun _ => rfl) fun cdv A outer s H vs Q E hr h => ⟨_, p_told hr T C_letter, body_ok (E' := E) h fun i hi => (as_told hM (c := ct P w K tabs ad) (E := E) i hi).imp (fun _ z => z.elim) (fun _ h => h) fun _ _ z => z⟩
theorem calM_Machine (hM : MOk (ct P w K tabs ad)) (T : Top K mg) {f : Addr} {fd : FuncData} (M : Mk K ad.M f) (F : FnM K "__init__" "Machine.__init__" s_Machine___init__ f fd) (hm : mg "Machine" = some (.ref ad.M)) (C_is_alphabet : Cal P w K mg base CX0 1 "is_alphabet" ["thing"] (sp_is_alphabet (ct P w K tabs ad))) (C_are_rows : Cal P w K mg base CX0 1 "_are_rows" ["thing", "letters"] (sp_are_rows (ct P w K tabs ad))) (C_is_table : Cal P w K mg base CX0 2 "_is_table" ["thing", "left", "right", "letters", "writes"] (sp_is_table (ct P w K tabs ad))) :
    CalM P w K mg base 3 "Machine" ad.M (sp_Machine (ct P w K tabs ad)) :=
  ⟨f, fd, ["self", "reads", "writes", "left", "right", "table"], M, F.ok sc_Machine___init__ (fun vs H Q E h => by
      obtain ⟨i, G, p, dx, ws, rfl, _, _, _, r, _⟩ := h
      rw [List.length_cons, ← r.len]
      rfl) fun cdv A outer s H vs Q E hr h => ⟨_, (p_Machine___init__ hr T C_is_alphabet C_are_rows C_is_table).nox, init_Machine (E' := E) hM rfl h⟩, hm, F.bindsN fun _ _ _ _ _ _ us hl => match us, hl with | [_, _, _, _, _, _], _ => rfl⟩
end
end Fx
/-! text CalC -/
namespace Fx
open PySem L2 Evl PyProof.Rows Mir NdefX LamX
section
variable {P : Program} {w : World} {K : PySem.W.Frag} {mg : Str → Option Value} {base : Heap} {tabs : List NdefX.NTab} {ad : Ads} {cdv : Value} {A : Around} {outer : List PySem.Env} {s : Shared} {H : Hp} {E : XK} {f c0 : Addr}
theorem cal_small_machine (T : Top K mg) {f : Addr} {fd : FuncData} (F : FnP K "small_machine" s_small_machine f fd) (hm : mg "small_machine" = some (.ref f)) (C_least_parts : Cal P w K mg base CX0 3 "least_parts" ["left", "right", "table", "letters"] (sp_least_parts (ct P w K tabs ad))) (C_Machine : CalM P w K mg base 3 "Machine" ad.M (sp_Machine (ct P w K tabs ad))) (R_MachineError : CalR P w K mg base 1 "MachineError" ad.ME) :
    Cal P w K mg base (L2.CX P w) 5 "small_machine" ["reads", "writes", "left", "right", "table"] (sp_small_machine (ct P w K tabs ad)) :=
  calX_mk F hm sc_small_machine (fun _ _ _ _ _ _ us hl => match us, hl with | [_, _, _, _, _], _ => rfl) (SpX.len fun _ => rfl) fun cdv A outer s H vs Q E hr h => ⟨_, p_small_machine hr T C_least_parts C_Machine R_MachineError, body_okX h fun i hi => (as_small_machine (c := ct P w K tabs ad) (E := E) i hi).imp (fun _ z => z.elim) (fun _ h => h) fun _ _ z => z⟩
theorem cal_cascade (T : Top K mg) {f : Addr} {fd : FuncData} (F : FnP K "cascade" s_cascade f fd) (hm : mg "cascade" = some (.ref f)) (C_least : Cal P w K mg base CX0 5 "least" ["machine"] (sp_least (ct P w K tabs ad))) (C_compose : Cal P w K mg base (L2.CX P w) 6 "compose" ["first", "second"] (sp_compose (ct P w K tabs ad))) (hM : MOk (ct P w K tabs ad)) :
    Cal P w K mg base (L2.CX P w) 7 "cascade" ["machines"] (sp_cascade (ct P w K tabs ad)) :=
  calX_mk F hm sc_cascade (fun _ _ _ _ _ _ us hl => match us, hl with | [_], _ => rfl) (SpX.len fun _ => rfl) fun cdv A outer s H vs Q E hr h => ⟨_, p_cascade hr T C_least C_compose , body_okX h fun i hi => (as_cascade hM (c := ct P w K tabs ad) (E := E) i hi).imp (fun _ z => z.elim) (fun _ h => h) fun _ _ z => z⟩
theorem cal_commutes (T : Top K mg) {f : Addr} {fd : FuncData} (F : FnP K "commutes" s_commutes f fd) (hm : mg "commutes" = some (.ref f)) (C_both_orders : Cal P w K mg base (L2.CX P w) 7 "_both_orders" ["one", "two"] (sp_both_orders (ct P w K tabs ad))) (C_form : Cal P w K mg base CX0 1 "form" ["machine"] (sp_form (ct P w K tabs ad))) (hM : MOk (ct P w K tabs ad)) :
    Cal P w K mg base (L2.CX P w) 8 "commutes" ["one", "two"] (sp_commutes (ct P w K tabs ad)) :=
  calX_mk F hm sc_commutes (fun _ _ _ _ _ _ us hl => match us, hl with | [_, _], _ => rfl) (SpX.len fun _ => rfl) fun cdv A outer s H vs Q E hr h => ⟨_, p_commutes hr T C_both_orders C_form , body_okX h fun i hi => (as_commutes hM (c := ct P w K tabs ad) (E := E) i hi).imp (fun _ z => z.elim) (fun _ h => h) fun _ _ z => z⟩
theorem cal_whole (T : Top K mg) {f : Addr} {fd : FuncData} (F : FnP K "_whole" s_whole f fd) (hm : mg "_whole" = some (.ref f)) (C_identity : Cal P w K mg base CX0 5 "identity" ["alphabet"] (sp_identity (ct P w K tabs ad))) (C_cascade : Cal P w K mg base (L2.CX P w) 7 "cascade" ["machines"] (sp_cascade (ct P w K tabs ad))) :
    Cal P w K mg base (L2.CX P w) 8 "_whole" ["alphabet", "machines"] (sp_whole (ct P w K tabs ad)) :=
  calX_mk F hm sc_whole (fun _ _ _ _ _ _ us hl => match us, hl with | [_, _], _ => rfl) (SpX.len fun _ => rfl) fun cdv A outer s H vs Q E hr h => ⟨_, p_whole hr T C_identity C_cascade , body_okX h fun i hi => (as_whole (c := ct P w K tabs ad) (E := E) i hi).imp (fun _ z => z.elim) (fun _ h => h) fun _ _ z => z⟩

/-- what the code address of a def is, and its words -/
theorem calX_mkC {k : Nat} {x : Str} {st : Stmt} {f : Addr} {fd : FuncData} {N ps : List Str} {sp : Sp} {Pc : Value → Prop} (F : FnP K x st f fd) (hm : mg x = some (.ref f)) (S : FnScope N ps (defScope st))
    (hc : ∀ (cd : Value), (∃ (oc : Value) (od : Option Addr) (fd : FuncData) (osl : Array (Option Value)), K.lookup f = some ⟨oc, od, .func fd, osl⟩ ∧ fd.code = cd) → PySem.W.codeIn K cd x = true → Pc cd)
    (hb : ∀ (kV doc pm : Value) (an : Option Addr) (cdv ct : Value) (us : List Value), us.length = ps.length → bindArgs (PySem.W.fnOf x x (defArgs st) (defBody st) (defScope st) .none kV doc pm an cdv ct) ⟨us, []⟩ = pure (ps.zip us))
    (len : ∀ vs H Q E, sp vs H Q E → vs.length = ps.length)
    (hbody : ∀ (cdv : Value) (A : Around) (outer : List PySem.Env) (s : Shared) (H : Hp) (vs : List V) (Q : VK) (E : XK), Pc cdv → Room k (A.deeper (envOfC x (defScope st) s.heap.objs.size f cdv)) → sp vs H Q E →
      ∃ t, PSs (cxOf (L2.CX P w) P w K mg base N x (defScope st) f cdv A outer s H E) (defBody st) t ∧ t { nx := fun _ H' => Q .non H', rt := Q } (L2.start N vs) H) : Cal P w K mg base (L2.CX P w) (k + 1) x ps sp := by
  have b := F.bindsN hb
  have kp := F.kp
  refine ⟨f, fd, ?_, hm, kp, b⟩
  obtain ⟨oc, od, dV, kV, doc, pm, an, cdv, ct, osl, rfl, lk, hcd, _, _⟩ := F.ex
  exact fn_of lk hcd S len fun A outer s H vs Q E hr hsp => hbody cdv A outer s H vs Q E (hc _ ⟨oc, od, _, osl, lk, rfl⟩ hcd) hr hsp
theorem cal_both_orders (hM : MOk (ct P w K tabs ad)) (T : Top K mg) {f : Addr} {fd : FuncData} (F : FnP K "_both_orders" s_both_orders f fd) (hm : mg "_both_orders" = some (.ref f)) (C_compose : Cal P w K mg base (L2.CX P w) 6 "compose" ["first", "second"] (sp_compose (ct P w K tabs ad))) (R_MachineError : CalR P w K mg base 1 "MachineError" ad.ME) :
    Cal P w K mg base (L2.CX P w) 7 "_both_orders" ["one", "two"] (sp_both_orders (ct P w K tabs ad)) :=
  calX_mkC (Pc := fun cd => PySem.W.kdsCode K cd = true) F hm sc_both_orders (fun cd _ h => kdsCode_of h) (fun _ _ _ _ _ _ us hl => match us, hl with | [_, _], _ => rfl) (SpX.len fun _ => rfl) fun cdv A outer s H vs Q E hkc hr h => ⟨_, p_both_orders hr T C_compose R_MachineError hkc, body_okX h fun i hi => (as_both_orders (c := ct P w K tabs ad) (E := E) hM i hi).imp (fun _ z => z.elim) (fun _ h => h) fun _ _ z => z⟩
theorem cal_compose (hM : MOk (ct P w K tabs ad)) (T : Top K mg) {f : Addr} {fd : FuncData} (F : FnP K "compose" s_compose f fd) (hm : mg "compose" = some (.ref f)) (C_least : Cal P w K mg base CX0 5 "least" ["machine"] (sp_least (ct P w K tabs ad))) (C_told : Cal P w K mg base CX0 2 "_told" ["one", "two", "front", "behind"] (sp_told (ct P w K tabs ad))) (C_small_machine : Cal P w K mg base (L2.CX P w) 5 "small_machine" ["reads", "writes", "left", "right", "table"] (sp_small_machine (ct P w K tabs ad))) (R_MachineError : CalR P w K mg base 1 "MachineError" ad.ME)
    {fw P0 : Addr} {fdw : FuncData} {nmT : Nat → Nat → Str} (Fw : FnOkC P w K mg base (L2.CX P w) 4 fw fdw ["first", "onward", "letters"] ["one", "two"] (sp_walked (ct P w K tabs ad))) (hmw : mg "_walked" = some (.ref fw)) (hkw : PySem.W.keepIn K (.ref fw) = true) (hbw : Binds K fdw ["first", "onward", "letters"] [])
    (TB : TabB base mg c0 P0) (hmT : (P0, nmT) ∈ tabs) (hnTL : nmT 183 4 = ((("compose" : Str) ++ ".<locals>.") ++ "onward_left")) (hnTR : nmT 186 4 = ((("compose" : Str) ++ ".<locals>.") ++ "onward_right")) (huT : ∀ p ∈ tabs, p.1 = P0 → p.2 = nmT)
    (hc0 : ∀ (oc : Value) (od : Option Addr) (fd : FuncData) (osl : Array (Option Value)), K.lookup f = some ⟨oc, od, .func fd, osl⟩ → fd.code = .ref c0) :
    Cal P w K mg base (L2.CX P w) 6 "compose" ["first", "second"] (sp_compose (ct P w K tabs ad)) :=
  calX_mkC (Pc := fun cd => cd = .ref c0) F hm sc_compose (fun cd ⟨oc, od, fd, osl, h, e⟩ _ => by rw [← e]; exact hc0 oc od fd osl h) (fun _ _ _ _ _ _ us hl => match us, hl with | [_, _], _ => rfl) (SpX.len fun _ => rfl) fun cdv A outer s H vs Q E hcv hr h => by
    subst hcv
    exact ⟨_, p_compose hr T C_least C_told C_small_machine R_MachineError Fw hmw hkw hbw TB hmT hnTL hnTR huT, body_okX h fun i hi => (as_compose (c := ct P w K tabs ad) (E := E) hM i hi).imp (fun _ z => z.elim) (fun _ h => h) fun _ _ z => z⟩
theorem fnc_walked (T : Top K mg) {f : Addr} {fd : FuncData} (F : FnP K "_walked" s_walked f fd) (R_MachineError : CalR P w K mg base 1 "MachineError" ad.ME) (CL : Cal P w K mg base CX0 1 "_left_onward" ["one", "two", "thing", "k"] (sp_left_onward (ct P w K tabs ad))) (CRt : Cal P w K mg base CX0 1 "_right_onward" ["one", "two", "thing", "k"] (sp_right_onward (ct P w K tabs ad))) :
    FnOkC P w K mg base (L2.CX P w) 4 f fd ["first", "onward", "letters"] ["one", "two"] (sp_walked (ct P w K tabs ad)) ∧ Binds K fd ["first", "onward", "letters"] [] ∧ PySem.W.keepIn K (.ref f) = true := by
  have b := F.bindsN (ps := ["first", "onward", "letters"]) fun _ _ _ _ _ _ us hl => match us, hl with | [_, _, _], _ => rfl
  have kp := F.kp
  refine ⟨?_, b, kp⟩
  obtain ⟨oc, od, dV, kV, doc, pm, an, cdv, ct', osl, rfl, lk, hcd, _, _⟩ := F.ex
  exact fn_ofC lk hcd sc_walked (fun cl ws vs H Q E h => by
    obtain ⟨b, al, one, two, first, G, f, F, v0, vws, rfl, _⟩ := h
    rfl) fun A outer s H vs cl ws Q E hr hC nf h => ⟨_, p_walked hr T R_MachineError (nok_on CL CRt) hC nf, run_walked rfl h⟩
end
end Fx
/-! text HeadC -/
namespace Fx
open PySem L2 Evl PyProof.Rows Mir MirL NdefX LamX
/-! ### the exception classes by what is looked at -/
theorem oexB_ok {K : PySem.W.Frag} {C : Addr} (h : oexB K C = true) : ∃ nm q N bs bm sn sub ab col dd k0 k1 k2 k3 k5, K.lookup C = some (excClassObj nm q C N bs bm true sn sub ab col dd k0 k1 k2 k3 k5 "ValueError.__new__") ∧ PySem.HandSPX.refsVE bm = true := by
  unfold oexB at h
  split at h
  · rename_i t dd cd sl ho
    split at h
    · rename_i C' bm k0 k1 k2 k3 n k5 hm hs
      obtain ⟨h1, h⟩ := He.ba h
      obtain ⟨h2, h⟩ := He.ba h
      obtain ⟨h3, h⟩ := He.ba h
      obtain ⟨h4, h⟩ := He.ba h
      obtain ⟨h5, h6⟩ := He.ba h
      obtain rfl := of_decide_eq_true h1
      obtain rfl := of_decide_eq_true h2
      obtain rfl := of_decide_eq_true h3
      obtain ⟨nm, bs, mro, ns, qn, hd, sn, sub, ab, col, del⟩ := cd
      have g4 : del = false := by simpa using h4
      have g6 : hd = true := h6
      dsimp only at hm
      subst hm g4 g6
      obtain ⟨l⟩ := sl
      simp only at hs
      subst hs
      exact ⟨nm, qn, ns, bs, bm, sn, sub, ab, col, dd, k0, k1, k2, k3, k5, ho, h5⟩
    · cases h
  · cases h
structure ExcF (K : PySem.W.Frag) (x : Str) : Prop where
  T : OexC K (He.ga K x)
  init : initB K x (x ++ ".__init__") = true
  fi : PySem.W.findIn K (.ref (He.ga K x)) "__init__" = some (some (.ref (He.ma K (He.ga K x) "__init__")))
  ti : PySem.W.typeIn K (.ref (He.ma K (He.ga K x) "__init__")) = some (.type "function")
  cd : ∃ cd, PySem.W.clsIn K (He.ga K x) = some cd
  self : PySem.W.mroIn K (He.ga K x) (.ref (He.ga K x)) = some true
  sin : PySem.W.ks_superIn K (He.ga K x) (He.ga K x) "__init__" = some (some (.builtin "ValueError.__init__"))
  sub : PySem.W.subIn K (.ref (He.ga K x)) (.type "ValueError") = some true
  reason : PySem.W.findIn K (.ref (He.ga K x)) "reason" = some none
  xf : XfC K (He.ga K x)
theorem excB_ok {K : PySem.W.Frag} {x : Str} (h : (excB K x).all id = true) : ExcF K x := by
  simp only [excB, List.all_cons, List.all_nil, id_eq, Bool.and_eq_true, Bool.and_true, and_true] at h
  obtain ⟨e1, e2, e3, e4, e5, e6, e7, e8, e9, e10, e11, e12, e13, e14⟩ := h
  exact ⟨⟨oexB_ok e1, He.eqO_ok e2, of_decide_eq_true e3, of_decide_eq_true e4, e5⟩, e6, He.eqO_ok e7, of_decide_eq_true e8, Option.isSome_iff_exists.mp e9, of_decide_eq_true e10, He.eqO_ok e11, of_decide_eq_true e12, He.eqO_ok e13, xfB_ok e14⟩
theorem exH_ok {K : PySem.W.Frag} (h : (exH K).all id = true) : PySem.W.nsIn K cStatics "thirdparty.any" = some none ∧ ExcF K "MachineError" ∧ ExcF K "BookError" := by
  unfold exH at h
  rw [List.all_cons, List.all_append, Bool.and_eq_true, Bool.and_eq_true] at h
  exact ⟨He.eqO_ok h.1, excB_ok h.2.1, excB_ok h.2.2⟩
theorem xcls_of {P : Program} {K : PySem.W.Frag} {mg : Str → Option Value} {x : Str} {st : Stmt} (F : ExcF K x) (I : fnI K x = valI x st) (any : PySem.W.nsIn K cStatics "thirdparty.any" = some none) (sup : mg "super" = none)
    (top : (P.main.scope.names.lookup ("super" : Str)).isSome = false) (file : P.main.file = fileH) :
    ∃ cc cda fd, XCls P K mg (He.ga K x) (He.ma K (He.ga K x) "__init__") cc cda "__init__" (x ++ ".__init__") (defArgs st) (defBody st) (defScope st) fd ∧ ∃ kV doc pm an cdv ct, fd = PySem.W.fnX "__init__" (x ++ ".__init__") (defArgs st) (defBody st) (defScope st) [("__class__", cc)] .none kV doc pm an cdv ct := by
  have hi := F.init
  unfold fnI at I
  unfold initB at hi
  cases q : K.lookup (He.ma K (He.ga K x) "__init__") with
  | none => rw [q] at I; cases I
  | some o =>
    obtain ⟨oc, od, dt, osl⟩ := o
    rw [q] at I hi
    cases dt with
    | func fd =>
      obtain ⟨n1, n2, n3, n4, n5, n6, n7, n8, n9, n10, n11, n12, n13, n14, n15⟩ := fd
      have I2 : (some (n1, n2, n3, n4, n5, n6, n7.map Prod.fst, n8, n15) : FnI) = valI x st := I
      unfold valI at I2
      simp only [Option.some.injEq, Prod.mk.injEq] at I2
      obtain ⟨h1, h2, h3, h4, h5, h6, h7, h8, h9⟩ := I2
      subst h1 h2 h3 h4 h5 h6 h8 h9
      match n7, h7, hi, q with
      | [(y, cc)], h7, hi, q =>
        have hy : y = "__class__" := by simpa using h7
        subst hy
        obtain ⟨hc, hd⟩ := He.ba hi
        cases n13 with
        | ref cda =>
          obtain ⟨hd1, hd2⟩ := He.ba hd
          have cell : ∃ (cl : Value) (cld : Option Addr) (csl : Array (Option Value)), K.lookup cc = some ⟨cl, cld, .cell (some (.ref (He.ga K x))), csl⟩ := by
            have hc : (match K.lookup cc with | some ⟨_, _, .cell (some (.ref C')), _⟩ => decide (C' = He.ga K x) | _ => false) = true := hc
            revert hc
            cases K.lookup cc with
            | none => intro z; cases z
            | some o =>
              obtain ⟨a, b, d, e⟩ := o
              cases d with
              | cell v =>
                cases v with
                | none => intro z; cases z
                | some v =>
                  cases v with
                  | ref C' => intro z; obtain rfl := of_decide_eq_true z; exact ⟨a, b, e, rfl⟩
                  | _ => intro z; cases z
              | _ => intro z; cases z
          have code : ∃ (ccl : Value) (cdd : Option Addr) (ccs : Array (Option Value)) (vs : Array Value) (file : Str) (tf : Tok), K.lookup cda = some ⟨ccl, cdd, .fields vs, ccs⟩ ∧ vs[2]? = some (.str file tf) ∧ ((P.main.file : Str) == file) = true := by
            have hd2 : (match K.lookup cda with | some ⟨_, _, .fields vs, _⟩ => (match (vs[2]? : Option Value) with | some (.str f _) => decide (fileH = f) | _ => false) | _ => false) = true := hd2
            revert hd2
            cases K.lookup cda with
            | none => intro z; cases z
            | some o =>
              obtain ⟨a, b, d, e⟩ := o
              cases d with
              | fields vs =>
                intro z
                have z2 : (match (vs[2]? : Option Value) with | some (.str f _) => decide (fileH = f) | _ => false) = true := z
                cases q2 : (vs[2]? : Option Value) with
                | none => rw [q2] at z2; cases z2
                | some v =>
                  rw [q2] at z2
                  cases v with
                  | str f t => exact ⟨a, b, e, vs, f, t, rfl, q2, by rw [file, of_decide_eq_true z2]; exact beq_self_eq_true _⟩
                  | _ => cases z2
              | _ => intro z; cases z
          exact ⟨cc, cda, _, ⟨F.T, ⟨.none, n9, n10, n11, n14, oc, n12, od, osl, rfl, q⟩, hd1, cell, code, top, sup, any, F.cd, F.self, F.sin, F.sub, F.reason⟩, n9, n10, n11, n12, .ref cda, n14, rfl⟩
        | _ => cases hd
    | _ => cases I
section
variable {P : Program} {w : World} {K : PySem.W.Frag} {mg : Str → Option Value} {base : Heap}
theorem calR_ME (F : ExcF K "MachineError") (I : fnI K "MachineError" = valI "MachineError" sME) (any : PySem.W.nsIn K cStatics "thirdparty.any" = some none) (sup : mg "super" = none)
    (top : (P.main.scope.names.lookup ("super" : Str)).isSome = false) (file : P.main.file = fileH) (hm : mg "MachineError" = some (.ref (He.ga K "MachineError"))) : CalR P w K mg base 1 "MachineError" (He.ga K "MachineError") := by
  obtain ⟨cc, cda, fd, X, kV, doc, pm, an, cdv, ct, e⟩ := xcls_of (mg := mg) F I any sup top file
  refine ⟨F.T, ⟨_, fd, F.fi, F.ti, x_init (k := 0) X (nscope_by (by decide +kernel)) rfl (fun env => ⟨_, rfl⟩) (fun env => rfl) ⟨_, rfl, rfl⟩, ?_⟩, hm⟩
  subst e
  exact .all fun us hl => match us, hl with | [_, _], _ => rfl
theorem calR_BE (F : ExcF K "BookError") (I : fnI K "BookError" = valI "BookError" sBE) (any : PySem.W.nsIn K cStatics "thirdparty.any" = some none) (sup : mg "super" = none)
    (top : (P.main.scope.names.lookup ("super" : Str)).isSome = false) (file : P.main.file = fileH) (hm : mg "BookError" = some (.ref (He.ga K "BookError"))) : CalR P w K mg base 1 "BookError" (He.ga K "BookError") := by
  obtain ⟨cc, cda, fd, X, kV, doc, pm, an, cdv, ct, e⟩ := xcls_of (mg := mg) F I any sup top file
  refine ⟨F.T, ⟨_, fd, F.fi, F.ti, x_init (k := 0) X (nscope_by (by decide +kernel)) rfl (fun env => ⟨_, rfl⟩) (fun env => rfl) ⟨_, rfl, rfl⟩, ?_⟩, hm⟩
  subst e
  exact .all fun us hl => match us, hl with | [_, _], _ => rfl
end
end Fx
/-! text HeadD -/
namespace Fx
open PySem L2 Evl PyProof.Rows Mir MirL NdefX LamX
/-! ### all defs by names -/
def adH (K : PySem.W.Frag) : Ads := ⟨He.ga K "Machine", He.ga K "Book", He.ga K "MachineError", He.ga K "BookError"⟩
def nmH (l _ : Nat) : Str := if l = 183 then (("compose" : Str) ++ ".<locals>.") ++ "onward_left" else (("compose" : Str) ++ ".<locals>.") ++ "onward_right"
def tabsH (K : PySem.W.Frag) : List NdefX.NTab := [((He.cT K pC).2, nmH)]
abbrev PP : Program := PySem.Challenge.pw_foreaft_k63_swaps_and_idle_passes
theorem codeC {K : PySem.W.Frag} {fd0 : FuncData} (F : FnP K "compose" s_compose (He.ga K "compose") fd0) : ∀ (oc : Value) (od : Option Addr) (fd : FuncData) (osl : Array (Option Value)), K.lookup (He.ga K "compose") = some ⟨oc, od, .func fd, osl⟩ → fd.code = .ref (He.cT K pC).1 := fun oc od fd osl lk => by
  obtain ⟨oc', od', dV, kV, doc, pm, an, cdv, ct, osl', rfl, lk', hcd, _, _⟩ := F.ex
  rw [lk] at lk'
  injection lk' with lk'
  injection lk' with _ _ e _
  injection e with e
  obtain ⟨c0, hc0⟩ := He.codeIn_ref hcd
  have e2 : fd.code = .ref c0 := by rw [e]; exact hc0
  have e3 : He.codeOf K pC = c0 := He.codeOf_eq (p := pC) lk e2
  rw [e2]
  show _ = Value.ref (He.codeOf K pC)
  rw [e3]
section
variable {w : World} {K : PySem.W.Frag} {mg : Str → Option Value} {base h : Heap}
theorem topH (X : K.In h) (G : h.Ns mainGlobals mg) (c : SaysH h K) : Top K mg :=
  ⟨He.free_ok X G (c.d.fact 0 (f := .free "range") rfl), He.free_ok X G (c.d.fact 1 (f := .free "len") rfl), He.free_ok X G (c.d.fact 2 (f := .free "enumerate") rfl), He.free_ok X G (c.d.fact 3 (f := .free "tuple") rfl), He.free_ok X G (c.d.fact 4 (f := .free "list") rfl), He.free_ok X G (c.d.fact 5 (f := .free "max") rfl), He.free_ok X G (c.d.fact 6 (f := .free "isinstance") rfl), He.free_ok X G (c.d.fact 7 (f := .free "str") rfl), He.free_ok X G (c.d.fact 8 (f := .free "int") rfl), He.free_ok X G (c.d.fact 9 (f := .free "bool") rfl), He.free_ok X G (c.d.fact 10 (f := .free "all") rfl), He.free_ok X G (c.d.fact 11 (f := .free "abs") rfl), He.free_ok X G (c.d.fact 12 (f := .free "sorted") rfl), He.free_ok X G (c.d.fact 13 (f := .free "super") rfl),
   He.str_ok X G (c.d.fact 18 (f := .str "LETTERS" LETTERS) rfl), He.int_ok X G (c.d.fact 14 (f := .int "MOST_LETTERS" 5) rfl), He.int_ok X G (c.d.fact 15 (f := .int "MOST_STATES" 40) rfl), He.int_ok X G (c.d.fact 16 (f := .int "MOST_COMPOSED" 100) rfl), He.int_ok X G (c.d.fact 17 (f := .int "MOST_PASSES" 6) rfl)⟩
theorem mokH (c : SaysH h K) : MOk (ct PP w K (tabsH K) (adH K)) := ⟨He.cls_ok (c.d.fact 69 (f := .cls "Machine") rfl), fun f hf => by
  simp only [mNames, List.mem_cons, List.not_mem_nil, or_false] at hf
  rcases hf with rfl | rfl | rfl | rfl | rfl
  · exact He.noat_ok (c.d.fact 73 (f := .noat "Machine" "reads") rfl)
  · exact He.noat_ok (c.d.fact 74 (f := .noat "Machine" "writes") rfl)
  · exact He.noat_ok (c.d.fact 75 (f := .noat "Machine" "left") rfl)
  · exact He.noat_ok (c.d.fact 76 (f := .noat "Machine" "right") rfl)
  · exact He.noat_ok (c.d.fact 77 (f := .noat "Machine" "table") rfl)⟩
theorem bokH (c : SaysH h K) : BOk (ct PP w K (tabsH K) (adH K)) := ⟨He.cls_ok (c.d.fact 70 (f := .cls "Book") rfl), fun f hf => by
  simp only [bNames, List.mem_cons, List.not_mem_nil, or_false] at hf
  rcases hf with rfl | rfl | rfl
  · exact He.noat_ok (c.d.fact 78 (f := .noat "Book" "alphabet") rfl)
  · exact He.noat_ok (c.d.fact 79 (f := .noat "Book" "rows") rfl)
  · exact He.noat_ok (c.d.fact 80 (f := .noat "Book" "before") rfl)⟩
theorem xmH (X : K.In h) (G : h.Ns mainGlobals mg) (c : SaysH h K) : XmOk K mg (adH K) := by
  obtain ⟨_, F1, F2⟩ := exH_ok c.ex
  exact ⟨F2.xf, F1.xf, F2.reason, F1.reason, He.glo_ok X G (c.d.fact 68 (f := .glo "BookError") rfl), He.glo_ok X G (c.d.fact 67 (f := .glo "MachineError") rfl), He.exm_ok (c.d.fact 87 (f := .exm "BookError" "BookError" true) rfl), He.exm_ok (c.d.fact 88 (f := .exm "MachineError" "BookError" false) rfl), He.exm_ok (c.d.fact 89 (f := .exm "MachineError" "MachineError" true) rfl)⟩
theorem factsH (X : K.In h) (G : h.Ns mainGlobals mg) (c : SaysH h K) : ∃ fd : FuncData, (∀ (s : Shared) (v : Value), BindsTo s fd ⟨[v], []⟩ [("_law_script", v)]) ∧
    ∀ base : Heap, TabB base mg (He.cT K pC).1 (He.cT K pC).2 → FnOk PP w K mg base CX0 12 (He.ga K "law") fd ["_law_script"] (sp_law (ct PP w K (tabsH K) (adH K))) := by
  have T := topH X G c
  have hM := mokH (w := w) c
  have hK := bokH (w := w) c
  have XM := xmH X G c
  obtain ⟨any, EM, EB⟩ := exH_ok c.ex
  obtain ⟨fdL, FL⟩ := c.d.def_ 45 (d := d_law) rfl
  have bL := FunD.bindsA (ps := ["_law_script"]) FL fun _ _ _ _ _ _ us hl => match us, hl with | [_], _ => rfl
  refine ⟨fdL, fun s v => bL s [v] rfl, fun base TB => ?_⟩
  have R_MachineError := calR_ME (P := PP) (w := w) (base := base) EM c.im any T.n_super (by rfl) rfl (He.glo_ok X G (c.d.fact 67 (f := .glo "MachineError") rfl))
  have R_BookError := calR_BE (P := PP) (w := w) (base := base) EB c.ib any T.n_super (by rfl) rfl (He.glo_ok X G (c.d.fact 68 (f := .glo "BookError") rfl))
  obtain ⟨fd_d_reached_behind, F_d_reached_behind⟩ := c.d.def_ 0 (d := d_reached_behind) rfl
  have C_reached_behind := cal_reached_behind (P := PP) (w := w) (base := base) (tabs := tabsH K) (ad := adH K) T F_d_reached_behind (He.glo_ok X G (c.d.fact 19 (f := .glo "reached_behind") rfl))
  obtain ⟨fd_d_reached_in_front, F_d_reached_in_front⟩ := c.d.def_ 1 (d := d_reached_in_front) rfl
  have C_reached_in_front := cal_reached_in_front (P := PP) (w := w) (base := base) (tabs := tabsH K) (ad := adH K) T F_d_reached_in_front (He.glo_ok X G (c.d.fact 20 (f := .glo "reached_in_front") rfl))
  obtain ⟨fd_d_kept_rows, F_d_kept_rows⟩ := c.d.def_ 2 (d := d_kept_rows) rfl
  have C_kept_rows := cal_kept_rows (P := PP) (w := w) (base := base) (tabs := tabsH K) (ad := adH K) T F_d_kept_rows (He.glo_ok X G (c.d.fact 21 (f := .glo "kept_rows") rfl))
  obtain ⟨fd_d_numbered, F_d_numbered⟩ := c.d.def_ 3 (d := d_numbered) rfl
  have C_numbered := cal_numbered (P := PP) (w := w) (base := base) (tabs := tabsH K) (ad := adH K) T F_d_numbered (He.glo_ok X G (c.d.fact 22 (f := .glo "_numbered") rfl))
  obtain ⟨fd_d_classes, F_d_classes⟩ := c.d.def_ 4 (d := d_classes) rfl
  have C_classes := cal_classes (P := PP) (w := w) (base := base) (tabs := tabsH K) (ad := adH K) T F_d_classes (He.glo_ok X G (c.d.fact 23 (f := .glo "classes") rfl)) C_numbered
  obtain ⟨fd_d_chosen, F_d_chosen⟩ := c.d.def_ 5 (d := d_chosen) rfl
  have C_chosen := cal_chosen (P := PP) (w := w) (base := base) (tabs := tabsH K) (ad := adH K) T F_d_chosen (He.glo_ok X G (c.d.fact 24 (f := .glo "_chosen") rfl))
  obtain ⟨fd_d_least_parts, F_d_least_parts⟩ := c.d.def_ 6 (d := d_least_parts) rfl
  have C_least_parts := cal_least_parts (P := PP) (w := w) (base := base) (tabs := tabsH K) (ad := adH K) T F_d_least_parts (He.glo_ok X G (c.d.fact 25 (f := .glo "least_parts") rfl)) C_reached_behind C_reached_in_front C_kept_rows C_chosen C_classes
  obtain ⟨fd_d_is_alphabet, F_d_is_alphabet⟩ := c.d.def_ 7 (d := d_is_alphabet) rfl
  have C_is_alphabet := cal_is_alphabet (P := PP) (w := w) (base := base) (tabs := tabsH K) (ad := adH K) T F_d_is_alphabet (He.glo_ok X G (c.d.fact 26 (f := .glo "is_alphabet") rfl))
  obtain ⟨fd_d_is_word, F_d_is_word⟩ := c.d.def_ 8 (d := d_is_word) rfl
  have C_is_word := cal_is_word (P := PP) (w := w) (base := base) (tabs := tabsH K) (ad := adH K) T F_d_is_word (He.glo_ok X G (c.d.fact 27 (f := .glo "is_word") rfl))
  obtain ⟨fd_d_are_rows, F_d_are_rows⟩ := c.d.def_ 9 (d := d_are_rows) rfl
  have C_are_rows := cal_are_rows (P := PP) (w := w) (base := base) (tabs := tabsH K) (ad := adH K) T F_d_are_rows (He.glo_ok X G (c.d.fact 28 (f := .glo "_are_rows") rfl))
  obtain ⟨fd_d_is_table, F_d_is_table⟩ := c.d.def_ 10 (d := d_is_table) rfl
  have C_is_table := cal_is_table (P := PP) (w := w) (base := base) (tabs := tabsH K) (ad := adH K) T F_d_is_table (He.glo_ok X G (c.d.fact 29 (f := .glo "_is_table") rfl)) C_is_word
  obtain ⟨fd_d_form, F_d_form⟩ := c.d.def_ 11 (d := d_form) rfl
  have C_form := cal_form (P := PP) (w := w) (base := base) (tabs := tabsH K) (ad := adH K) T F_d_form (He.glo_ok X G (c.d.fact 30 (f := .glo "form") rfl)) hM
  obtain ⟨fd_d_left_onward, F_d_left_onward⟩ := c.d.def_ 15 (d := d_left_onward) rfl
  have C_left_onward := cal_left_onward (P := PP) (w := w) (base := base) (tabs := tabsH K) (ad := adH K) T F_d_left_onward (He.glo_ok X G (c.d.fact 34 (f := .glo "_left_onward") rfl)) hM
  obtain ⟨fd_d_right_onward, F_d_right_onward⟩ := c.d.def_ 16 (d := d_right_onward) rfl
  have C_right_onward := cal_right_onward (P := PP) (w := w) (base := base) (tabs := tabsH K) (ad := adH K) T F_d_right_onward (He.glo_ok X G (c.d.fact 35 (f := .glo "_right_onward") rfl)) hM
  obtain ⟨fd_d_letter, F_d_letter⟩ := c.d.def_ 17 (d := d_letter) rfl
  have C_letter := cal_letter (P := PP) (w := w) (base := base) (tabs := tabsH K) (ad := adH K) T F_d_letter (He.glo_ok X G (c.d.fact 36 (f := .glo "_letter") rfl)) hM
  obtain ⟨fd_d_told, F_d_told⟩ := c.d.def_ 20 (d := d_told) rfl
  have C_told := cal_told (P := PP) (w := w) (base := base) (tabs := tabsH K) (ad := adH K) T F_d_told (He.glo_ok X G (c.d.fact 39 (f := .glo "_told") rfl)) C_letter hM
  obtain ⟨fd_d_Machine___init__, F_d_Machine___init__⟩ := c.d.def_ 46 (d := d_Machine___init__) rfl
  have C_Machine := calM_Machine (P := PP) (w := w) (base := base) (tabs := tabsH K) (ad := adH K) hM T (He.mkr_ok (c.d.fact 71 (f := .mkr "Machine") rfl)) F_d_Machine___init__ (He.glo_ok X G (c.d.fact 65 (f := .glo "Machine") rfl)) C_is_alphabet C_are_rows C_is_table
  obtain ⟨fd_d_small_machine, F_d_small_machine⟩ := c.d.def_ 18 (d := d_small_machine) rfl
  have C_small_machine := cal_small_machine (P := PP) (w := w) (base := base) (tabs := tabsH K) (ad := adH K) T F_d_small_machine (He.glo_ok X G (c.d.fact 37 (f := .glo "small_machine") rfl)) C_least_parts C_Machine R_MachineError
  obtain ⟨fd_d_walked, F_d_walked⟩ := c.d.def_ 14 (d := d_walked) rfl
  have Fwx := fnc_walked (P := PP) (w := w) (base := base) (tabs := tabsH K) (ad := adH K) T F_d_walked R_MachineError C_left_onward C_right_onward
  obtain ⟨fd_d_Book___init__, F_d_Book___init__⟩ := c.d.def_ 47 (d := d_Book___init__) rfl
  have C_Book := calM_Book (P := PP) (w := w) (base := base) (tabs := tabsH K) (ad := adH K) hK T (He.mkr_ok (c.d.fact 72 (f := .mkr "Book") rfl)) F_d_Book___init__ (He.glo_ok X G (c.d.fact 66 (f := .glo "Book") rfl))
  obtain ⟨fd_d_Book__change, F_d_Book__change⟩ := c.d.def_ 48 (d := d_Book__change) rfl
  have C_Book__change := calT_change (P := PP) (w := w) (base := base) (tabs := tabsH K) (ad := adH K) hK T F_d_Book__change (He.meth_ok (c.d.fact 81 (f := .meth "Book" "_change") rfl))
  obtain ⟨fd_d_Book__require, F_d_Book__require⟩ := c.d.def_ 50 (d := d_Book__require) rfl
  have C_Book__require := calT__require (P := PP) (w := w) (base := base) (tabs := tabsH K) (ad := adH K) hK T F_d_Book__require (He.meth_ok (c.d.fact 83 (f := .meth "Book" "_require") rfl)) R_BookError
  obtain ⟨fd_d_law_cell, F_d_law_cell⟩ := c.d.def_ 26 (d := d_law_cell) rfl
  have C_law_cell := cal_law_cell (P := PP) (w := w) (base := base) (tabs := tabsH K) (ad := adH K) T F_d_law_cell (He.glo_ok X G (c.d.fact 45 (f := .glo "_law_cell") rfl))
  obtain ⟨fd_d_law_row, F_d_law_row⟩ := c.d.def_ 27 (d := d_law_row) rfl
  have C_law_row := cal_law_row (P := PP) (w := w) (base := base) (tabs := tabsH K) (ad := adH K) T F_d_law_row (He.glo_ok X G (c.d.fact 46 (f := .glo "_law_row") rfl)) C_law_cell
  obtain ⟨fd_d_law_draw, F_d_law_draw⟩ := c.d.def_ 28 (d := d_law_draw) rfl
  have C_law_draw := cal_law_draw (P := PP) (w := w) (base := base) (tabs := tabsH K) (ad := adH K) T F_d_law_draw (He.glo_ok X G (c.d.fact 47 (f := .glo "_law_draw") rfl))
  obtain ⟨fd_d_law_states, F_d_law_states⟩ := c.d.def_ 29 (d := d_law_states) rfl
  have C_law_states := cal_law_states (P := PP) (w := w) (base := base) (tabs := tabsH K) (ad := adH K) T F_d_law_states (He.glo_ok X G (c.d.fact 48 (f := .glo "_law_states") rfl)) C_law_draw
  obtain ⟨fd_d_law_machine, F_d_law_machine⟩ := c.d.def_ 30 (d := d_law_machine) rfl
  have C_law_machine := cal_law_machine (P := PP) (w := w) (base := base) (tabs := tabsH K) (ad := adH K) T F_d_law_machine (He.glo_ok X G (c.d.fact 49 (f := .glo "_law_machine") rfl)) C_law_draw C_law_states
  obtain ⟨fd_d_law_alphabet, F_d_law_alphabet⟩ := c.d.def_ 31 (d := d_law_alphabet) rfl
  have C_law_alphabet := cal_law_alphabet (P := PP) (w := w) (base := base) (tabs := tabsH K) (ad := adH K) T F_d_law_alphabet (He.glo_ok X G (c.d.fact 50 (f := .glo "_law_alphabet") rfl)) C_law_draw
  obtain ⟨fd_d_law_made, F_d_law_made⟩ := c.d.def_ 32 (d := d_law_made) rfl
  have C_law_made := cal_law_made (P := PP) (w := w) (base := base) (tabs := tabsH K) (ad := adH K) T F_d_law_made (He.glo_ok X G (c.d.fact 51 (f := .glo "_law_made") rfl)) C_Machine
  obtain ⟨fd_d_law_key, F_d_law_key⟩ := c.d.def_ 33 (d := d_law_key) rfl
  have C_law_key := cal_law_key (P := PP) (w := w) (base := base) (tabs := tabsH K) (ad := adH K) T F_d_law_key (He.glo_ok X G (c.d.fact 52 (f := .glo "_law_key") rfl))
  obtain ⟨fd_d_law_firsts, F_d_law_firsts⟩ := c.d.def_ 34 (d := d_law_firsts) rfl
  have C_law_firsts := cal_law_firsts (P := PP) (w := w) (base := base) (tabs := tabsH K) (ad := adH K) T F_d_law_firsts (He.glo_ok X G (c.d.fact 53 (f := .glo "_law_firsts") rfl)) C_law_key
  obtain ⟨fd_d_law_trim, F_d_law_trim⟩ := c.d.def_ 35 (d := d_law_trim) rfl
  have C_law_trim := cal_law_trim (P := PP) (w := w) (base := base) (tabs := tabsH K) (ad := adH K) T F_d_law_trim (He.glo_ok X G (c.d.fact 54 (f := .glo "_law_trim") rfl)) C_law_firsts
  obtain ⟨fd_d_law_classes, F_d_law_classes⟩ := c.d.def_ 36 (d := d_law_classes) rfl
  have C_law_classes := cal_law_classes (P := PP) (w := w) (base := base) (tabs := tabsH K) (ad := adH K) T F_d_law_classes (He.glo_ok X G (c.d.fact 55 (f := .glo "_law_classes") rfl))
  obtain ⟨fd_d_law_least, F_d_law_least⟩ := c.d.def_ 37 (d := d_law_least) rfl
  have C_law_least := cal_law_least (P := PP) (w := w) (base := base) (tabs := tabsH K) (ad := adH K) T F_d_law_least (He.glo_ok X G (c.d.fact 56 (f := .glo "_law_least") rfl)) C_law_trim C_law_classes
  obtain ⟨fd_d_law_grown, F_d_law_grown⟩ := c.d.def_ 38 (d := d_law_grown) rfl
  have C_law_grown := cal_law_grown (P := PP) (w := w) (base := base) (tabs := tabsH K) (ad := adH K) T F_d_law_grown (He.glo_ok X G (c.d.fact 57 (f := .glo "_law_grown") rfl))
  obtain ⟨fd_d_law_composed, F_d_law_composed⟩ := c.d.def_ 39 (d := d_law_composed) rfl
  have C_law_composed := cal_law_composed (P := PP) (w := w) (base := base) (tabs := tabsH K) (ad := adH K) T F_d_law_composed (He.glo_ok X G (c.d.fact 58 (f := .glo "_law_composed") rfl)) C_law_least C_law_grown
  obtain ⟨fd_d_law_fit, F_d_law_fit⟩ := c.d.def_ 40 (d := d_law_fit) rfl
  have C_law_fit := cal_law_fit (P := PP) (w := w) (base := base) (tabs := tabsH K) (ad := adH K) T F_d_law_fit (He.glo_ok X G (c.d.fact 59 (f := .glo "_law_fit") rfl)) C_law_machine
  obtain ⟨fd_d_law_whole, F_d_law_whole⟩ := c.d.def_ 41 (d := d_law_whole) rfl
  have C_law_whole := cal_law_whole (P := PP) (w := w) (base := base) (tabs := tabsH K) (ad := adH K) T F_d_law_whole (He.glo_ok X G (c.d.fact 60 (f := .glo "_law_whole") rfl)) C_law_least C_law_composed
  obtain ⟨fd_d_law_due_swap, F_d_law_due_swap⟩ := c.d.def_ 43 (d := d_law_due_swap) rfl
  have C_law_due_swap := cal_law_due_swap (P := PP) (w := w) (base := base) (tabs := tabsH K) (ad := adH K) T F_d_law_due_swap (He.glo_ok X G (c.d.fact 62 (f := .glo "_law_due_swap") rfl)) C_law_composed
  obtain ⟨fd_d_law_due_idle, F_d_law_due_idle⟩ := c.d.def_ 44 (d := d_law_due_idle) rfl
  have C_law_due_idle := cal_law_due_idle (P := PP) (w := w) (base := base) (tabs := tabsH K) (ad := adH K) T F_d_law_due_idle (He.glo_ok X G (c.d.fact 63 (f := .glo "_law_due_idle") rfl)) C_law_whole
  obtain ⟨fd_d_identity, F_d_identity⟩ := c.d.def_ 12 (d := d_identity) rfl
  have C_identity := cal_identity (P := PP) (w := w) (base := base) (tabs := tabsH K) (ad := adH K) T F_d_identity (He.glo_ok X G (c.d.fact 31 (f := .glo "identity") rfl)) C_Machine
  obtain ⟨fd_d_least, F_d_least⟩ := c.d.def_ 13 (d := d_least) rfl
  have C_least := cal_least (P := PP) (w := w) (base := base) (tabs := tabsH K) (ad := adH K) T F_d_least (He.glo_ok X G (c.d.fact 32 (f := .glo "least") rfl)) C_least_parts C_Machine hM
  obtain ⟨fd_d_copied, F_d_copied⟩ := c.d.def_ 24 (d := d_copied) rfl
  have C_copied := cal_copied (P := PP) (w := w) (base := base) (tabs := tabsH K) (ad := adH K) T F_d_copied (He.glo_ok X G (c.d.fact 43 (f := .glo "copied") rfl)) C_Machine hM
  obtain ⟨fd_d_compose, F_d_compose⟩ := c.d.def_ 19 (d := d_compose) rfl
  have C_compose := cal_compose (P := PP) (w := w) (base := base) (tabs := tabsH K) (ad := adH K) hM T F_d_compose (He.glo_ok X G (c.d.fact 38 (f := .glo "compose") rfl)) C_least C_told C_small_machine R_MachineError Fwx.1 (He.glo_ok X G (c.d.fact 33 (f := .glo "_walked") rfl)) Fwx.2.2 Fwx.2.1 TB (List.mem_cons_self) rfl rfl (fun p hp _ => by rw [List.mem_singleton.mp hp]) (codeC F_d_compose)
  obtain ⟨fd_d_Book_insert, F_d_Book_insert⟩ := c.d.def_ 49 (d := d_Book_insert) rfl
  have C_Book_insert := calT_insert (P := PP) (w := w) (base := base) (tabs := tabsH K) (ad := adH K) hM hK T F_d_Book_insert (He.meth_ok (c.d.fact 82 (f := .meth "Book" "insert") rfl)) C_copied C_Book__change
  obtain ⟨fd_d_cascade, F_d_cascade⟩ := c.d.def_ 21 (d := d_cascade) rfl
  have C_cascade := cal_cascade (P := PP) (w := w) (base := base) (tabs := tabsH K) (ad := adH K) T F_d_cascade (He.glo_ok X G (c.d.fact 40 (f := .glo "cascade") rfl)) C_least C_compose hM
  obtain ⟨fd_d_whole, F_d_whole⟩ := c.d.def_ 25 (d := d_whole) rfl
  have C_whole := cal_whole (P := PP) (w := w) (base := base) (tabs := tabsH K) (ad := adH K) T F_d_whole (He.glo_ok X G (c.d.fact 44 (f := .glo "_whole") rfl)) C_identity C_cascade
  obtain ⟨fd_d_both_orders, F_d_both_orders⟩ := c.d.def_ 22 (d := d_both_orders) rfl
  have C_both_orders := cal_both_orders (P := PP) (w := w) (base := base) (tabs := tabsH K) (ad := adH K) hM T F_d_both_orders (He.glo_ok X G (c.d.fact 41 (f := .glo "_both_orders") rfl)) C_compose R_MachineError
  obtain ⟨fd_d_Book_whole, F_d_Book_whole⟩ := c.d.def_ 51 (d := d_Book_whole) rfl
  have C_Book_whole := calT_whole (P := PP) (w := w) (base := base) (tabs := tabsH K) (ad := adH K) hK T F_d_Book_whole (He.meth_ok (c.d.fact 84 (f := .meth "Book" "whole") rfl)) C_whole
  obtain ⟨fd_d_Book_idle_passes, F_d_Book_idle_passes⟩ := c.d.def_ 53 (d := d_Book_idle_passes) rfl
  have C_Book_idle_passes := calT_idle_passes (P := PP) (w := w) (base := base) (tabs := tabsH K) (ad := adH K) hK T F_d_Book_idle_passes (He.meth_ok (c.d.fact 86 (f := .meth "Book" "idle_passes") rfl)) C_form C_whole C_Book_whole
  obtain ⟨fd_d_commutes, F_d_commutes⟩ := c.d.def_ 23 (d := d_commutes) rfl
  have C_commutes := cal_commutes (P := PP) (w := w) (base := base) (tabs := tabsH K) (ad := adH K) T F_d_commutes (He.glo_ok X G (c.d.fact 42 (f := .glo "commutes") rfl)) C_both_orders C_form hM
  obtain ⟨fd_d_Book_can_swap, F_d_Book_can_swap⟩ := c.d.def_ 52 (d := d_Book_can_swap) rfl
  have C_Book_can_swap := calT_can_swap (P := PP) (w := w) (base := base) (tabs := tabsH K) (ad := adH K) hK T F_d_Book_can_swap (He.meth_ok (c.d.fact 85 (f := .meth "Book" "can_swap") rfl)) C_commutes C_Book__require
  obtain ⟨fd_d_law_told, F_d_law_told⟩ := c.d.def_ 42 (d := d_law_told) rfl
  have C_law_told := cal_law_told (P := PP) (w := w) (base := base) (tabs := tabsH K) (ad := adH K) T F_d_law_told (He.glo_ok X G (c.d.fact 61 (f := .glo "_law_told") rfl)) C_Book_can_swap C_Book_idle_passes XM
  exact FL.ok sc_law (fun vs H Q E h => by
    obtain ⟨a, ns, G, rfl, _⟩ := h
    rfl) fun cdv A outer s H vs Q E hr h => ⟨_, PSs.nox (p_law (tabs := tabsH K) (ad := adH K) hr T C_law_row C_law_alphabet C_law_draw C_law_fit C_law_whole C_law_made C_law_due_swap C_law_told C_law_due_idle C_Book C_Book_insert), run_law (E' := E) rfl h⟩
end
end Fx
set_option maxHeartbeats 0
/-! text HeadE -/
namespace Fx
open PySem L2 Evl PyProof.Rows Mir MirL NdefX LamX
/-! ### the law's promise at the start -/
theorem spH {w : World} {K : PySem.W.Frag} {H : Hp} {a : Addr} {ns : List Int} (hT : H (He.cT K pC).2 = some (.tbl #[])) (hS : SqL K H a (ns.map V.int)) : sp_law (ct PP w K (tabsH K) (adH K)) [.ref a] H (fun v _ => v = .bl true) fun _ _ _ => False := by
  have tb : NdefX.TabsN (tabsH K) H := fun p hp => by
    rw [List.mem_singleton.mp hp]
    refine ⟨#[], hT, ?_, fun pos cv e => ?_⟩
    · exact (by first | exact .nil | exact True.intro | simp [TriplesOk])
    · cases e
  have one : ∀ o : HO, H a = some o → (∀ ps, o ≠ .tbl ps) → SqL K (upd (fun _ => none) a o) a (ns.map V.int) → sp_law (ct PP w K (tabsH K) (adH K)) [.ref a] H (fun v _ => v = .bl true) fun _ _ _ => False := fun o hl ht hq => by
    refine ⟨a, ns, upd (fun _ => none) a o, rfl, ⟨fun b u e => ?_, (fun b z => by cases z), tb, fun b ps e => ?_⟩, hq, fun _ => rfl⟩
    · by_cases hb : b = a
      · subst hb
        rw [upd_same] at e
        rw [hl]
        exact e
      · rw [upd_ne hb] at e
        cases e
    · by_cases hb : b = a
      · subst hb
        rw [upd_same] at e
        exact ht ps (Option.some.inj e)
      · rw [upd_ne hb] at e
        cases e
  rcases hS with (hl | ⟨o, hl⟩) | hk
  · exact one _ hl (fun ps z => by cases z) (.inl (.inl upd_same))
  · exact one _ hl (fun ps z => by cases z) (.inl (.inr ⟨o, upd_same⟩))
  · exact ⟨a, ns, fun _ => none, rfl, ⟨(fun b o e => by cases e), (fun b z => by cases z), tb, fun b ps e => by cases e⟩, .inr hk, fun _ => rfl⟩
theorem lawAt {w : World} {K : PySem.W.Frag} {mg : Str → Option Value} {h : Heap} {fa : Addr} (X : K.In h) (G : h.Ns mainGlobals mg) (c : SaysH h K) (hm : mg "law" = some (.ref fa)) :
    LamX.LawAtS PySem.Challenge.rw_foreaft_k63_swaps_and_idle_passes w K L2.CX0 12 63 "_law_script" mg fa h := by
  obtain ⟨fd, hb, hF⟩ := factsH (w := w) X G c
  have e := hm.symm.trans (He.glo_ok X G (c.d.fact 64 (f := .glo "law") rfl))
  cases e
  refine ⟨fd, [He.cT K pC], sp_law (ct PP w K (tabsH K) (adH K)), fun p hp => ?_, fun p hp => ?_, fun p hp => ?_, hb, fun H a ns _ _ hT hS => spH (hT _ List.mem_cons_self) hS, fun base _ _ hB => hF base (hB _ List.mem_cons_self)⟩
  · rw [List.mem_singleton.mp hp]; exact c.empty
  · rw [List.mem_singleton.mp hp]; exact c.out
  · rw [List.mem_singleton.mp hp]; exact PySem.W.codeHd_of_K X c.hd
end Fx
open PySem PySem.W PySem.Calls PyProof.Rows
theorem PySem.Challenge.cw_foreaft_k63_swaps_and_idle_passes_holds : PySem.Challenge.rw_foreaft_k63_swaps_and_idle_passes.Holds := by
  w_on; o_law
  refine HandSHeadRun.head_any (r := OpenLaw.row PySem.Challenge.rw_foreaft_k63_swaps_and_idle_passes) (q := view (OpenLaw.row PySem.Challenge.rw_foreaft_k63_swaps_and_idle_passes).prog [65]) (H := Fx.hookH) (ob := Fx.obH) (M := 4000) (loose := Fx.namesH) (d := HandSHeadRun.topDef (OpenLaw.row PySem.Challenge.rw_foreaft_k63_swaps_and_idle_passes).prog 65) (kwd := []) Fx.obH_eq
    (by kernel_rfl) (fun s => by kernel_rfl) Fx.runH (by kernel_rfl) (by kernel_rfl) (by kernel_rfl) (by rfl) (by first | assumption | decide +kernel) (by decide +kernel) ⟨rfl, rfl, rfl, rfl, rfl, by decide +kernel⟩ ?hw ?hc
  case hw => w_witness2
  case hc =>
    refine LamX.walk_ofTsE (l := PySem.Challenge.rw_foreaft_k63_swaps_and_idle_passes) (n := 63) (k := 12) (x := "_law_script") (CX := fun _ => L2.CX0) rfl (by decide) (by kernel_rfl) ⟨rfl, by decide, by decide⟩ ?F (fun _ _ _ _ _ z => z)
    intro w mg fa h Y G hmg0
    obtain ⟨K, KX, c⟩ := Y
    have hmg : mg ("law" : PySem.Str) = some (.ref fa) := by
      have e : (HandSHeadRun.topDef (OpenLaw.row PySem.Challenge.rw_foreaft_k63_swaps_and_idle_passes).prog 65).name = ("law" : PySem.Str) := by kernel_rfl
      rw [← e]
      exact hmg0
    exact ⟨K, KX, Fx.lawAt KX G c hmg⟩
