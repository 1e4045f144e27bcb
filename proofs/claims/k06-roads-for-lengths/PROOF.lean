import PyProof.Rows.All
import Wide.All
import OpenK.AllK
import Wide.FinOn
import HandS.ForMost
import HandS.Deep
import HandS.Wide
import HandS.Walk
import HandS.Conv
import HandS.Zip
import HandS.Lambda
import HandS.EndBits
import HandS.TupAny
import HandS.TupMul
import HandS.TupLe
import HandS.Small
import HandS.IsInst
import HandS.More
import HandS.SortInts
import KE.SortData
import PyProof.ReprRoads
import PyProof.FitsInt
import HandS.EndTab
import HandS.SetFor
import KE.GoesEnum
import KE.DataMinMax
import KE.SortKeyHeap
import KE.KSortKey
import HandS.ExcValue
import HandS.Style
import PySem.Challenge.RW_roughroads_k06_roads_for_lengths
set_option Elab.async false
set_option linter.all false
set_option maxRecDepth 100000
set_option autoImplicit false
namespace Pv
open PySem PySem.Spec L2

/-- a value as a tree; hd n: the n-th mutable cell -/
inductive D where
  | non | bl (b : Bool) | int (i : Int) | str (x : Str)
  | tup (xs : List D) | lst (xs : List D) | dct (t : Bool) (kvs : List (D × D)) | hd (n : Nat)
  /-- the script -/
  | scr (ns : List Int)
inductive Slot where
  | non | fro (d : D) | own (d : D)
inductive Cell where
  | d (d : D) | obj (C : Addr) (fs : List (Str × D))
structure Sg where
  env : List Slot
  st : List Cell
inductive RV where
  | fro (d : D) | own (d : D)
def RV.d : RV → D
  | .fro d => d
  | .own d => d

def kD : Key → D
  | .inl i => .int i
  | .inr x => .str x

mutual
inductive Rep (K : PySem.W.Frag) (φ : List Addr) (G : Hp) : V → D → Prop
  | non : Rep K φ G .non .non
  | bl (b : Bool) : Rep K φ G (.bl b) (.bl b)
  | int (i : Int) : Rep K φ G (.int i) (.int i)
  | str (x : Str) : Rep K φ G (.str x) (.str x)
  | tup {a : Addr} {xs : List V} {ds : List D} : G a = some (.tup xs) → RepA K φ G xs ds → Rep K φ G (.ref a) (.tup ds)
  | lst {a : Addr} {xs : List V} {ds : List D} : G a = some (.lst xs) → RepA K φ G xs ds → Rep K φ G (.ref a) (.lst ds)
  | dK {a : Addr} {kvs : List (Key × V)} {ds : List (D × D)} : Rd G a (.dK kvs) → RepK K φ G kvs ds → Rep K φ G (.ref a) (.dct false ds)
  | dT {a : Addr} {kvs : List (List Key × V)} {ds : List (D × D)} : Rd G a (.dT kvs) → RepT K φ G kvs ds → Rep K φ G (.ref a) (.dct true ds)
  | hd {a : Addr} {n : Nat} : φ[n]? = some a → Rep K φ G (.ref a) (.hd n)
  | scr {a : Addr} {ns : List Int} : SqL K G a (ns.map V.int) → Rep K φ G (.ref a) (.scr ns)
inductive RepA (K : PySem.W.Frag) (φ : List Addr) (G : Hp) : List V → List D → Prop
  | nil : RepA K φ G [] []
  | cons {v : V} {vs : List V} {d : D} {ds : List D} : Rep K φ G v d → RepA K φ G vs ds → RepA K φ G (v :: vs) (d :: ds)
inductive RepK (K : PySem.W.Frag) (φ : List Addr) (G : Hp) : List (Key × V) → List (D × D) → Prop
  | nil : RepK K φ G [] []
  | cons {k : Key} {v : V} {vs : List (Key × V)} {d : D} {ds : List (D × D)} : Rep K φ G v d → RepK K φ G vs ds → RepK K φ G ((k, v) :: vs) ((kD k, d) :: ds)
inductive RepT (K : PySem.W.Frag) (φ : List Addr) (G : Hp) : List (List Key × V) → List (D × D) → Prop
  | nil : RepT K φ G [] []
  | cons {k : List Key} {v : V} {vs : List (List Key × V)} {d : D} {ds : List (D × D)} : Rep K φ G v d → RepT K φ G vs ds → RepT K φ G ((k, v) :: vs) ((.tup (k.map kD), d) :: ds)
end

theorem rd_mono {G G' : Hp} (h : Same G G') {a : Addr} {u : HO} : Rd G a u → Rd G' a u
  | .inl e => .inl (h _ _ e)
  | .inr ⟨o, e⟩ => .inr ⟨o, h _ _ e⟩
theorem sqL_mono {K : PySem.W.Frag} {G G' : Hp} (h : Same G G') {a : Addr} {xs : List V} : SqL K G a xs → SqL K G' a xs
  | .inl e => .inl (rd_mono h e)
  | .inr e => .inr e
theorem sqT_mono {K : PySem.W.Frag} {G G' : Hp} (h : Same G G') {a : Addr} {xs : List V} : SqT K G a xs → SqT K G' a xs
  | .inl e => .inl (rd_mono h e)
  | .inr e => .inr e
theorem pre_get {φ φ' : List Addr} (h : φ <+: φ') {n : Nat} {a : Addr} (e : φ[n]? = some a) : φ'[n]? = some a := by
  obtain ⟨t, rfl⟩ := h
  rw [List.getElem?_append_left]
  · exact e
  · exact (List.getElem?_eq_some_iff.mp e).1

section
variable {K : PySem.W.Frag} {φ φ' : List Addr} {G G' : Hp}
mutual
theorem Rep.mono (h : Same G G') (p : φ <+: φ') : ∀ {v d}, Rep K φ G v d → Rep K φ' G' v d
  | _, _, .non => .non
  | _, _, .bl b => .bl b
  | _, _, .int b => .int b
  | _, _, .str b => .str b
  | _, _, .tup s a => .tup (h _ _ s) (RepA.mono h p a)
  | _, _, .lst s a => .lst (h _ _ s) (RepA.mono h p a)
  | _, _, .dK s a => .dK (rd_mono h s) (RepK.mono h p a)
  | _, _, .dT s a => .dT (rd_mono h s) (RepT.mono h p a)
  | _, _, .hd e => .hd (pre_get p e)
  | _, _, .scr e => .scr (sqL_mono h e)
theorem RepA.mono (h : Same G G') (p : φ <+: φ') : ∀ {v d}, RepA K φ G v d → RepA K φ' G' v d
  | _, _, .nil => .nil
  | _, _, .cons a b => .cons (Rep.mono h p a) (RepA.mono h p b)
theorem RepK.mono (h : Same G G') (p : φ <+: φ') : ∀ {v d}, RepK K φ G v d → RepK K φ' G' v d
  | _, _, .nil => .nil
  | _, _, .cons a b => .cons (Rep.mono h p a) (RepK.mono h p b)
theorem RepT.mono (h : Same G G') (p : φ <+: φ') : ∀ {v d}, RepT K φ G v d → RepT K φ' G' v d
  | _, _, .nil => .nil
  | _, _, .cons a b => .cons (Rep.mono h p a) (RepT.mono h p b)
end
end

/-- what stands at an own address -/
inductive Own (K : PySem.W.Frag) (φ : List Addr) (G : Hp) : HO → D → Prop
  | lst {xs ds} : RepA K φ G xs ds → Own K φ G (.lst xs) (.lst ds)
  | dK {kvs ds} : RepK K φ G kvs ds → Own K φ G (.dK kvs) (.dct false ds)
  | dT {kvs ds} : RepT K φ G kvs ds → Own K φ G (.dT kvs) (.dct true ds)
theorem Own.mono {K : PySem.W.Frag} {φ φ' : List Addr} {G G' : Hp} (h : Same G G') (p : φ <+: φ') {o d} : Own K φ G o d → Own K φ' G' o d
  | .lst a => .lst (a.mono h p)
  | .dK a => .dK (a.mono h p)
  | .dT a => .dT (a.mono h p)
theorem Own.rep {K : PySem.W.Frag} {φ : List Addr} {G H : Hp} (h : Same G H) {o d a} (e : H a = some o) : Own K φ G o d → Rep K φ H (.ref a) d
  | .lst r => .lst e (r.mono h (List.prefix_refl _))
  | .dK r => .dK (.inl e) (r.mono h (List.prefix_refl _))
  | .dT r => .dT (.inl e) (r.mono h (List.prefix_refl _))
inductive FsRep (K : PySem.W.Frag) (φ : List Addr) (G : Hp) : List (Str × V) → List (Str × D) → Prop
  | nil : FsRep K φ G [] []
  | cons {k v vs d ds} : Rep K φ G v d → FsRep K φ G vs ds → FsRep K φ G ((k, v) :: vs) ((k, d) :: ds)
theorem FsRep.mono {K : PySem.W.Frag} {φ φ' : List Addr} {G G' : Hp} (h : Same G G') (p : φ <+: φ') : ∀ {o d}, FsRep K φ G o d → FsRep K φ' G' o d
  | _, _, .nil => .nil
  | _, _, .cons a b => .cons (a.mono h p) (b.mono h p)
inductive CellAt (K : PySem.W.Frag) (φ : List Addr) (G : Hp) : HO → Cell → Prop
  | d {o x} : Own K φ G o x → CellAt K φ G o (.d x)
  | obj {C dx fs ds} : FsRep K φ G fs ds → CellAt K φ G (.ins C dx fs) (.obj C ds)
theorem CellAt.mono {K : PySem.W.Frag} {φ φ' : List Addr} {G G' : Hp} (h : Same G G') (p : φ <+: φ') {o d} : CellAt K φ G o d → CellAt K φ' G' o d
  | .d a => .d (a.mono h p)
  | .obj a => .obj (a.mono h p)

/-- the tables of code objects that the law uses, each with the name of what it holds -/
class TabL where
  tl : List (Addr × Str)
variable [TabL]
/-- no table of code objects -/
def NoTab (o : HO) : Prop := ∀ ps, o ≠ .tbl ps
/-- the heap grew; tables may have grown, too -/
structure ExtT (H H' : Hp) : Prop where
  st : ∀ b o, H b = some o → NoTab o → H' b = some o
  on : ∀ b, H' b = none → H b = none
  tb : LamX.Tabs TabL.tl H → LamX.Tabs TabL.tl H'
theorem ExtT.of {H H' : Hp} (h : Same H H') : ExtT H H' := ⟨fun b o e _ => h b o e, fun b e => h.free e, fun t => t.ext h⟩
theorem ExtT.refl (H : Hp) : ExtT H H := .of (Same.refl H)
theorem ExtT.trans {H H1 H2 : Hp} (a : ExtT H H1) (b : ExtT H1 H2) : ExtT H H2 := ⟨fun c o e n => b.st c o (a.st c o e n) n, fun c e => a.on c (b.on c e), fun t => b.tb (a.tb t)⟩
theorem ExtT.free {H H' : Hp} {a : Addr} (h : ExtT H H') (e : H' a = none) : H a = none := h.on a e
theorem Own.nt {K : PySem.W.Frag} {φ : List Addr} {G : Hp} {o : HO} {d : D} (h : Own K φ G o d) : NoTab o := fun ps e => by cases h <;> cases e
theorem CellAt.nt {K : PySem.W.Frag} {φ : List Addr} {G : Hp} {o : HO} {c : Cell} (h : CellAt K φ G o c) : NoTab o := by
  cases h with
  | d a => exact a.nt
  | obj a => exact fun ps e => by cases e
/-- the tables stand, and are not frozen -/
def TabG (G H : Hp) : Prop := LamX.Tabs TabL.tl H ∧ ∀ p ∈ TabL.tl, G p.1 = none
theorem TabG.grow {G H G' H' : Hp} (t : TabG G H) (x : LamX.Tabs TabL.tl H → LamX.Tabs TabL.tl H') (n : ∀ a o, G' a = some o → G a = some o ∨ H a = none) : TabG G' H' := by
  refine ⟨x t.1, fun p hp => ?_⟩
  cases e : G' p.1 with
  | none => rfl
  | some o =>
    rcases n _ _ e with z | z
    · rw [t.2 p hp] at z; cases z
    · obtain ⟨ps, y, _⟩ := t.1 p hp
      rw [z] at y; cases y
theorem TabG.set {G H : Hp} {a : Addr} {o o' : HO} (t : TabG G H) (e : H a = some o) (nt : NoTab o) : TabG (upd G a o') H := by
  refine ⟨t.1, fun p hp => ?_⟩
  have ne : p.1 ≠ a := fun z => by
    obtain ⟨ps, y, _⟩ := t.1 p hp
    rw [z, e] at y
    exact nt ps (Option.some.inj y)
  rw [upd_ne ne]
  exact t.2 p hp
/-- what is fixed while a body (or a block) runs: F: what must stay, U: what was there, Z: what is hidden, G0, φ0: at the entry -/
structure Gh where
  K : PySem.W.Frag
  F : Hp
  U : Addr → Prop
  Z : Addr → Prop
  G0 : Hp
  φ0 : List Addr

structure Rel (g : Gh) (G : Hp) (φ : List Addr) (s : Sg) (σ : St) (H : Hp) : Prop where
  sub : Same G H
  g0 : Same g.G0 G
  new : ∀ a o, G a = some o → g.G0 a = some o ∨ ¬ g.U a
  old : Same g.F H
  use : ∀ a, g.U a → H a ≠ none
  zed : ∀ a, g.Z a → G a = none ∧ g.F a ≠ none
  pre : g.φ0 <+: φ
  len : s.env.length = σ.length
  fro : ∀ (i : Nat) d, s.env[i]? = some (Slot.fro d) → ∃ v, σ[i]? = some (some v) ∧ Rep g.K φ G v d
  own : ∀ (i : Nat) d, s.env[i]? = some (Slot.own d) → ∃ p o, σ[i]? = some (some (V.ref p)) ∧ H p = some o ∧ Own g.K φ G o d ∧ G p = none ∧ g.F p = none ∧ ¬ g.U p ∧ p ∉ φ
  sep : ∀ (i j : Nat) d e p, i ≠ j → s.env[i]? = some (Slot.own d) → s.env[j]? = some (Slot.own e) → σ[i]? = some (some (V.ref p)) → σ[j]? ≠ some (some (V.ref p))
  clen : s.st.length = φ.length
  cell : ∀ (n : Nat) a c, φ[n]? = some a → s.st[n]? = some c → ∃ o, H a = some o ∧ CellAt g.K φ G o c ∧ G a = none ∧ g.F a = none ∧ (a ∈ g.φ0 ∨ ¬ g.U a)
  nd : φ.Nodup
  nt : ∀ b o, g.F b = some o → NoTab o
  tab : TabG G H

/-- the heap grew; what is new in G was not there -/
structure Grow (G H G' H' : Hp) : Prop where
  hh : ExtT H H'
  gg : Same G G'
  gh : Same G' H'
  new : ∀ a o, G' a = some o → G a = some o ∨ H a = none
theorem Grow.refl {G H : Hp} (h : Same G H) : Grow G H G H := ⟨ExtT.refl _, Same.refl _, h, fun _ _ e => .inl e⟩
theorem Grow.trans {G H G1 H1 G2 H2 : Hp} (a : Grow G H G1 H1) (b : Grow G1 H1 G2 H2) : Grow G H G2 H2 :=
  ⟨a.hh.trans b.hh, a.gg.trans b.gg, b.gh, fun x o e => by
    rcases b.new x o e with e | e
    · exact a.new x o e
    · exact .inr (a.hh.free e)⟩
theorem same_upd {H : Hp} {p : Addr} {o : HO} (h : H p = none) : Same H (upd H p o) := fun b x e => by
  rw [upd_ne (ne_of_none e h)]
  exact e
theorem upd_mono {G H : Hp} (h : Same G H) {p : Addr} {o : HO} : Same (upd G p o) (upd H p o) := fun b x e => by
  by_cases hb : b = p
  · subst hb; rw [upd_same] at e ⊢; exact e
  · rw [upd_ne hb] at e ⊢; exact h _ _ e
/-- a new thing that goes into G at once -/
theorem Grow.laid {G H : Hp} (h : Same G H) {p : Addr} {o : HO} (hp : H p = none) : Grow G H (upd G p o) (upd H p o) := by
  have gp : G p = none := h.free hp
  refine ⟨.of (same_upd hp), same_upd gp, upd_mono h, fun a x e => ?_⟩
  by_cases ha : a = p
  · subst ha; exact .inr hp
  · rw [upd_ne ha] at e; exact .inl e
/-- a new thing that stays out of G -/
theorem Grow.aside {G H : Hp} (h : Same G H) {p : Addr} {o : HO} (hp : H p = none) : Grow G H G (upd H p o) :=
  ⟨.of (same_upd hp), Same.refl _, h.trans (same_upd hp), fun _ _ e => .inl e⟩

section
variable {g : Gh} {G G' : Hp} {φ : List Addr} {s : Sg} {σ : St} {H H' : Hp}
theorem Rel.grow (R : Rel g G φ s σ H) (x : Grow G H G' H') : Rel g G' φ s σ H' := by
  have gn : ∀ p, G p = none → (∃ o, H p = some o) → G' p = none := fun p h1 ⟨o, h2⟩ => by
    cases q : G' p with
    | none => rfl
    | some u =>
      rcases x.new p u q with e | e
      · rw [h1] at e; cases e
      · rw [h2] at e; cases e
  refine ⟨x.gh, R.g0.trans x.gg, fun a o e => ?_, fun b o e => x.hh.st b o (R.old b o e) (R.nt b o e), fun a u h => R.use a u (x.hh.free h), fun a z => ⟨?_, (R.zed a z).2⟩, R.pre, R.len, fun i d e => ?_, fun i d e => ?_, R.sep, R.clen, fun n a c e1 e2 => ?_, R.nd, R.nt, R.tab.grow x.hh.tb x.new⟩
  · rcases x.new a o e with e | e
    · exact R.new a o e
    · exact .inr fun u => R.use a u e
  · cases q : g.F a with
    | none => exact absurd q (R.zed a z).2
    | some o => exact gn a (R.zed a z).1 ⟨o, R.old a o q⟩
  · obtain ⟨v, h1, h2⟩ := R.fro i d e
    exact ⟨v, h1, h2.mono x.gg (List.prefix_refl _)⟩
  · obtain ⟨p, o, h1, h2, h3, h4, h5, h6, h7⟩ := R.own i d e
    exact ⟨p, o, h1, x.hh.st _ _ h2 h3.nt, h3.mono x.gg (List.prefix_refl _), gn p h4 ⟨o, h2⟩, h5, h6, h7⟩
  · obtain ⟨o, h1, h2, h3, h4, h5⟩ := R.cell n a c e1 e2
    exact ⟨o, x.hh.st _ _ h1 h2.nt, h2.mono x.gg (List.prefix_refl _), gn a h3 ⟨o, h1⟩, h4, h5⟩

/-- an own thing that no slot holds yet -/
structure Fresh (g : Gh) (G : Hp) (φ : List Addr) (s : Sg) (σ : St) (H : Hp) (p : Addr) (o : HO) (d : D) : Prop where
  at_ : H p = some o
  own : Own g.K φ G o d
  gp : G p = none
  fp : g.F p = none
  up : ¬ g.U p
  ph : p ∉ φ
  sl : ∀ (i : Nat) e, s.env[i]? = some (Slot.own e) → σ[i]? ≠ some (some (V.ref p))
theorem Fresh.of_new {p : Addr} {o : HO} {d : D} (R : Rel g G φ s σ H) (x : Grow G H G' H') (hp : H p = none) (h' : H' p = some o) (gp : G' p = none) (w : Own g.K φ G' o d) : Fresh g G' φ s σ H' p o d := by
  refine ⟨h', w, gp, R.old.free hp, fun u => R.use p u hp, fun hm => ?_, fun i e h1 h2 => ?_⟩
  · obtain ⟨n, hn⟩ := List.getElem?_of_mem hm
    have hl : n < s.st.length := by rw [R.clen]; exact (List.getElem?_eq_some_iff.mp hn).1
    obtain ⟨o', e, _⟩ := R.cell n p _ hn (List.getElem?_eq_getElem hl)
    rw [hp] at e; cases e
  · obtain ⟨q, o', e1, e2, _⟩ := R.own i e h1
    rw [h2] at e1
    cases e1
    rw [hp] at e2; cases e2
/-- a fresh thing is frozen -/
theorem Rel.freeze {p : Addr} {o : HO} {d : D} (R : Rel g G φ s σ H) (F : Fresh g G φ s σ H p o d) : Rel g (upd G p o) φ s σ H ∧ Same G (upd G p o) ∧ Rep g.K φ (upd G p o) (.ref p) d := by
  have sm : Same G (upd G p o) := same_upd F.gp
  refine ⟨⟨fun a x e => ?_, R.g0.trans sm, fun a x e => ?_, R.old, R.use, fun a z => ⟨?_, (R.zed a z).2⟩, R.pre, R.len, fun i d e => ?_, fun i d e => ?_, R.sep, R.clen, fun n a c e1 e2 => ?_, R.nd, R.nt, R.tab.set F.at_ F.own.nt⟩, sm, ?_⟩
  · by_cases ha : a = p
    · subst ha; rw [upd_same] at e; cases e; exact F.at_
    · rw [upd_ne ha] at e; exact R.sub a x e
  · by_cases ha : a = p
    · subst ha; exact .inr F.up
    · rw [upd_ne ha] at e; exact R.new a x e
  · rw [upd_ne (by rintro rfl; exact (R.zed a z).2 F.fp)]
    exact (R.zed a z).1
  · obtain ⟨v, h1, h2⟩ := R.fro i d e
    exact ⟨v, h1, h2.mono sm (List.prefix_refl _)⟩
  · obtain ⟨q, o', h1, h2, h3, h4, h5, h6, h7⟩ := R.own i d e
    refine ⟨q, o', h1, h2, h3.mono sm (List.prefix_refl _), ?_, h5, h6, h7⟩
    rw [upd_ne (by rintro rfl; exact F.sl i d e h1)]
    exact h4
  · obtain ⟨o', h1, h2, h3, h4, h5⟩ := R.cell n a c e1 e2
    refine ⟨o', h1, h2.mono sm (List.prefix_refl _), ?_, h4, h5⟩
    rw [upd_ne (by rintro rfl; exact F.ph (List.mem_of_getElem? e1))]
    exact h3
  · exact F.own.rep (H := upd G p o) sm upd_same
end
end Pv

namespace Pv
open PySem PySem.Spec L2
variable [TabL]

theorem pe_imp {X : Cx} {e : Expr} {t t' : TE} (h : PE X e t) (f : ∀ σ H Q, t' σ H Q → t σ H Q) : PE X e t' := ⟨fun pins s σ H Q I q => h.run pins s σ H Q I (f _ _ _ q)⟩
theorem pt_imp {X : Cx} {e : Expr} {t t' : TT} (h : PT X e t) (f : ∀ σ H Q, t' σ H Q → t σ H Q) : PT X e t' := ⟨fun pins s σ H Q I q => h.run pins s σ H Q I (f _ _ _ q)⟩
theorem pw_imp {X : Cx} {e : Expr} {t t' : TT} (h : PW X e t) (f : ∀ σ H Q, t' σ H Q → t σ H Q) : PW X e t' := ⟨fun wh pins s σ H Q I q => h.run wh pins s σ H Q I (f _ _ _ q)⟩
theorem pa_imp {X : Cx} {e : List Expr} {t t' : TA} (h : PA X e t) (f : ∀ σ H Q, t' σ H Q → t σ H Q) : PA X e t' := ⟨fun pos pins s σ H Q I q => h.run pos pins s σ H Q I (f _ _ _ q)⟩
theorem ps_imp {X : Cx} {e : Stmt} {t t' : TS} (h : PS X e t) (f : ∀ D σ H, t' D σ H → t D σ H) : PS X e t' := ⟨fun pins s σ H D I q => h.run pins s σ H D I (f _ _ _ q)⟩
theorem pss_imp {X : Cx} {e : List Stmt} {t t' : TS} (h : PSs X e t) (f : ∀ D σ H, t' D σ H → t D σ H) : PSs X e t' := ⟨fun pins s σ H D I q => h.run pins s σ H D I (f _ _ _ q)⟩

/-- what a result is -/
inductive Res (g : Gh) (G : Hp) (φ : List Addr) (s : Sg) (σ : St) (H : Hp) : V → RV → Prop
  | fro {v d} : Rep g.K φ G v d → Res g G φ s σ H v (.fro d)
  | own {p o d} : Fresh g G φ s σ H p o d → Res g G φ s σ H (.ref p) (.own d)

abbrev Ev (α : Type) := Sg → Option (α × Sg)
def tR (K : PySem.W.Frag) (ev : Ev RV) : TE := fun σ H Q => ∃ g G φ s r s', g.K = K ∧ Rel g G φ s σ H ∧ ev s = some (r, s') ∧
  ∀ G' φ' H' v, Rel g G' φ' s' σ H' → Same G G' → φ <+: φ' → Res g G' φ' s' σ H' v r → Q v H'
def SR (X : Cx) (e : Expr) (ev : Ev RV) : Prop := PE X e (tR X.K ev)

/-- an operand: a tree, or a name's slot -/
inductive Bor where
  | val (d : D) | slot (i : Nat)
def BorRep (K : PySem.W.Frag) (φ : List Addr) (G : Hp) (σ : St) (v : V) : Bor → Prop
  | .val d => Rep K φ G v d
  | .slot i => σ[i]? = some (some v)
theorem BorRep.mono {K : PySem.W.Frag} {φ φ' : List Addr} {G G' : Hp} {σ : St} {v : V} (h : Same G G') (p : φ <+: φ') : ∀ {b : Bor}, BorRep K φ G σ v b → BorRep K φ' G' σ v b
  | .val _, r => Rep.mono h p r
  | .slot _, r => r
def tO (K : PySem.W.Frag) (ev : Ev Bor) : TE := fun σ H Q => ∃ g G φ s r s', g.K = K ∧ Rel g G φ s σ H ∧ ev s = some (r, s') ∧
  ∀ G' φ' H' v, Rel g G' φ' s' σ H' → Same G G' → φ <+: φ' → BorRep g.K φ' G' σ v r → Q v H'
def SB (X : Cx) (e : Expr) (ev : Ev Bor) : Prop := PE X e (tO X.K ev)
def evV (ev : Ev RV) : Ev Bor := fun s => (ev s).map fun p => (.val p.1.d, p.2)
theorem Res.froz {g : Gh} {G : Hp} {φ : List Addr} {s : Sg} {σ : St} {H : Hp} {v : V} {r : RV} (R : Rel g G φ s σ H) (x : Res g G φ s σ H v r) : ∃ G', Rel g G' φ s σ H ∧ Same G G' ∧ Rep g.K φ G' v r.d := by
  cases x with
  | fro h => exact ⟨G, R, Same.refl _, h⟩
  | own F => exact ⟨_, R.freeze F⟩
theorem sb_of {X : Cx} {e : Expr} {ev : Ev RV} (h : SR X e ev) : SB X e (evV ev) := pe_imp h fun σ H Q ⟨g, G, φ, s, r, s', hK, R, he, q⟩ => by
  unfold evV at he
  cases e1 : ev s with
  | none => rw [e1] at he; cases he
  | some p =>
    rw [e1] at he
    cases he
    refine ⟨g, G, φ, s, p.1, p.2, hK, R, e1, fun G' φ' H' v R' h1 h2 x => ?_⟩
    obtain ⟨G2, R2, h3, rp⟩ := x.froz R'
    exact q G2 φ' H' v R2 (h1.trans h3) h2 rp

/-- a list of frozen values -/
def tAs (K : PySem.W.Frag) (ev : Ev (List D)) : TA := fun σ H Q => ∃ g G φ s r s', g.K = K ∧ Rel g G φ s σ H ∧ ev s = some (r, s') ∧
  ∀ G' φ' H' v, Rel g G' φ' s' σ H' → Same G G' → φ <+: φ' → RepA g.K φ' G' v r → Q v H'
def SA (X : Cx) (es : List Expr) (ev : Ev (List D)) : Prop := PA X es (tAs X.K ev)
def evNil : Ev (List D) := fun s => some ([], s)
def evCons (a : Ev RV) (b : Ev (List D)) : Ev (List D) := fun s => (a s).bind fun p => (b p.2).map fun q => (p.1.d :: q.1, q.2)
theorem sa_nil {X : Cx} : SA X [] evNil := pa_imp pa_nil fun σ H Q ⟨g, G, φ, s, r, s', hK, R, he, q⟩ => by
  cases he
  exact q G φ H [] R (Same.refl _) (List.prefix_refl _) .nil
theorem sa_cons {X : Cx} {e : Expr} {es : List Expr} {a : Ev RV} {b : Ev (List D)} (ha : SR X e a) (hb : SA X es b) (hs : starEach (e :: es) X.env = (false, eval e X.env) :: starEach es X.env := by rfl) : SA X (e :: es) (evCons a b) :=
  pa_imp (pa_cons ha hb hs) fun σ H Q ⟨g, G, φ, s, r, s', hK, R, he, q⟩ => by
    unfold evCons at he
    cases e1 : a s with
    | none => rw [e1] at he; cases he
    | some p =>
      rw [e1] at he
      simp only [Option.bind_some] at he
      cases e2 : b p.2 with
      | none => rw [e2] at he; cases he
      | some y =>
        rw [e2] at he
        cases he
        refine ⟨g, G, φ, s, p.1, p.2, hK, R, e1, fun G1 φ1 H1 v R1 h1 h2 x => ?_⟩
        obtain ⟨G2, R2, h3, rp⟩ := x.froz R1
        refine ⟨g, G2, φ1, p.2, y.1, y.2, hK, R2, e2, fun G3 φ3 H3 vs R3 h4 h5 ra => ?_⟩
        exact q G3 φ3 H3 (v :: vs) R3 ((h1.trans h3).trans h4) (h2.trans h5) (.cons (rp.mono h4 h5) ra)
/-- a list of operands -/
inductive BorAll (K : PySem.W.Frag) (φ : List Addr) (G : Hp) (σ : St) : List V → List Bor → Prop
  | nil : BorAll K φ G σ [] []
  | cons {v vs b bs} : BorRep K φ G σ v b → BorAll K φ G σ vs bs → BorAll K φ G σ (v :: vs) (b :: bs)
def tOs (K : PySem.W.Frag) (ev : Ev (List Bor)) : TA := fun σ H Q => ∃ g G φ s r s', g.K = K ∧ Rel g G φ s σ H ∧ ev s = some (r, s') ∧
  ∀ G' φ' H' v, Rel g G' φ' s' σ H' → Same G G' → φ <+: φ' → BorAll g.K φ' G' σ v r → Q v H'
def SBs (X : Cx) (es : List Expr) (ev : Ev (List Bor)) : Prop := PA X es (tOs X.K ev)
def evNilB : Ev (List Bor) := fun s => some ([], s)
def evConsB (a : Ev Bor) (b : Ev (List Bor)) : Ev (List Bor) := fun s => (a s).bind fun p => (b p.2).map fun q => (p.1 :: q.1, q.2)
theorem sbs_nil {X : Cx} : SBs X [] evNilB := pa_imp pa_nil fun σ H Q ⟨g, G, φ, s, r, s', hK, R, he, q⟩ => by
  cases he
  exact q G φ H [] R (Same.refl _) (List.prefix_refl _) .nil
theorem sbs_cons {X : Cx} {e : Expr} {es : List Expr} {a : Ev Bor} {b : Ev (List Bor)} (ha : SB X e a) (hb : SBs X es b) (hs : starEach (e :: es) X.env = (false, eval e X.env) :: starEach es X.env := by rfl) : SBs X (e :: es) (evConsB a b) :=
  pa_imp (pa_cons ha hb hs) fun σ H Q ⟨g, G, φ, s, r, s', hK, R, he, q⟩ => by
    unfold evConsB at he
    cases e1 : a s with
    | none => rw [e1] at he; cases he
    | some p =>
      rw [e1] at he
      simp only [Option.bind_some] at he
      cases e2 : b p.2 with
      | none => rw [e2] at he; cases he
      | some y =>
        rw [e2] at he
        cases he
        refine ⟨g, G, φ, s, p.1, p.2, hK, R, e1, fun G1 φ1 H1 v R1 h1 h2 x => ?_⟩
        refine ⟨g, G1, φ1, p.2, y.1, y.2, hK, R1, e2, fun G3 φ3 H3 vs R3 h4 h5 ra => ?_⟩
        exact q G3 φ3 H3 (v :: vs) R3 (h1.trans h4) (h2.trans h5) (.cons (x.mono h4 h5) ra)

/-- tests -/
def tT (K : PySem.W.Frag) (ev : Ev Bool) : TT := fun σ H Q => ∃ g G φ s r s', g.K = K ∧ Rel g G φ s σ H ∧ ev s = some (r, s') ∧
  ∀ G' φ' H', Rel g G' φ' s' σ H' → Same G G' → φ <+: φ' → Q r H'
def ST (X : Cx) (e : Expr) (ev : Ev Bool) : Prop := PT X e (tT X.K ev)
def SW (X : Cx) (e : Expr) (ev : Ev Bool) : Prop := PW X e (tT X.K ev)

def deref (s : Sg) : D → D
  | .hd n => match s.st[n]? with
    | some (.d x) => x
    | _ => .hd n
  | d => d
def fetch (s : Sg) : Bor → Option D
  | .val d => some (deref s d)
  | .slot i => match s.env[i]? with
    | some (.fro d) => some (deref s d)
    | some (.own d) => some d
    | _ => none
inductive OpRep (K : PySem.W.Frag) (φ : List Addr) (G H : Hp) : V → D → Prop
  | fro {v d} : Rep K φ G v d → OpRep K φ G H v d
  | own {p o d} : H p = some o → Own K φ G o d → OpRep K φ G H (.ref p) d
section
variable {g : Gh} {G : Hp} {φ : List Addr} {s : Sg} {σ : St} {H : Hp} {v : V} {d : D}
theorem Rel.deref (R : Rel g G φ s σ H) (r : Rep g.K φ G v d) : OpRep g.K φ G H v (deref s d) := by
  cases d with
  | hd n =>
    show OpRep g.K φ G H v (match s.st[n]? with
      | some (.d x) => x
      | _ => .hd n)
    cases e : s.st[n]? with
    | none => exact .fro r
    | some c =>
      cases c with
      | obj C fs => exact .fro r
      | d x =>
        cases r with
        | hd ha =>
          obtain ⟨o, h1, h2, _⟩ := R.cell n _ _ ha e
          cases h2 with
          | d w => exact .own h1 w
  | _ => exact .fro r
theorem Rel.fetch {b : Bor} (R : Rel g G φ s σ H) (r : BorRep g.K φ G σ v b) (h : fetch s b = some d) : OpRep g.K φ G H v d := by
  cases b with
  | val x =>
    cases h
    exact R.deref r
  | slot i =>
    have r : σ[i]? = some (some v) := r
    have h : (match s.env[i]? with
      | some (Slot.fro d) => some (Pv.deref s d)
      | some (Slot.own d) => some d
      | _ => none) = some d := h
    cases e : s.env[i]? with
    | none => rw [e] at h; cases h
    | some sl =>
      rw [e] at h
      cases sl with
      | non => cases h
      | fro x =>
        cases h
        obtain ⟨v', h1, h2⟩ := R.fro i x e
        rw [r] at h1
        cases h1
        exact R.deref h2
      | own x =>
        cases h
        obtain ⟨p, o, h1, h2, h3, _⟩ := R.own i _ e
        rw [r] at h1
        cases h1
        exact .own h2 h3
end
inductive OpAll (K : PySem.W.Frag) (φ : List Addr) (G H : Hp) : List V → List D → Prop
  | nil : OpAll K φ G H [] []
  | cons {v vs d ds} : OpRep K φ G H v d → OpAll K φ G H vs ds → OpAll K φ G H (v :: vs) (d :: ds)
def fetchAll (s : Sg) : List Bor → Option (List D)
  | [] => some []
  | b :: bs => (fetch s b).bind fun d => (fetchAll s bs).map fun ds => d :: ds
theorem Rel.fetchAll {g : Gh} {G : Hp} {φ : List Addr} {s : Sg} {σ : St} {H : Hp} (R : Rel g G φ s σ H) : ∀ {vs : List V} {bs : List Bor} {ds : List D}, BorAll g.K φ G σ vs bs → Pv.fetchAll s bs = some ds → OpAll g.K φ G H vs ds
  | _, _, _, .nil, h => by cases h; exact .nil
  | _, _, _, .cons (b := b) (bs := bs) r rs, h => by
    unfold Pv.fetchAll at h
    cases e1 : Pv.fetch s b with
    | none => rw [e1] at h; cases h
    | some d =>
      rw [e1] at h
      simp only [Option.bind_some] at h
      cases e2 : Pv.fetchAll s bs with
      | none => rw [e2] at h; cases h
      | some ds' =>
        rw [e2] at h
        cases h
        exact .cons (R.fetch r e1) (Rel.fetchAll R rs e2)

/-- the result of an operation -/
inductive ORes (K : PySem.W.Frag) (φ : List Addr) (H G' H' : Hp) : V → RV → Prop
  | fro {v d} : Rep K φ G' v d → ORes K φ H G' H' v (.fro d)
  | own {p o d} : H p = none → H' p = some o → G' p = none → Own K φ G' o d → ORes K φ H G' H' (.ref p) (.own d)
def OkRes (K : PySem.W.Frag) (φ : List Addr) (G H : Hp) (r : RV) (Q : VK) : Prop := ∀ G' H' v, Grow G H G' H' → ORes K φ H G' H' v r → Q v H'
theorem ORes.res {g : Gh} {G G' : Hp} {φ : List Addr} {s : Sg} {σ : St} {H H' : Hp} {v : V} {r : RV} (R : Rel g G φ s σ H) (x : Grow G H G' H') (o : ORes g.K φ H G' H' v r) : Res g G' φ s σ H' v r := by
  cases o with
  | fro h => exact .fro h
  | own h1 h2 h3 h4 => exact .own (Fresh.of_new R x h1 h2 h3 h4)

abbrev Op1 := D → Option RV
abbrev Op2 := D → D → Option RV
abbrev OpN := List D → Option RV
def rV2 (K : PySem.W.Frag) (f : Op2) : R2 := fun x y H Q => ∃ φ G dx dy r, Same G H ∧ OpRep K φ G H x dx ∧ OpRep K φ G H y dy ∧ f dx dy = some r ∧ OkRes K φ G H r Q
def rVN (K : PySem.W.Frag) (f : OpN) : List V → Hp → VK → Prop := fun xs H Q => ∃ φ G ds r, Same G H ∧ OpAll K φ G H xs ds ∧ f ds = some r ∧ OkRes K φ G H r Q
def DOp (X : Cx) (f : Value → Value → Sem Value) (op : Op2) : Prop := OpR X f (rV2 X.K op)
def DIx (X : Cx) (op : Op2) : Prop := IxR X (rV2 X.K op)
def DCall (X : Cx) (f : Value) (op : OpN) : Prop := CallR X f (rVN X.K op)

def ev2 (f : Op2) (a b : Ev Bor) : Ev RV := fun s => (a s).bind fun p => (b p.2).bind fun q => (fetch q.2 p.1).bind fun dx => (fetch q.2 q.1).bind fun dy => (f dx dy).map fun r => (r, q.2)
def evN (f : OpN) (a : Ev (List Bor)) : Ev RV := fun s => (a s).bind fun p => (fetchAll p.2 p.1).bind fun ds => (f ds).map fun r => (r, p.2)

theorem bind_some_iff {α β : Type} {o : Option α} {f : α → Option β} {b : β} : o.bind f = some b → ∃ a, o = some a ∧ f a = some b := by
  cases o with
  | none => intro h; cases h
  | some a => intro h; exact ⟨a, rfl, h⟩
theorem map_some_iff {α β : Type} {o : Option α} {f : α → β} {b : β} : o.map f = some b → ∃ a, o = some a ∧ f a = b := by
  cases o with
  | none => intro h; cases h
  | some a => intro h; cases h; exact ⟨a, rfl, rfl⟩

theorem op2_core {X : Cx} {a b : Expr} {ta tb : Ev Bor} {f : Op2} {σ : St} {H : Hp} {Q : VK} (h : tR X.K (ev2 f ta tb) σ H Q) : tOp (rV2 X.K f) (tO X.K ta) (tO X.K tb) σ H Q := by
  obtain ⟨g, G, φ, s, r, s', hK, R, he, q⟩ := h
  obtain ⟨p, e1, he⟩ := bind_some_iff he
  obtain ⟨y, e2, he⟩ := bind_some_iff he
  obtain ⟨dx, e3, he⟩ := bind_some_iff he
  obtain ⟨dy, e4, he⟩ := bind_some_iff he
  obtain ⟨r', e5, he⟩ := map_some_iff he
  cases he
  refine ⟨g, G, φ, s, p.1, p.2, hK, R, e1, fun G1 φ1 H1 v R1 h1 h2 x1 => ?_⟩
  refine ⟨g, G1, φ1, p.2, y.1, y.2, hK, R1, e2, fun G2 φ2 H2 u R2 h3 h4 x2 => ?_⟩
  refine ⟨φ2, G2, dx, dy, r, R2.sub, hK ▸ R2.fetch (x1.mono h3 h4) e3, hK ▸ R2.fetch x2 e4, e5, fun G3 H3 w gr o => ?_⟩
  exact q G3 φ2 H3 w (R2.grow gr) ((h1.trans h3).trans gr.gg) (h2.trans h4) (ORes.res R2 gr (hK ▸ o))
theorem sr_bin {X : Cx} {a b : Expr} {ta tb : Ev Bor} {f : Op2} {op : Operator} {pos : Pos} (ho : DOp X (binaryOp op) f) (ha : SB X a ta) (hb : SB X b tb) : SR X (.BinOp a op b pos) (ev2 f ta tb) :=
  pe_imp (pe_op ho ha hb) fun _ _ _ h => op2_core (a := a) (b := b) h
theorem sr_cmp {X : Cx} {a b : Expr} {ta tb : Ev Bor} {f : Op2} {op : CmpOp} {pos : Pos} (ho : DOp X (compareOp op) f) (ha : SB X a ta) (hb : SB X b tb) (hm : behindInMarks op b = false) : SR X (.Compare a [op] [b] pos) (ev2 f ta tb) :=
  pe_imp (pe_cmpR ho ha hb hm) fun _ _ _ h => op2_core (a := a) (b := b) h
theorem sr_ix {X : Cx} {a b : Expr} {ta tb : Ev Bor} {f : Op2} {pos : Pos} (ho : DIx X f) (ha : SB X a ta) (hb : SB X b tb) (hs : PlainIx b) : SR X (.Subscript a b pos) (ev2 f ta tb) :=
  pe_imp (pe_ix ho ha hb hs) fun _ _ _ h => op2_core (a := a) (b := b) h
theorem opN_core {X : Cx} {ta : Ev (List Bor)} {f : OpN} {σ : St} {H : Hp} {Q : VK} (h : tR X.K (evN f ta) σ H Q) : tCB (rVN X.K f) (tOs X.K ta) σ H Q := by
  obtain ⟨g, G, φ, s, r, s', hK, R, he, q⟩ := h
  obtain ⟨p, e1, he⟩ := bind_some_iff he
  obtain ⟨ds, e2, he⟩ := bind_some_iff he
  obtain ⟨r', e5, he⟩ := map_some_iff he
  cases he
  refine ⟨g, G, φ, s, p.1, p.2, hK, R, e1, fun G1 φ1 H1 v R1 h1 h2 x1 => ?_⟩
  refine ⟨φ1, G1, ds, r, R1.sub, hK ▸ R1.fetchAll x1 e2, e5, fun G3 H3 w gr o => ?_⟩
  exact q G3 φ1 H3 w (R1.grow gr) (h1.trans gr.gg) h2 (ORes.res R1 gr (hK ▸ o))
theorem sr_callB {X : Cx} {x : Str} {e : Expr} {es : List Expr} {ta : Ev (List Bor)} {f : OpN} {id : String} {p pos : Pos} (hc : DCall X (.builtin id) f) (hg : Gl X x) (hm : X.mg x = none) (hv : bootBuiltins x = some (.builtin id)) (ha : SBs X (e :: es) ta) (hn : x ≠ "__name__" := by decide) (hdb : (x == ("__debug__" : Str)) = false := by decide)
    (he : starEach (e :: es) X.env = (false, eval e X.env) :: starEach es X.env := by rfl) (hpl : (backTo pos (starEach es X.env)).any (·.1) = false := by rfl) : SR X (.Call (.Name x p) (e :: es) [] pos) (evN f ta) :=
  pe_imp (pe_callB hc hg hm hv ha hn hdb he hpl) fun _ _ _ h => opN_core h
theorem sr_callTy {X : Cx} {x : Str} {e : Expr} {es : List Expr} {ta : Ev (List Bor)} {f : OpN} {T : String} {p pos : Pos} (hc : DCall X (.type T) f) (hg : Gl X x) (hm : X.mg x = none) (hv : bootBuiltins x = some (.type T)) (ha : SBs X (e :: es) ta) (hn : x ≠ "__name__" := by decide) (hdb : (x == ("__debug__" : Str)) = false := by decide)
    (he : starEach (e :: es) X.env = (false, eval e X.env) :: starEach es X.env := by rfl) (hpl : (backTo pos (starEach es X.env)).any (·.1) = false := by rfl) : SR X (.Call (.Name x p) (e :: es) [] pos) (evN f ta) :=
  pe_imp (pe_callTy hc hg hm hv ha hn hdb he hpl) fun _ _ _ h => opN_core h

def evName (i : Nat) : Ev RV := fun s => match s.env[i]? with
  | some (.fro d) => some (.fro d, s)
  | some (.own d) => some (.fro d, { s with env := s.env.set i (.fro d) })
  | _ => none
/-- an own slot gets frozen -/
theorem Rel.leak {g : Gh} {G : Hp} {φ : List Addr} {s : Sg} {σ : St} {H : Hp} {i : Nat} {d : D} (R : Rel g G φ s σ H) (e : s.env[i]? = some (.own d)) :
    ∃ v G', σ[i]? = some (some v) ∧ Rel g G' φ { s with env := s.env.set i (.fro d) } σ H ∧ Same G G' ∧ Rep g.K φ G' v d := by
  obtain ⟨p, o, h1, h2, h3, h4, h5, h6, h7⟩ := R.own i d e
  have il : i < s.env.length := (List.getElem?_eq_some_iff.mp e).1
  have sm : Same G (upd G p o) := same_upd h4
  have rp : Rep g.K φ (upd G p o) (.ref p) d := h3.rep (H := upd G p o) sm upd_same
  refine ⟨.ref p, upd G p o, h1, ⟨fun a x q => ?_, R.g0.trans sm, fun a x q => ?_, R.old, R.use, fun a z => ⟨?_, (R.zed a z).2⟩, R.pre, by simpa using R.len, fun j x q => ?_, fun j x q => ?_, fun j k x y q hjk a b => ?_, R.clen, fun n a c a1 a2 => ?_, R.nd, R.nt, R.tab.set h2 h3.nt⟩, sm, rp⟩
  · by_cases ha : a = p
    · subst ha; rw [upd_same] at q; cases q; exact h2
    · rw [upd_ne ha] at q; exact R.sub a x q
  · by_cases ha : a = p
    · subst ha; exact .inr h6
    · rw [upd_ne ha] at q; exact R.new a x q
  · rw [upd_ne (by rintro rfl; exact (R.zed a z).2 h5)]
    exact (R.zed a z).1
  · by_cases hj : j = i
    · subst hj
      rw [List.getElem?_set_self il] at q
      cases q
      exact ⟨_, h1, rp⟩
    · rw [List.getElem?_set_ne (Ne.symm hj)] at q
      obtain ⟨v, a1, a2⟩ := R.fro j x q
      exact ⟨v, a1, a2.mono sm (List.prefix_refl _)⟩
  · by_cases hj : j = i
    · subst hj
      rw [List.getElem?_set_self il] at q
      cases q
    · rw [List.getElem?_set_ne (Ne.symm hj)] at q
      obtain ⟨p', o', a1, a2, a3, a4, a5, a6, a7⟩ := R.own j x q
      refine ⟨p', o', a1, a2, a3.mono sm (List.prefix_refl _), ?_, a5, a6, a7⟩
      rw [upd_ne (by rintro rfl; exact R.sep i j _ _ _ (Ne.symm hj) e q h1 a1)]
      exact a4
  · by_cases hj : j = i
    · subst hj
      rw [List.getElem?_set_self il] at a
      cases a
    · by_cases hk : k = i
      · subst hk
        rw [List.getElem?_set_self il] at b
        cases b
      · rw [List.getElem?_set_ne (Ne.symm hj)] at a
        rw [List.getElem?_set_ne (Ne.symm hk)] at b
        exact R.sep j k x y q hjk a b
  · obtain ⟨o', b1, b2, b3, b4, b5⟩ := R.cell n a c a1 a2
    refine ⟨o', b1, b2.mono sm (List.prefix_refl _), ?_, b4, b5⟩
    rw [upd_ne (by rintro rfl; exact h7 (List.mem_of_getElem? a1))]
    exact b3
theorem sr_name {X : Cx} (i : Nat) {x : Str} {pos : Pos} (hN : X.N[i]? = some x := by rfl) (hv : Vis X.env.scope x := by first | exact Or.inl rfl | exact Or.inr (Or.inl rfl) | exact Or.inr (Or.inr rfl)) (hd : (x == ("__debug__" : Str)) = false := by decide)
    (hcd : (x == ("__classdict__" : Str)) = false := by decide) : SR X (.Name x pos) (evName i) := pe_imp (pe_var hN hv hd hcd) fun σ H Q ⟨g, G, φ, s, r, s', hK, R, he, q⟩ => by
  unfold evName at he
  cases e : s.env[i]? with
  | none => rw [e] at he; cases he
  | some sl =>
    rw [e] at he
    cases sl with
    | non => cases he
    | fro d =>
      cases he
      obtain ⟨v, h1, h2⟩ := R.fro i d e
      exact ⟨v, h1, q G φ H v R (Same.refl _) (List.prefix_refl _) (.fro h2)⟩
    | own d =>
      cases he
      obtain ⟨v, G', h1, R', h2, h3⟩ := R.leak e
      exact ⟨v, h1, q G' φ H v R' h2 (List.prefix_refl _) (.fro h3)⟩
def evSlot (i : Nat) : Ev Bor := fun s => match s.env[i]? with
  | some .non => none
  | some _ => some (.slot i, s)
  | none => none
theorem sb_name {X : Cx} (i : Nat) {x : Str} {pos : Pos} (hN : X.N[i]? = some x := by rfl) (hv : Vis X.env.scope x := by first | exact Or.inl rfl | exact Or.inr (Or.inl rfl) | exact Or.inr (Or.inr rfl)) (hd : (x == ("__debug__" : Str)) = false := by decide)
    (hcd : (x == ("__classdict__" : Str)) = false := by decide) : SB X (.Name x pos) (evSlot i) := pe_imp (pe_var hN hv hd hcd) fun σ H Q ⟨g, G, φ, s, r, s', hK, R, he, q⟩ => by
  unfold evSlot at he
  have : ∃ v, σ[i]? = some (some v) ∧ r = .slot i ∧ s' = s := by
    cases e : s.env[i]? with
    | none => rw [e] at he; cases he
    | some sl =>
      rw [e] at he
      cases sl with
      | non => cases he
      | fro d =>
        cases he
        obtain ⟨v, h1, h2⟩ := R.fro i d e
        exact ⟨v, h1, rfl, rfl⟩
      | own d =>
        cases he
        obtain ⟨p, o, h1, _⟩ := R.own i d e
        exact ⟨_, h1, rfl, rfl⟩
  obtain ⟨v, h1, rfl, rfl⟩ := this
  exact ⟨v, h1, q G φ H v R (Same.refl _) (List.prefix_refl _) h1⟩
def evC (d : D) : Ev RV := fun s => some (.fro d, s)
theorem sr_c {X : Cx} {e : Expr} {v : V} {d : D} (h : PE X e (tC v)) (r : ∀ K φ G, Rep K φ G v d) : SR X e (evC d) := pe_imp h fun σ H Q ⟨g, G, φ, s, r', s', hK, R, he, q⟩ => by
  cases he
  exact q G φ H v R (Same.refl _) (List.prefix_refl _) (.fro (r _ _ _))
section
variable {X : Cx} {j : Nat} {pos : Pos}
theorem sr_int {i : Int} : SR X (.Constant (.int i) j pos) (evC (.int i)) := sr_c pe_int fun _ _ _ => .int i
theorem sr_bl {i : Bool} : SR X (.Constant (.bool i) j pos) (evC (.bl i)) := sr_c pe_bl fun _ _ _ => .bl i
theorem sr_str {i : Str} : SR X (.Constant (.str i) j pos) (evC (.str i)) := sr_c pe_str fun _ _ _ => .str i
theorem sr_non : SR X (.Constant .none j pos) (evC .non) := sr_c pe_non fun _ _ _ => .non
/-- an int of the module -/
theorem sr_gint {x : Str} {i : Int} {t : Tok} (hg : Gl X x) (hm : X.mg x = some (.int i t)) (hd : (x == ("__debug__" : Str)) = false := by decide) : SR X (.Name x pos) (evC (.int i)) := sr_c (v := .int i) (pe_glob hg hm (show RelV (.int i) _ from ⟨t, rfl⟩) hd) fun _ _ _ => .int i
theorem sr_gstr {x : Str} {i : Str} {t : Tok} (hg : Gl X x) (hm : X.mg x = some (.str i t)) (hd : (x == ("__debug__" : Str)) = false := by decide) : SR X (.Name x pos) (evC (.str i)) := sr_c (v := .str i) (pe_glob hg hm (show RelV (.str i) _ from ⟨t, rfl⟩) hd) fun _ _ _ => .str i
end
def evTup (a : Ev (List D)) : Ev RV := fun s => (a s).bind fun p => if p.1.length ≤ 1000 then some (.fro (.tup p.1), p.2) else none
def evLst (a : Ev (List D)) : Ev RV := fun s => (a s).bind fun p => if p.1.length ≤ 1000 then some (.own (.lst p.1), p.2) else none
theorem RepA.length {K : PySem.W.Frag} {φ : List Addr} {G : Hp} : ∀ {vs ds}, RepA K φ G vs ds → vs.length = ds.length
  | _, _, .nil => rfl
  | _, _, .cons _ r => congrArg Nat.succ r.length
theorem small {n : Nat} (h : n ≤ 1000) : n ≤ sizeLine := Nat.le_of_lt (small1000 h)
theorem sr_tup {X : Cx} {es : List Expr} {a : Ev (List D)} {x1} {pos : Pos} (h : SA X es a) : SR X (.Tuple es x1 pos) (evTup a) := pe_imp (pe_tup h) fun σ H Q ⟨g, G, φ, s, r, s', hK, R, he, q⟩ => by
  obtain ⟨p, e1, he⟩ := bind_some_iff he
  split at he
  · rename_i hl
    cases he
    refine ⟨g, G, φ, s, p.1, p.2, hK, R, e1, fun G1 φ1 H1 vs R1 h1 h2 ra => ⟨by rw [ra.length]; exact small hl, fun a ha => ?_⟩⟩
    have gr := Grow.laid R1.sub (o := .tup vs) ha
    exact q _ φ1 _ _ (R1.grow gr) (h1.trans gr.gg) h2 (.fro (.tup upd_same (ra.mono gr.gg (List.prefix_refl _))))
  · cases he
theorem sr_lst {X : Cx} {es : List Expr} {a : Ev (List D)} {pos : Pos} (h : SA X es a) : SR X (.List es pos) (evLst a) := pe_imp (pe_lst h) fun σ H Q ⟨g, G, φ, s, r, s', hK, R, he, q⟩ => by
  obtain ⟨p, e1, he⟩ := bind_some_iff he
  split at he
  · rename_i hl
    cases he
    refine ⟨g, G, φ, s, p.1, p.2, hK, R, e1, fun G1 φ1 H1 vs R1 h1 h2 ra => ⟨by rw [ra.length]; exact small hl, fun a ha => ?_⟩⟩
    have gr := Grow.aside R1.sub (o := .lst vs) ha
    exact q _ φ1 _ _ (R1.grow gr) h1 h2 (.own (Fresh.of_new R1 gr ha upd_same (R1.sub.free ha) (.lst ra)))
  · cases he
end Pv

namespace Pv
open PySem PySem.Spec L2
variable [TabL]

def tru : D → Option Bool
  | .non => some false
  | .bl b => some b
  | .int i => some (i != 0)
  | .lst ds => some (!ds.isEmpty)
  | .tup ds => some (!ds.isEmpty)
  | _ => none
theorem RepA.isEmpty {K : PySem.W.Frag} {φ : List Addr} {G : Hp} : ∀ {vs ds}, RepA K φ G vs ds → vs.isEmpty = ds.isEmpty
  | _, _, .nil => rfl
  | _, _, .cons _ r => rfl
theorem OpRep.rep {K : PySem.W.Frag} {φ : List Addr} {G H : Hp} {v : V} {d : D} (h : Same G H) : OpRep K φ G H v d → Rep K φ H v d
  | .fro r => r.mono h (List.prefix_refl _)
  | .own e o => o.rep h e
theorem OpRep.lst {K : PySem.W.Frag} {φ : List Addr} {G H : Hp} {v : V} {ds : List D} (h : Same G H) (r : OpRep K φ G H v (.lst ds)) : ∃ a vs, v = .ref a ∧ H a = some (.lst vs) ∧ RepA K φ G vs ds := by
  cases r with
  | fro r =>
    cases r with
    | lst s a => exact ⟨_, _, rfl, h _ _ s, a⟩
  | own e o =>
    cases o with
    | lst a => exact ⟨_, _, rfl, e, a⟩
theorem OpRep.tup {K : PySem.W.Frag} {φ : List Addr} {G H : Hp} {v : V} {ds : List D} (h : Same G H) (r : OpRep K φ G H v (.tup ds)) : ∃ a vs, v = .ref a ∧ H a = some (.tup vs) ∧ RepA K φ G vs ds := by
  cases r with
  | fro r =>
    cases r with
    | tup s a => exact ⟨_, _, rfl, h _ _ s, a⟩
  | own e o => cases o
theorem OpRep.int {K : PySem.W.Frag} {φ : List Addr} {G H : Hp} {v : V} {i : Int} (r : OpRep K φ G H v (.int i)) : v = .int i := by
  cases r with
  | fro r => cases r; rfl
  | own e o => cases o
theorem OpRep.str {K : PySem.W.Frag} {φ : List Addr} {G H : Hp} {v : V} {i : Str} (r : OpRep K φ G H v (.str i)) : v = .str i := by
  cases r with
  | fro r => cases r; rfl
  | own e o => cases o
theorem OpRep.bl {K : PySem.W.Frag} {φ : List Addr} {G H : Hp} {v : V} {i : Bool} (r : OpRep K φ G H v (.bl i)) : v = .bl i := by
  cases r with
  | fro r => cases r; rfl
  | own e o => cases o
theorem OpRep.non {K : PySem.W.Frag} {φ : List Addr} {G H : Hp} {v : V} (r : OpRep K φ G H v .non) : v = .non := by
  cases r with
  | fro r => cases r; rfl
  | own e o => cases o
theorem tru_V {K : PySem.W.Frag} {φ : List Addr} {G H : Hp} {v : V} {d : D} {b : Bool} (h : Same G H) (r : OpRep K φ G H v d) (e : tru d = some b) : TruV K v H b := by
  cases d with
  | non => cases r.non; cases e; rfl
  | bl x => cases r.bl; cases e; rfl
  | int x => cases r.int; cases e; rfl
  | lst ds =>
    cases e
    obtain ⟨a, vs, rfl, s, ra⟩ := r.lst h
    exact .inl ⟨vs, SqL.of s, by rw [ra.isEmpty]⟩
  | tup ds =>
    cases e
    obtain ⟨a, vs, rfl, s, ra⟩ := r.tup h
    exact .inr (.inl ⟨vs, SqT.of s, by rw [ra.isEmpty]⟩)
  | str x => cases e
  | dct t k => cases e
  | hd n => cases e
  | scr n => cases e
def evTru (a : Ev Bor) : Ev Bool := fun s => (a s).bind fun p => (fetch p.2 p.1).bind fun d => (tru d).map fun b => (b, p.2)
theorem st_tru {X : Cx} {e : Expr} {a : Ev Bor} (h : SB X e a) (he : ∀ whole, isTrue e X.env whole = (do let v ← whole; standAt e.pos; holding [v] (truthy v)) := by intro _; rfl) : ST X e (evTru a) :=
  pt_imp (pt_truth h he) fun σ H Q ⟨g, G, φ, s, r, s', hK, R, he, q⟩ => by
    obtain ⟨p, e1, he⟩ := bind_some_iff he
    obtain ⟨d, e2, he⟩ := bind_some_iff he
    obtain ⟨b, e3, he⟩ := map_some_iff he
    cases he
    refine ⟨g, G, φ, s, p.1, p.2, hK, R, e1, fun G1 φ1 H1 v R1 h1 h2 x => ?_⟩
    exact ⟨r, hK ▸ tru_V R1.sub (R1.fetch x e2) e3, q G1 φ1 H1 R1 h1 h2⟩
/-- a result that is a bool, as a test -/
def evB (a : Ev RV) : Ev Bool := fun s => (a s).bind fun p => match p.1 with
  | .fro (.bl b) => some (b, p.2)
  | _ => none
theorem evB_some {a : Ev RV} {s s' : Sg} {b : Bool} (h : evB a s = some (b, s')) : a s = some (.fro (.bl b), s') := by
  obtain ⟨p, e1, h⟩ := bind_some_iff h
  obtain ⟨p1, p2⟩ := p
  cases p1 with
  | own d => cases h
  | fro d =>
    cases d <;> cases h
    exact e1
theorem tTest_of {X : Cx} {a : Ev RV} {t : TE} {σ : St} {H : Hp} {Q : Bool → Hp → Prop} (imp : ∀ Q, tR X.K a σ H Q → t σ H Q) (h : tT X.K (evB a) σ H Q) : tTest t σ H Q := by
  obtain ⟨g, G, φ, s, r, s', hK, R, he, q⟩ := h
  have e1 := evB_some he
  refine imp _ ⟨g, G, φ, s, _, s', hK, R, e1, fun G1 φ1 H1 v R1 h1 h2 x => ?_⟩
  cases x with
  | fro rp => cases rp; exact ⟨r, rfl, q G1 φ1 H1 R1 h1 h2⟩
theorem st_cmp {X : Cx} {a b : Expr} {ta tb : Ev Bor} {f : Op2} {op : CmpOp} {pos : Pos} (ho : DOp X (compareOp op) f) (ha : SB X a ta) (hb : SB X b tb) (hm : behindInMarks op b = false) : ST X (.Compare a [op] [b] pos) (evB (ev2 f ta tb)) :=
  pt_imp (pt_cmpR ho ha hb hm) fun _ _ _ h => tTest_of (fun _ h => op2_core (a := a) (b := b) h) h
/-- a op b op' c -/
def evCh (f f' : Op2) (a b c : Ev Bor) : Ev RV := fun s => (a s).bind fun p => (b p.2).bind fun q => (fetch q.2 p.1).bind fun dx => (fetch q.2 q.1).bind fun dy => match f dx dy with
  | some (.fro (.bl true)) => (c q.2).bind fun r => (fetch r.2 q.1).bind fun dy' => (fetch r.2 r.1).bind fun dz => (f' dy' dz).map fun x => (x, r.2)
  | some (.fro (.bl false)) => some (.fro (.bl false), q.2)
  | _ => none
theorem chain_core {X : Cx} {a b c : Expr} {ta tb tc : Ev Bor} {f f' : Op2} {σ : St} {H : Hp} {Q : VK} (h : tR X.K (evCh f f' ta tb tc) σ H Q) : tChain (rV2 X.K f) (rV2 X.K f') (tO X.K ta) (tO X.K tb) (tO X.K tc) σ H Q := by
  obtain ⟨g, G, φ, s, r, s', hK, R, he, q⟩ := h
  obtain ⟨p, e1, he⟩ := bind_some_iff he
  obtain ⟨y, e2, he⟩ := bind_some_iff he
  obtain ⟨dx, e3, he⟩ := bind_some_iff he
  obtain ⟨dy, e4, he⟩ := bind_some_iff he
  refine ⟨g, G, φ, s, p.1, p.2, hK, R, e1, fun G1 φ1 H1 v R1 h1 h2 x1 => ?_⟩
  refine ⟨g, G1, φ1, p.2, y.1, y.2, hK, R1, e2, fun G2 φ2 H2 u R2 h3 h4 x2 => ?_⟩
  cases e5 : f dx dy with
  | none => rw [e5] at he; cases he
  | some r1 =>
    rw [e5] at he
    refine ⟨φ2, G2, dx, dy, r1, R2.sub, hK ▸ R2.fetch (x1.mono h3 h4) e3, hK ▸ R2.fetch x2 e4, e5, fun G3 H3 w gr o => ?_⟩
    cases o with
    | own => cases he
    | fro rp =>
      cases rp with
      | bl k =>
        refine ⟨k, rfl, ?_⟩
        have R3 := R2.grow gr
        cases k with
        | false =>
          rw [if_neg Bool.false_ne_true]
          cases he
          exact q G3 φ2 H3 _ R3 ((h1.trans h3).trans gr.gg) (h2.trans h4) (.fro (.bl false))
        | true =>
          rw [if_pos rfl]
          obtain ⟨z, e6, he⟩ := bind_some_iff he
          obtain ⟨dy', e7, he⟩ := bind_some_iff he
          obtain ⟨dz, e8, he⟩ := bind_some_iff he
          obtain ⟨r', e9, he⟩ := map_some_iff he
          cases he
          refine ⟨g, G3, φ2, y.2, z.1, z.2, hK, R3, e6, fun G4 φ4 H4 w R4 h5 h6 x3 => ?_⟩
          refine ⟨φ4, G4, dy', dz, r, R4.sub, hK ▸ R4.fetch ((x2.mono gr.gg (List.prefix_refl _)).mono h5 h6) e7, hK ▸ R4.fetch x3 e8, e9, fun G5 H5 w gr' o => ?_⟩
          exact q G5 φ4 H5 w (R4.grow gr') ((((h1.trans h3).trans gr.gg).trans h5).trans gr'.gg) ((h2.trans h4).trans h6) (ORes.res R4 gr' (hK ▸ o))
      | _ => cases he
theorem sr_chain {X : Cx} {a b c : Expr} {ta tb tc : Ev Bor} {f f' : Op2} {op op' : CmpOp} {pos : Pos} (ho : DOp X (compareOp op) f) (ho' : DOp X (compareOp op') f') (ha : SB X a ta) (hb : SB X b tb) (hc : SB X c tc)
    (hm : lastMarks [op, op'] [b, c] = false := by with_unfolding_all rfl) : SR X (.Compare a [op, op'] [b, c] pos) (evCh f f' ta tb tc) :=
  pe_imp (pe_chain ho ho' ha hb hc hm) fun _ _ _ h => chain_core (a := a) (b := b) (c := c) h
theorem st_chain {X : Cx} {a b c : Expr} {ta tb tc : Ev Bor} {f f' : Op2} {op op' : CmpOp} {pos : Pos} (ho : DOp X (compareOp op) f) (ho' : DOp X (compareOp op') f') (ha : SB X a ta) (hb : SB X b tb) (hc : SB X c tc)
    (hm : lastMarks [op, op'] [b, c] = false := by with_unfolding_all rfl) : ST X (.Compare a [op, op'] [b, c] pos) (evB (evCh f f' ta tb tc)) :=
  pt_imp (pt_chain ho ho' ha hb hc hm) fun _ _ _ h => tTest_of (fun _ h => chain_core (a := a) (b := b) (c := c) h) h

def evNot (a : Ev Bool) : Ev Bool := fun s => (a s).map fun p => (!p.1, p.2)
def evAnd (a b : Ev Bool) : Ev Bool := fun s => (a s).bind fun p => if p.1 then b p.2 else some (false, p.2)
def evOr (a b : Ev Bool) : Ev Bool := fun s => (a s).bind fun p => if p.1 then some (true, p.2) else b p.2
section
variable {X : Cx} {a b : Expr} {rest : List Expr} {ta tb : Ev Bool} {pos : Pos}
theorem st_not (h : ST X a ta) : ST X (.UnaryOp .Not a pos) (evNot ta) := pt_imp (pt_not h) fun σ H Q ⟨g, G, φ, s, r, s', hK, R, he, q⟩ => by
  obtain ⟨p, e1, he⟩ := map_some_iff he
  cases he
  exact ⟨g, G, φ, s, p.1, p.2, hK, R, e1, fun G1 φ1 H1 R1 h1 h2 => q G1 φ1 H1 R1 h1 h2⟩
theorem sw_and1 (h : ST X a ta) : SW X (.BoolOp .And [a] pos) ta := pw_and1 h
theorem sw_or1 (h : ST X a ta) : SW X (.BoolOp .Or [a] pos) ta := pw_or1 h
theorem sw_and (h : ST X a ta) (hb : SW X (.BoolOp .And (b :: rest) pos) tb) : SW X (.BoolOp .And (a :: b :: rest) pos) (evAnd ta tb) := pw_imp (pw_and h hb) fun σ H Q ⟨g, G, φ, s, r, s', hK, R, he, q⟩ => by
  obtain ⟨⟨p1, p2⟩, e1, he⟩ := bind_some_iff he
  refine ⟨g, G, φ, s, p1, p2, hK, R, e1, fun G1 φ1 H1 R1 h1 h2 => ?_⟩
  cases p1 with
  | false => cases he; rw [if_neg Bool.false_ne_true]; exact q G1 φ1 H1 R1 h1 h2
  | true =>
    rw [if_pos rfl]
    exact ⟨g, G1, φ1, p2, r, s', hK, R1, he, fun G2 φ2 H2 R2 h3 h4 => q G2 φ2 H2 R2 (h1.trans h3) (h2.trans h4)⟩
theorem sw_or (h : ST X a ta) (hb : SW X (.BoolOp .Or (b :: rest) pos) tb) : SW X (.BoolOp .Or (a :: b :: rest) pos) (evOr ta tb) := pw_imp (pw_or h hb) fun σ H Q ⟨g, G, φ, s, r, s', hK, R, he, q⟩ => by
  obtain ⟨⟨p1, p2⟩, e1, he⟩ := bind_some_iff he
  refine ⟨g, G, φ, s, p1, p2, hK, R, e1, fun G1 φ1 H1 R1 h1 h2 => ?_⟩
  cases p1 with
  | true => cases he; rw [if_pos rfl]; exact q G1 φ1 H1 R1 h1 h2
  | false =>
    rw [if_neg Bool.false_ne_true]
    exact ⟨g, G1, φ1, p2, r, s', hK, R1, he, fun G2 φ2 H2 R2 h3 h4 => q G2 φ2 H2 R2 (h1.trans h3) (h2.trans h4)⟩
theorem sw_st {e : Expr} (h : SW X e ta) : ST X e ta := PW.pt h
/-- .. as values: all but the last give bools -/
def evVand (a b : Ev RV) : Ev RV := fun s => (a s).bind fun p => match p.1 with
  | .fro (.bl true) => b p.2
  | .fro (.bl false) => some (.fro (.bl false), p.2)
  | _ => none
def evVor (a b : Ev RV) : Ev RV := fun s => (a s).bind fun p => match p.1 with
  | .fro (.bl false) => b p.2
  | .fro (.bl true) => some (.fro (.bl true), p.2)
  | _ => none
variable {va vb : Ev RV}
theorem sr_one {op} (h : SR X a va) : SR X (.BoolOp op [a] pos) va := pe_one h
theorem sr_and (h : SR X a va) (hb : SR X (.BoolOp .And (b :: rest) pos) vb) : SR X (.BoolOp .And (a :: b :: rest) pos) (evVand va vb) := pe_imp (pe_and h hb) fun σ H Q ⟨g, G, φ, s, r, s', hK, R, he, q⟩ => by
  obtain ⟨⟨p1, p2⟩, e1, he⟩ := bind_some_iff he
  refine ⟨g, G, φ, s, p1, p2, hK, R, e1, fun G1 φ1 H1 v R1 h1 h2 x => ?_⟩
  cases x with
  | own => cases he
  | fro rp =>
    cases rp with
    | bl k =>
      refine ⟨k, rfl, ?_⟩
      cases k with
      | false => cases he; rw [if_neg Bool.false_ne_true]; exact q G1 φ1 H1 _ R1 h1 h2 (.fro (.bl false))
      | true =>
        rw [if_pos rfl]
        exact ⟨g, G1, φ1, p2, r, s', hK, R1, he, fun G2 φ2 H2 w R2 h3 h4 => q G2 φ2 H2 w R2 (h1.trans h3) (h2.trans h4)⟩
    | _ => cases he
theorem sr_or (h : SR X a va) (hb : SR X (.BoolOp .Or (b :: rest) pos) vb) : SR X (.BoolOp .Or (a :: b :: rest) pos) (evVor va vb) := pe_imp (pe_or h hb) fun σ H Q ⟨g, G, φ, s, r, s', hK, R, he, q⟩ => by
  obtain ⟨⟨p1, p2⟩, e1, he⟩ := bind_some_iff he
  refine ⟨g, G, φ, s, p1, p2, hK, R, e1, fun G1 φ1 H1 v R1 h1 h2 x => ?_⟩
  cases x with
  | own => cases he
  | fro rp =>
    cases rp with
    | bl k =>
      refine ⟨k, rfl, ?_⟩
      cases k with
      | true => cases he; rw [if_pos rfl]; exact q G1 φ1 H1 _ R1 h1 h2 (.fro (.bl true))
      | false =>
        rw [if_neg Bool.false_ne_true]
        exact ⟨g, G1, φ1, p2, r, s', hK, R1, he, fun G2 φ2 H2 w R2 h3 h4 => q G2 φ2 H2 w R2 (h1.trans h3) (h2.trans h4)⟩
    | _ => cases he
def evVnot (a : Ev RV) : Ev RV := fun s => (a s).bind fun p => match p.1 with
  | .fro (.bl b) => some (.fro (.bl (!b)), p.2)
  | _ => none
theorem sr_not (h : SR X a va) : SR X (.UnaryOp .Not a pos) (evVnot va) := pe_imp (pe_not h) fun σ H Q ⟨g, G, φ, s, r, s', hK, R, he, q⟩ => by
  obtain ⟨⟨p1, p2⟩, e1, he⟩ := bind_some_iff he
  refine ⟨g, G, φ, s, p1, p2, hK, R, e1, fun G1 φ1 H1 v R1 h1 h2 x => ?_⟩
  cases x with
  | own => cases he
  | fro rp =>
    cases rp with
    | bl k => cases he; exact ⟨k, rfl, q G1 φ1 H1 _ R1 h1 h2 (.fro (.bl _))⟩
    | _ => cases he
def evIte (c : Ev Bool) (a b : Ev RV) : Ev RV := fun s => (c s).bind fun p => if p.1 then a p.2 else b p.2
theorem sr_ite {c : Expr} (hc : ST X c ta) (ha : SR X a va) (hb : SR X b vb) : SR X (.IfExp c a b pos) (evIte ta va vb) := pe_imp (pe_ifExp hc ha hb) fun σ H Q ⟨g, G, φ, s, r, s', hK, R, he, q⟩ => by
  obtain ⟨⟨p1, p2⟩, e1, he⟩ := bind_some_iff he
  refine ⟨g, G, φ, s, p1, p2, hK, R, e1, fun G1 φ1 H1 R1 h1 h2 => ?_⟩
  cases p1 with
  | true => rw [if_pos rfl]; exact ⟨g, G1, φ1, p2, r, s', hK, R1, he, fun G2 φ2 H2 w R2 h3 h4 => q G2 φ2 H2 w R2 (h1.trans h3) (h2.trans h4)⟩
  | false => rw [if_neg Bool.false_ne_true]; exact ⟨g, G1, φ1, p2, r, s', hK, R1, he, fun G2 φ2 H2 w R2 h3 h4 => q G2 φ2 H2 w R2 (h1.trans h3) (h2.trans h4)⟩
end

inductive Out where
  | nx | bk | ct | rt (r : RV)
def EndS (g : Gh) (G : Hp) (φ : List Addr) (E : Ends) (s' : Sg) : Out → Prop
  | .nx => ∀ G' φ' σ' H', Rel g G' φ' s' σ' H' → Same G G' → φ <+: φ' → E.nx σ' H'
  | .bk => ∀ G' φ' σ' H', Rel g G' φ' s' σ' H' → Same G G' → φ <+: φ' → E.bk σ' H'
  | .ct => ∀ G' φ' σ' H', Rel g G' φ' s' σ' H' → Same G G' → φ <+: φ' → E.ct σ' H'
  | .rt r => ∀ G' φ' σ' H' v, Rel g G' φ' s' σ' H' → Same G G' → φ <+: φ' → Res g G' φ' s' σ' H' v r → E.rt v H'
theorem EndS.pre {g : Gh} {G G1 : Hp} {φ φ1 : List Addr} {E : Ends} {s' : Sg} {o : Out} (h : EndS g G φ E s' o) (h1 : Same G G1) (h2 : φ <+: φ1) : EndS g G1 φ1 E s' o := by
  cases o with
  | nx => exact fun G' φ' σ' H' R a b => h G' φ' σ' H' R (h1.trans a) (h2.trans b)
  | bk => exact fun G' φ' σ' H' R a b => h G' φ' σ' H' R (h1.trans a) (h2.trans b)
  | ct => exact fun G' φ' σ' H' R a b => h G' φ' σ' H' R (h1.trans a) (h2.trans b)
  | rt r => exact fun G' φ' σ' H' v R a b => h G' φ' σ' H' v R (h1.trans a) (h2.trans b)
def tS (K : PySem.W.Frag) (ev : Ev Out) : TS := fun E σ H => ∃ g G φ s o s', g.K = K ∧ Rel g G φ s σ H ∧ ev s = some (o, s') ∧ EndS g G φ E s' o
def SS (X : Cx) (st : Stmt) (ev : Ev Out) : Prop := PS X st (tS X.K ev)
def SSs (X : Cx) (st : List Stmt) (ev : Ev Out) : Prop := PSs X st (tS X.K ev)
def evPass : Ev Out := fun s => some (.nx, s)
def evBreak : Ev Out := fun s => some (.bk, s)
def evCont : Ev Out := fun s => some (.ct, s)
def evSeq (a b : Ev Out) : Ev Out := fun s => (a s).bind fun p => match p.1 with
  | .nx => b p.2
  | o => some (o, p.2)
section
variable {X : Cx} {st : Stmt} {rest : List Stmt} {a b : Ev Out} {pos : Pos} {e : Expr}
theorem ss_nil : SSs X [] evPass := pss_imp pss_nil fun E σ H ⟨g, G, φ, s, o, s', hK, R, he, q⟩ => by
  cases he
  exact q G φ σ H R (Same.refl _) (List.prefix_refl _)
theorem ss_cons (h1 : SS X st a) (h2 : SSs X rest b) : SSs X (st :: rest) (evSeq a b) := pss_imp (pss_cons h1 h2) fun E σ H ⟨g, G, φ, s, o, s', hK, R, he, q⟩ => by
  obtain ⟨⟨p1, p2⟩, e1, he⟩ := bind_some_iff he
  cases p1 with
  | nx => exact ⟨g, G, φ, s, .nx, p2, hK, R, e1, fun G' φ' σ' H' R' h1 h2 => ⟨g, G', φ', p2, o, s', hK, R', he, q.pre h1 h2⟩⟩
  | bk => cases he; exact ⟨g, G, φ, s, .bk, _, hK, R, e1, q⟩
  | ct => cases he; exact ⟨g, G, φ, s, .ct, _, hK, R, e1, q⟩
  | rt r => cases he; exact ⟨g, G, φ, s, .rt r, _, hK, R, e1, q⟩
theorem ss_one (h1 : SS X st a) : SSs X [st] a := pss_one h1
theorem ss_pass : SS X (.Pass pos) evPass := ps_imp ps_pass fun E σ H ⟨g, G, φ, s, o, s', hK, R, he, q⟩ => by
  cases he
  exact q G φ σ H R (Same.refl _) (List.prefix_refl _)
theorem ss_break : SS X (.Break pos) evBreak := ps_imp ps_break fun E σ H ⟨g, G, φ, s, o, s', hK, R, he, q⟩ => by
  cases he
  exact q G φ σ H R (Same.refl _) (List.prefix_refl _)
theorem ss_cont : SS X (.Continue pos) evCont := ps_imp ps_continue fun E σ H ⟨g, G, φ, s, o, s', hK, R, he, q⟩ => by
  cases he
  exact q G φ σ H R (Same.refl _) (List.prefix_refl _)
def evDrop (a : Ev RV) : Ev Out := fun s => (a s).map fun p => (.nx, p.2)
theorem ss_expr {va : Ev RV} (h : SR X e va) (hs : swapsWith e none pos.line X.env = pure false := by rfl) : SS X (.Expr e pos) (evDrop va) := ps_imp (ps_expr h hs) fun E σ H ⟨g, G, φ, s, o, s', hK, R, he, q⟩ => by
  obtain ⟨⟨p1, p2⟩, e1, he⟩ := map_some_iff he
  cases he
  exact ⟨g, G, φ, s, p1, _, hK, R, e1, fun G' φ' H' v R' h1 h2 _ => q G' φ' σ H' R' h1 h2⟩
def evRet (a : Ev RV) : Ev Out := fun s => (a s).map fun p => (.rt p.1, p.2)
theorem ss_ret {va : Ev RV} (h : SR X e va) : SS X (.Return (some e) pos) (evRet va) := ps_imp (ps_ret h) fun E σ H ⟨g, G, φ, s, o, s', hK, R, he, q⟩ => by
  obtain ⟨⟨p1, p2⟩, e1, he⟩ := map_some_iff he
  cases he
  exact ⟨g, G, φ, s, p1, _, hK, R, e1, fun G' φ' H' v R' h1 h2 x => q G' φ' σ H' v R' h1 h2 x⟩
/-- return name: an own list is handed out -/
def evRetOwn (i : Nat) : Ev Out := fun s => match s.env[i]? with
  | some (.own d) => some (.rt (.own d), { s with env := s.env.set i .non })
  | some (.fro d) => some (.rt (.fro d), s)
  | _ => none
theorem Rel.forget {g : Gh} {G : Hp} {φ : List Addr} {s : Sg} {σ : St} {H : Hp} (R : Rel g G φ s σ H) (i : Nat) : Rel g G φ { s with env := s.env.set i .non } σ H := by
  have ne : ∀ {j : Nat} {x : Slot}, x ≠ .non → (s.env.set i .non)[j]? = some x → s.env[j]? = some x := fun {j x} hx q => by
    by_cases hj : j = i
    · subst hj
      by_cases hl : j < s.env.length
      · rw [List.getElem?_set_self hl] at q; cases q; exact absurd rfl hx
      · rw [List.getElem?_eq_none (by simpa using hl)] at q; cases q
    · rw [List.getElem?_set_ne (Ne.symm hj)] at q; exact q
  exact ⟨R.sub, R.g0, R.new, R.old, R.use, R.zed, R.pre, by simpa using R.len, fun j d q => R.fro j d (ne (by simp) q), fun j d q => R.own j d (ne (by simp) q),
    fun j k d e p hjk q1 q2 => R.sep j k d e p hjk (ne (by simp) q1) (ne (by simp) q2), R.clen, R.cell, R.nd, R.nt, R.tab⟩
theorem ss_retOwn (i : Nat) {x : Str} {p : Pos} (hN : X.N[i]? = some x := by rfl) (hv : Vis X.env.scope x := by first | exact Or.inl rfl | exact Or.inr (Or.inl rfl) | exact Or.inr (Or.inr rfl)) (hd : (x == ("__debug__" : Str)) = false := by decide)
    (hcd : (x == ("__classdict__" : Str)) = false := by decide) : SS X (.Return (some (.Name x p)) pos) (evRetOwn i) := ps_imp (ps_ret (pe_var hN hv hd hcd)) fun E σ H ⟨g, G, φ, s, o, s', hK, R, he, q⟩ => by
  unfold evRetOwn at he
  cases e : s.env[i]? with
  | none => rw [e] at he; cases he
  | some sl =>
    rw [e] at he
    cases sl with
    | non => cases he
    | fro d =>
      cases he
      obtain ⟨v, h1, h2⟩ := R.fro i d e
      exact ⟨v, h1, q G φ σ H v R (Same.refl _) (List.prefix_refl _) (.fro h2)⟩
    | own d =>
      cases he
      obtain ⟨p, o, h1, h2, h3, h4, h5, h6, h7⟩ := R.own i d e
      refine ⟨_, h1, q G φ σ H _ (R.forget i) (Same.refl _) (List.prefix_refl _) (.own ⟨h2, h3, h4, h5, h6, h7, fun j f hj hs => ?_⟩)⟩
      by_cases hji : j = i
      · subst hji
        have il : j < s.env.length := (List.getElem?_eq_some_iff.mp e).1
        rw [List.getElem?_set_self il] at hj
        cases hj
      · rw [List.getElem?_set_ne (Ne.symm hji)] at hj
        exact R.sep i j _ _ _ (Ne.symm hji) e hj h1 hs
def evRetN : Ev Out := fun s => some (.rt (.fro .non), s)
theorem ss_retN : SS X (.Return none pos) evRetN := ps_imp ps_retN fun E σ H ⟨g, G, φ, s, o, s', hK, R, he, q⟩ => by
  cases he
  exact q G φ σ H _ R (Same.refl _) (List.prefix_refl _) (.fro .non)
def evIf (c : Ev Bool) (a b : Ev Out) : Ev Out := fun s => (c s).bind fun p => if p.1 then a p.2 else b p.2
theorem ss_if {c : Expr} {sa sb : List Stmt} {tc : Ev Bool} (hc : ST X c tc) (ha : SSs X sa a) (hb : SSs X sb b) : SS X (.If c sa sb pos) (evIf tc a b) := ps_imp (ps_if hc ha hb) fun E σ H ⟨g, G, φ, s, o, s', hK, R, he, q⟩ => by
  obtain ⟨⟨p1, p2⟩, e1, he⟩ := bind_some_iff he
  refine ⟨g, G, φ, s, p1, p2, hK, R, e1, fun G1 φ1 H1 R1 h1 h2 => ?_⟩
  cases p1 with
  | true => rw [if_pos rfl]; exact ⟨g, G1, φ1, p2, o, s', hK, R1, he, q.pre h1 h2⟩
  | false => rw [if_neg Bool.false_ne_true]; exact ⟨g, G1, φ1, p2, o, s', hK, R1, he, q.pre h1 h2⟩
end
def RV.slot : RV → Slot
  | .fro d => .fro d
  | .own d => .own d
theorem Rel.store {g : Gh} {G : Hp} {φ : List Addr} {s : Sg} {σ : St} {H : Hp} {v : V} {r : RV} (i : Nat) (R : Rel g G φ s σ H) (x : Res g G φ s σ H v r) : Rel g G φ { s with env := s.env.set i r.slot } (σ.set i (some v)) H := by
  have ge : ∀ {j : Nat} {e : Slot}, (s.env.set i r.slot)[j]? = some e → (j = i ∧ e = r.slot ∧ (σ.set i (some v))[j]? = some (some v)) ∨ (j ≠ i ∧ s.env[j]? = some e ∧ (σ.set i (some v))[j]? = σ[j]?) := fun {j e} q => by
    by_cases hj : j = i
    · subst hj
      by_cases hl : j < s.env.length
      · rw [List.getElem?_set_self hl] at q
        cases q
        exact .inl ⟨rfl, rfl, List.getElem?_set_self (R.len ▸ hl)⟩
      · rw [List.getElem?_eq_none (by simpa using hl)] at q; cases q
    · rw [List.getElem?_set_ne (Ne.symm hj)] at q
      exact .inr ⟨hj, q, List.getElem?_set_ne (Ne.symm hj)⟩
  refine ⟨R.sub, R.g0, R.new, R.old, R.use, R.zed, R.pre, by simpa using R.len, fun j d q => ?_, fun j d q => ?_, fun j k d e p hjk q1 q2 q3 => ?_, R.clen, R.cell, R.nd, R.nt, R.tab⟩
  · rcases ge q with ⟨_, h2, h3⟩ | ⟨_, h2, h3⟩
    · cases x with
      | own F => cases h2
      | fro rp => cases h2; exact ⟨v, h3, rp⟩
    · obtain ⟨w, h4, h5⟩ := R.fro j d h2
      exact ⟨w, h3.trans h4, h5⟩
  · rcases ge q with ⟨_, h2, h3⟩ | ⟨_, h2, h3⟩
    · cases x with
      | fro rp => cases h2
      | own F => cases h2; exact ⟨_, _, h3, F.at_, F.own, F.gp, F.fp, F.up, F.ph⟩
    · obtain ⟨p, o, h4, h5⟩ := R.own j d h2
      exact ⟨p, o, h3.trans h4, h5⟩
  · rcases ge q1 with ⟨a1, a2, a3⟩ | ⟨a1, a2, a3⟩
    · rcases ge q2 with ⟨b1, b2, b3⟩ | ⟨b1, b2, b3⟩
      · exact absurd (a1.trans b1.symm) hjk
      · cases x with
        | fro rp => cases a2
        | own F =>
          rw [a3] at q3
          cases q3
          rw [b3]
          exact F.sl k e b2
    · rcases ge q2 with ⟨b1, b2, b3⟩ | ⟨b1, b2, b3⟩
      · cases x with
        | fro rp => cases b2
        | own F =>
          rw [b3]
          intro e'
          cases e'
          rw [a3] at q3
          exact F.sl j d a2 q3
      · rw [a3] at q3
        rw [b3]
        exact R.sep j k d e p hjk a2 b2 q3
def evSet (i : Nat) (a : Ev RV) : Ev Out := fun s => (a s).map fun p => (.nx, { p.2 with env := p.2.env.set i p.1.slot })
theorem asg_core {K : PySem.W.Frag} {i : Nat} {va : Ev RV} {E : Ends} {σ : St} {H : Hp} (h : tS K (evSet i va) E σ H) : tAsg (tR K va) (gName i) E σ H := by
  obtain ⟨g, G, φ, s, o, s', hK, R, he, q⟩ := h
  obtain ⟨⟨p1, p2⟩, e1, he⟩ := map_some_iff he
  cases he
  exact ⟨g, G, φ, s, p1, p2, hK, R, e1, fun G' φ' H' v R' h1 h2 x => q G' φ' _ H' (R'.store i x) h1 h2⟩
theorem ss_set {X : Cx} {i : Nat} {x : Str} {e : Expr} {va : Ev RV} {pos pos' : Pos} (hN : X.N.Nodup) (h : SR X e va) (hi : X.N[i]? = some x := by rfl) (hx : Loc X.env.scope x := by first | exact Or.inl rfl | exact Or.inr rfl) (hs : swapsWith e (some (.Name x pos')) pos.line X.env = pure false := by rfl)
    (hf : X.fn x = true ∨ X.env.scope.names.lookup x = some .local := by first | exact .inl rfl | exact .inr rfl) : SS X (.Assign [.Name x pos'] e pos) (evSet i va) :=
  ps_imp (ps_set hN hi hx h hs hf) fun _ _ _ h => asg_core h
end Pv

namespace HT
open PySem PySem.Spec PyProof.Rows
section
variable {prog : Program} {w : World} {A : Around} {E : Value → Shared → Prop} {s : Shared}
theorem draw_list {it t : Addr} {items : Array Value} (hne : t ≠ it) : ∀ (n i : Nat) (s : Shared) (Q : List Value → Shared → Prop), s.heap.IsListIter it t i → s.heap.IsList t items → i + n ≤ items.size →
    (∀ h' : Heap, h'.IsListIter it t (i + n) → Heap.SameBut it s.heap h' → Q ((items.toList.drop i).take n) { s with heap := h' }) → wpAny (model prog w) A (draw (.ref it) n) Q E s
  | 0, i, s, Q, hit, _, _, hQ => by
    show wpAny _ _ (pure []) Q E s
    exact wpAny_pure (by simpa using hQ s.heap hit (Heap.SameBut.refl ..))
  | n + 1, i, s, Q, hit, ht, hle, hQ => by
    have hlt : i < items.size := by omega
    show wpAny _ _ (pyNext (.ref it) >>= _) Q E s
    refine wpAny_bind (wpAny_pyNext_list_item hit ht (x := items[i]) (by simp [hlt]) fun h₁ hit₁ hs₁ => ?_)
    refine wpAny_bind (wpAny_holding (draw_list hne n (i + 1) _ _ hit₁ (ht.extBut hs₁.extBut hne) (by omega) fun h₂ hit₂ hs₂ => wpAny_pure ?_))
    have hd : items.toList.drop i = items[i] :: items.toList.drop (i + 1) := by simp [List.drop_eq_getElem_cons, hlt]
    have := hQ h₂ (by rw [show i + (n + 1) = i + 1 + n by omega]; exact hit₂) (hs₁.trans hs₂)
    rw [hd, List.take_succ_cons] at this
    exact this
theorem unpackItems_list {t : Addr} {items : Array Value} {Q : List Value → Shared → Prop} (hh : A.handled = none) (ht : s.heap.IsList t items)
    (hQ : ∀ h', Heap.ExtBut s.heap.objs.size s.heap h' → Q items.toList { s with heap := h' }) : wpAny (model prog w) A (unpackItems (.ref t) items.size none) Q E s := by
  have hlt : t ≠ s.heap.objs.size := by obtain ⟨o, ho, _⟩ := ht; exact Nat.ne_of_lt (Heap.lt_size ho)
  unfold unpackItems
  refine wpAny_bind ?_
  · unfold notIterableAtAll
    refine wpAny_bind (wpAny_specialOf ht.typeIs slot_list_iter.lookup ?_)
    refine wpAny_pure ?_
    simp only [Bool.false_eq_true, if_false]
    refine wpAny_bind (wpAny_holding (wpAny_pyIter_list ht ?_))
    refine wpAny_bind (wpAny_holding (draw_list hlt items.size 0 _ _ ⟨_, Heap.get?_push_size _ rfl, rfl, rfl⟩ (ht.push _) (by omega) fun h₁ hit₁ hs₁ => ?_))
    have hall : List.take items.size (List.drop 0 items.toList) = items.toList := by
      rw [List.drop_zero]; exact List.take_of_length_le (by simp)
    rw [hall]
    rw [if_neg (by simp)]
    have ht₁ : h₁.IsList t items := (ht.push _).extBut hs₁.extBut hlt
    refine wpAny_bind (wpAny_holding (wpAny_pyNext_list_end hh hit₁ ht₁ (by simp) fun h₂ he₂ => ?_))
    simp only [Option.isSome_none, Bool.false_eq_true, if_false]
    refine wpAny_pure (hQ h₂ fun b o hb e => he₂ b o hb (hs₁.extBut b o hb (Heap.get?_push_of_some _ e)))
theorem assign_Tuple_list {env : Env} {elts : List Expr} {x1} {pos : Pos} {t : Addr} {items : Array Value} {Q : Unit → Shared → Prop} (hh : A.handled = none) (ht : s.heap.IsList t items)
    (hn : (assignEach elts env).length = items.size) (hstar : (assignEach elts env).findIdx? (·.1) = none)
    (h : ∀ h', Heap.ExtBut s.heap.objs.size s.heap h' → wpAny (model prog w) A (assignInOrder ((assignEach elts env).map (·.2)) items.toList) Q E { s with heap := h' }) :
    wpAny (model prog w) A (assign (.Tuple elts x1 pos) env (.ref t)) Q E s := by
  rw [assign_Tuple]
  refine wpAny_bind (wpAny_standAt ?_)
  unfold unpack
  rw [hn, hstar]
  exact wpAny_bind (wpAny_holding (unpackItems_list hh ht h))
end
end HT
namespace L2
open PySem PySem.Spec PyProof.Rows
variable {X : Cx} {pos : Pos}
/-- (a, b, ..) = a tuple or a list of that length -/
def gTupA (K : PySem.W.Frag) (n : Nat) (t : TGs) : TG := fun v σ H Q => ∃ a xs, v = .ref a ∧ (SqT K H a xs ∨ SqL K H a xs) ∧ xs.length = n ∧ t xs σ H Q
theorem pg_tupA {es : List Expr} {k : Nat} {t : TGs} {n : Nat} (hc : X.calm = true) (h : PGs X es t)
    (hn : (assignEach es X.env).length = n := by rfl) (hst : (assignEach es X.env).findIdx? (·.1) = none := by rfl) : PG X (.Tuple es k pos) (gTupA X.K n t) := by
  refine ⟨fun pins s σ H v u Q I r hw => ?_⟩
  obtain ⟨a, xs, e1, hq, hl, hw⟩ := hw
  subst e1
  cases r
  rcases hq with hq | hq
  · obtain ⟨its, rv, ht, hz⟩ := I.tuple hq
    refine assign_Tuple_tuple (I.ok.hd hc) ht (by simp [hn, ← hl, rv.length]) hst fun h' hx => ?_
    have I1 : Inv X pins σ H { s with heap := h' } := I.kept (t' := s.toks) fun b o e => hx b o (Nat.ne_of_lt (Heap.lt_size e)) e
    exact h.run pins _ σ H xs _ Q I1 (by simpa using rv) hw
  · obtain ⟨its, rv, ht, hz⟩ := I.list hq
    refine HT.assign_Tuple_list (I.ok.hd hc) ht.isList (by simp [hn, ← hl, rv.length]) hst fun h' hx => ?_
    have I1 : Inv X pins σ H { s with heap := h' } := I.kept (t' := s.toks) fun b o e => hx b o (Nat.ne_of_lt (Heap.lt_size e)) e
    exact h.run pins _ σ H xs _ Q I1 (by simpa using rv) hw
end L2
namespace Pv
open PySem PySem.Spec L2
variable [TabL]

def over (W F : Hp) : Hp := fun a => match W a with
  | some o => some o
  | none => F a
def Gh.hid (g : Gh) (W : Hp) : Gh := { g with F := over W g.F, Z := fun a => W a ≠ none ∨ g.Z a }
theorem over_none {W F : Hp} {a : Addr} (h : over W F a = none) : W a = none ∧ F a = none := by
  unfold over at h
  cases e : W a with
  | none => rw [e] at h; exact ⟨rfl, h⟩
  | some o => rw [e] at h; cases h
theorem over_none' {W F : Hp} {a : Addr} (h1 : W a = none) (h2 : F a = none) : over W F a = none := by
  unfold over
  rw [h1]; exact h2
theorem over_some {W F : Hp} {a : Addr} {o : HO} (h : over W F a = some o) : W a = some o ∨ (W a = none ∧ F a = some o) := by
  unfold over at h
  cases e : W a with
  | none => rw [e] at h; exact .inr ⟨rfl, h⟩
  | some x => rw [e] at h; exact .inl h
theorem tabS_upd {H : Hp} {a P : Addr} {q : Str} {o o' : HO} (e : H a = some o) (n : NoTab o) (n2 : ∀ f, o ≠ .ext f) (t : LamX.TabS H P q) : LamX.TabS (upd H a o') P q := by
  obtain ⟨ps, h1, h2, h3⟩ := t
  have hP : P ≠ a := fun z => by subst z; rw [e] at h1; cases h1; exact n ps rfl
  refine ⟨ps, by rw [upd_ne hP]; exact h1, h2, fun pos cv hc => ?_⟩
  obtain ⟨c, e1, e2⟩ := h3 pos cv hc
  have hca : c ≠ a := fun z => by subst z; rw [e] at e2; cases e2; exact n2 _ rfl
  exact ⟨c, e1, by rw [upd_ne hca]; exact e2⟩
theorem Own.nx {K : PySem.W.Frag} {φ : List Addr} {G : Hp} {o : HO} {d : D} (h : Own K φ G o d) : ∀ f, o ≠ .ext f := fun f e => by cases h <;> cases e
theorem CellAt.nx {K : PySem.W.Frag} {φ : List Addr} {G : Hp} {o : HO} {c : Cell} (h : CellAt K φ G o c) : ∀ f, o ≠ .ext f := by
  cases h with
  | d a => exact a.nx
  | obj a => exact fun f e => by cases e
section
variable {g : Gh} {G G' : Hp} {φ φ' : List Addr} {s s' : Sg} {σ σ' : St} {H H' : Hp} {W : Hp}
theorem Rel.hide (R : Rel g G φ s σ H) (h1 : Same W H) (h2 : ∀ a o, W a = some o → G a = none ∧ a ∉ φ) (h3 : ∀ (i : Nat) d a, s.env[i]? = some (Slot.own d) → σ[i]? = some (some (V.ref a)) → W a = none) (h4 : ∀ b o, W b = some o → NoTab o) : Rel (g.hid W) G φ s σ H := by
  refine ⟨R.sub, R.g0, R.new, fun a o e => ?_, R.use, fun a z => ⟨?_, fun q => ?_⟩, R.pre, R.len, R.fro, fun i d e => ?_, R.sep, R.clen, fun n a c e1 e2 => ?_, R.nd, fun b o e => (over_some e).elim (fun e => h4 b o e) (fun e => R.nt b o e.2), R.tab⟩
  · rcases over_some e with e | ⟨_, e⟩
    · exact h1 a o e
    · exact R.old a o e
  · rcases (show W a ≠ none ∨ g.Z a from z) with z | z
    · cases q : W a with
      | none => exact absurd q z
      | some o => exact (h2 a o q).1
    · exact (R.zed a z).1
  · obtain ⟨q1, q2⟩ := over_none (show over W g.F a = none from q)
    rcases (show W a ≠ none ∨ g.Z a from z) with z | z
    · exact z q1
    · exact (R.zed a z).2 q2
  · obtain ⟨p, o, e1, e2, e3, e4, e5, e6, e7⟩ := R.own i d e
    exact ⟨p, o, e1, e2, e3, e4, over_none' (h3 i d p e e1) e5, e6, e7⟩
  · obtain ⟨o, b1, b2, b3, b4, b5⟩ := R.cell n a c e1 e2
    refine ⟨o, b1, b2, b3, over_none' ?_ b4, b5⟩
    cases q : W a with
    | none => rfl
    | some x => exact absurd (List.mem_of_getElem? e1) (h2 a x q).2
theorem Rel.unhide (hz : ∀ a, g.Z a → g.F a ≠ none) (R : Rel (g.hid W) G φ s σ H) (hw : ∀ a o, W a = some o → g.F a = none) : Rel g G φ s σ H := by
  refine ⟨R.sub, R.g0, R.new, fun a o e => ?_, R.use, fun a z => ⟨(R.zed a (Or.inr z)).1, hz a z⟩, R.pre, R.len, R.fro, fun i d e => ?_, R.sep, R.clen, fun n a c e1 e2 => ?_, R.nd, fun a o e => R.nt a o (by
    show over W g.F a = some o
    unfold over
    cases q : W a with
    | none => exact e
    | some x => rw [hw a x q] at e; cases e), R.tab⟩
  · refine R.old a o ?_
    show over W g.F a = some o
    unfold over
    cases q : W a with
    | none => exact e
    | some x => rw [hw a x q] at e; cases e
  · obtain ⟨p, o, e1, e2, e3, e4, e5, e6, e7⟩ := R.own i d e
    exact ⟨p, o, e1, e2, e3, e4, (over_none e5).2, e6, e7⟩
  · obtain ⟨o, b1, b2, b3, b4, b5⟩ := R.cell n a c e1 e2
    exact ⟨o, b1, b2, b3, (over_none b4).2, b5⟩
def one (p : Addr) (o : HO) : Hp := upd (fun _ => none) p o
theorem one_some {p a : Addr} {o x : HO} (h : one p o a = some x) : a = p ∧ x = o := by
  by_cases e : a = p
  · subst e
    unfold one at h
    rw [upd_same] at h
    cases h
    exact ⟨rfl, rfl⟩
  · unfold one at h
    rw [upd_ne e] at h
    cases h
/-- a pending own thing is hidden, and comes back -/
theorem Rel.pend {p : Addr} {o : HO} {d : D} (R : Rel g G φ s σ H) (F : Fresh g G φ s σ H p o d) : Rel (g.hid (one p o)) G φ s σ H := by
  refine R.hide (fun a x e => ?_) (fun a x e => ?_) (fun i e a h1 h2 => ?_) fun a x e => by obtain ⟨_, rfl⟩ := one_some e; exact F.own.nt
  · obtain ⟨rfl, rfl⟩ := one_some e; exact F.at_
  · obtain ⟨rfl, rfl⟩ := one_some e; exact ⟨F.gp, F.ph⟩
  · unfold one
    rw [upd_ne (by rintro rfl; exact F.sl i e h1 h2)]
theorem Rel.back {p : Addr} {o : HO} {d : D} (R : Rel g G φ s σ H) (F : Fresh g G φ s σ H p o d) (R' : Rel (g.hid (one p o)) G' φ' s' σ' H') (h1 : Same G G') (h2 : φ <+: φ') : Rel g G' φ' s' σ' H' ∧ Fresh g G' φ' s' σ' H' p o d := by
  have fw : over (one p o) g.F p = some o := by unfold over one; rw [upd_same]
  refine ⟨R'.unhide (fun a z => (R.zed a z).2) fun a x e => ?_, ⟨R'.old p o fw, F.own.mono h1 h2, (R'.zed p (Or.inl ?_)).1, F.fp, F.up, fun hm => ?_, fun i e q1 q2 => ?_⟩⟩
  · obtain ⟨rfl, rfl⟩ := one_some e; exact F.fp
  · unfold one; rw [upd_same]; simp
  · obtain ⟨n, hn⟩ := List.getElem?_of_mem hm
    have hl : n < s'.st.length := by rw [R'.clen]; exact (List.getElem?_eq_some_iff.mp hn).1
    obtain ⟨o', _, _, _, e, _⟩ := R'.cell n p _ hn (List.getElem?_eq_getElem hl)
    rw [show (g.hid (one p o)).F p = some o from fw] at e
    cases e
  · obtain ⟨p', o', e1, _, _, _, e5, _⟩ := R'.own i e q1
    rw [q2] at e1
    cases e1
    rw [show (g.hid (one p o)).F p = some o from fw] at e5
    cases e5
/-- a pending own thing is changed -/
theorem Rel.setPend {p : Addr} {o o' : HO} {d d' : D} (R : Rel g G φ s σ H) (F : Fresh g G φ s σ H p o d) (w : Own g.K φ G o' d') : Rel g G φ s σ (upd H p o') ∧ Fresh g G φ s σ (upd H p o') p o' d' := by
  refine ⟨⟨fun a x e => ?_, R.g0, R.new, fun a x e => ?_, fun a u => ?_, R.zed, R.pre, R.len, R.fro, fun i x e => ?_, R.sep, R.clen, fun n a c e1 e2 => ?_, R.nd, R.nt, ⟨fun p hp => tabS_upd F.at_ F.own.nt F.own.nx (R.tab.1 p hp), R.tab.2⟩⟩, ⟨upd_same, w, F.gp, F.fp, F.up, F.ph, F.sl⟩⟩
  · rw [upd_ne (by rintro rfl; rw [F.gp] at e; cases e)]; exact R.sub a x e
  · rw [upd_ne (by rintro rfl; rw [F.fp] at e; cases e)]; exact R.old a x e
  · rw [upd_ne (by rintro rfl; exact F.up u)]; exact R.use a u
  · obtain ⟨q, y, e1, e2, e3⟩ := R.own i x e
    refine ⟨q, y, e1, ?_, e3⟩
    rw [upd_ne (by rintro rfl; exact F.sl i x e e1)]; exact e2
  · obtain ⟨y, b1, b2⟩ := R.cell n a c e1 e2
    refine ⟨y, ?_, b2⟩
    rw [upd_ne (by rintro rfl; exact F.ph (List.mem_of_getElem? e1))]; exact b1
/-- an own slot's thing is changed -/
theorem Rel.setOwn {i : Nat} {p : Addr} {o' : HO} {d d' : D} (R : Rel g G φ s σ H) (e : s.env[i]? = some (.own d)) (hp : σ[i]? = some (some (.ref p))) (w : Own g.K φ G o' d') : Rel g G φ { s with env := s.env.set i (.own d') } σ (upd H p o') := by
  obtain ⟨p', o, e1, e2, e3, e4, e5, e6, e7⟩ := R.own i d e
  rw [hp] at e1
  cases e1
  have il : i < s.env.length := (List.getElem?_eq_some_iff.mp e).1
  refine ⟨fun a x q => ?_, R.g0, R.new, fun a x q => ?_, fun a u => ?_, R.zed, R.pre, by simpa using R.len, fun j x q => ?_, fun j x q => ?_, fun j k x y q hjk q1 q2 q3 => ?_, R.clen, fun n a c q1 q2 => ?_, R.nd, R.nt, ⟨fun p hp => tabS_upd e2 e3.nt e3.nx (R.tab.1 p hp), R.tab.2⟩⟩
  · rw [upd_ne (by rintro rfl; rw [e4] at q; cases q)]; exact R.sub a x q
  · rw [upd_ne (by rintro rfl; rw [e5] at q; cases q)]; exact R.old a x q
  · rw [upd_ne (by rintro rfl; exact e6 u)]; exact R.use a u
  · by_cases hj : j = i
    · subst hj; rw [List.getElem?_set_self il] at q; cases q
    · rw [List.getElem?_set_ne (Ne.symm hj)] at q; exact R.fro j x q
  · by_cases hj : j = i
    · subst hj; rw [List.getElem?_set_self il] at q; cases q
      exact ⟨p, o', hp, upd_same, w, e4, e5, e6, e7⟩
    · rw [List.getElem?_set_ne (Ne.symm hj)] at q
      obtain ⟨p2, o2, a1, a2, a3⟩ := R.own j x q
      refine ⟨p2, o2, a1, ?_, a3⟩
      rw [upd_ne (by rintro rfl; exact R.sep i j _ _ _ (Ne.symm hj) e q hp a1)]; exact a2
  · have own_of : ∀ {j : Nat} {x : D}, (s.env.set i (.own d'))[j]? = some (.own x) → ∃ y, s.env[j]? = some (.own y) := fun {j x} q => by
      by_cases hj : j = i
      · subst hj; exact ⟨d, e⟩
      · rw [List.getElem?_set_ne (Ne.symm hj)] at q; exact ⟨x, q⟩
    obtain ⟨x', q1'⟩ := own_of q1
    obtain ⟨y', q2'⟩ := own_of q2
    exact R.sep j k x' y' q hjk q1' q2' q3
  · obtain ⟨y, b1, b2⟩ := R.cell n a c q1 q2
    refine ⟨y, ?_, b2⟩
    rw [upd_ne (by rintro rfl; exact e7 (List.mem_of_getElem? q1))]; exact b1
/-- a cell's thing is changed -/
theorem Rel.setCell {n : Nat} {a : Addr} {o' : HO} {c c' : Cell} (R : Rel g G φ s σ H) (ha : φ[n]? = some a) (hc : s.st[n]? = some c) (w : CellAt g.K φ G o' c') : Rel g G φ { s with st := s.st.set n c' } σ (upd H a o') := by
  obtain ⟨o, e1, e2, e3, e4, e5⟩ := R.cell n a c ha hc
  have nl : n < s.st.length := (List.getElem?_eq_some_iff.mp hc).1
  have am : a ∈ φ := List.mem_of_getElem? ha
  refine ⟨fun b x q => ?_, R.g0, R.new, fun b x q => ?_, fun b u => ?_, R.zed, R.pre, R.len, R.fro, fun j x q => ?_, R.sep, by simpa using R.clen, fun m b x q1 q2 => ?_, R.nd, R.nt, ⟨fun p hp => tabS_upd e1 e2.nt e2.nx (R.tab.1 p hp), R.tab.2⟩⟩
  · rw [upd_ne (by rintro rfl; rw [e3] at q; cases q)]; exact R.sub b x q
  · rw [upd_ne (by rintro rfl; rw [e4] at q; cases q)]; exact R.old b x q
  · by_cases hb : b = a
    · subst hb; rw [upd_same]; simp
    · rw [upd_ne hb]; exact R.use b u
  · obtain ⟨p, y, a1, a2, a3, a4, a5, a6, a7⟩ := R.own j x q
    refine ⟨p, y, a1, ?_, a3, a4, a5, a6, a7⟩
    rw [upd_ne (by rintro rfl; exact a7 am)]; exact a2
  · by_cases hm : m = n
    · subst hm
      rw [ha] at q1
      cases q1
      rw [List.getElem?_set_self nl] at q2
      cases q2
      exact ⟨o', upd_same, w, e3, e4, e5⟩
    · rw [List.getElem?_set_ne (Ne.symm hm)] at q2
      obtain ⟨y, b1, b2⟩ := R.cell m b x q1 q2
      refine ⟨y, ?_, b2⟩
      rw [upd_ne (by
        rintro rfl
        obtain ⟨l1, f1⟩ := List.getElem?_eq_some_iff.mp ha
        obtain ⟨l2, f2⟩ := List.getElem?_eq_some_iff.mp q1
        exact hm ((List.getElem_inj R.nd).mp (f2.trans f1.symm)))]
      exact b1
end

theorem wipe_get {σ : St} {j : Nat} : ∀ {vs : List Nat}, (wipe σ vs)[j]? = if j ∈ vs ∧ j < σ.length then some none else σ[j]?
  | [] => by simp [wipe]
  | v :: vs => by
    unfold wipe
    by_cases h : j = v
    · subst h
      by_cases hl : j < σ.length
      · rw [List.getElem?_set_self (by rw [wipe_length]; exact hl), if_pos ⟨List.mem_cons_self, hl⟩]
      · rw [List.getElem?_eq_none (by rw [List.length_set, wipe_length]; omega), if_neg (fun q => hl q.2), List.getElem?_eq_none (by omega)]
    · rw [List.getElem?_set_ne (Ne.symm h), wipe_get]
      by_cases hm : j ∈ vs ∧ j < σ.length
      · rw [if_pos hm, if_pos ⟨List.mem_cons_of_mem _ hm.1, hm.2⟩]
      · rw [if_neg hm, if_neg]
        rintro ⟨q1, q2⟩
        rcases List.mem_cons.mp q1 with e | e
        · exact h e
        · exact hm ⟨e, q2⟩
theorem wipe_set {σ : St} {i : Nat} {x : Option V} {vs : List Nat} (h : i ∈ vs) : wipe (σ.set i x) vs = wipe σ vs := by
  refine List.ext_getElem? fun j => ?_
  rw [wipe_get, wipe_get, List.length_set]
  by_cases hm : j ∈ vs ∧ j < σ.length
  · rw [if_pos hm, if_pos hm]
  · rw [if_neg hm, if_neg hm]
    by_cases e : j = i
    · subst e
      have : ¬ j < σ.length := fun q => hm ⟨h, q⟩
      rw [List.getElem?_eq_none (by simpa using this), List.getElem?_eq_none (by omega)]
    · rw [List.getElem?_set_ne (Ne.symm e)]
theorem pg_imp {X : Cx} {e : Expr} {t t' : TG} (h : PG X e t) (f : ∀ v σ H Q, t' v σ H Q → t v σ H Q) : PG X e t' := ⟨fun pins s σ H v u Q I r q => h.run pins s σ H v u Q I r (f _ _ _ _ q)⟩
theorem pgs_imp {X : Cx} {e : List Expr} {t t' : TGs} (h : PGs X e t) (f : ∀ v σ H Q, t' v σ H Q → t v σ H Q) : PGs X e t' := ⟨fun pins s σ H v u Q I r q => h.run pins s σ H v u Q I r (f _ _ _ _ q)⟩
abbrev Tgt := D → Sg → Option Sg
abbrev Tgts := List D → Sg → Option Sg
/-- vs: the slots that are stored -/
def tG (K : PySem.W.Frag) (vs : List Nat) (ev : Tgt) : TG := fun v σ H Q => ∃ g G φ s d s', g.K = K ∧ Rel g G φ s σ H ∧ Rep g.K φ G v d ∧ ev d s = some s' ∧ ∀ G' φ' σ' H', Rel g G' φ' s' σ' H' → Same G G' → φ <+: φ' → wipe σ' vs = wipe σ vs → Q σ' H'
def tGs (K : PySem.W.Frag) (vs : List Nat) (ev : Tgts) : TGs := fun us σ H Q => ∃ g G φ s ds s', g.K = K ∧ Rel g G φ s σ H ∧ RepA g.K φ G us ds ∧ ev ds s = some s' ∧ ∀ G' φ' σ' H', Rel g G' φ' s' σ' H' → Same G G' → φ <+: φ' → wipe σ' vs = wipe σ vs → Q σ' H'
def SG (X : Cx) (vs : List Nat) (e : Expr) (ev : Tgt) : Prop := PG X e (tG X.K vs ev)
def SGs (X : Cx) (vs : List Nat) (e : List Expr) (ev : Tgts) : Prop := PGs X e (tGs X.K vs ev)
def tgName (i : Nat) : Tgt := fun d s => some { s with env := s.env.set i (.fro d) }
def tgNil : Tgts := fun ds s => match ds with
  | [] => some s
  | _ => none
def tgCons (a : Tgt) (b : Tgts) : Tgts := fun ds s => match ds with
  | [] => none
  | d :: ds => (a d s).bind fun s1 => b ds s1
def tgTup (n : Nat) (b : Tgts) : Tgt := fun d s => match d with
  | .tup ds => if ds.length = n then b ds s else none
  | .lst ds => if ds.length = n then b ds s else none
  | _ => none
section
variable {X : Cx} {vs : List Nat}
theorem sg_name (i : Nat) {x : Str} {pos : Pos} (hN : X.N.Nodup) (hi : X.N[i]? = some x := by rfl) (hx : Loc X.env.scope x := by first | exact Or.inl rfl | exact Or.inr rfl) (hf : X.fn x = true ∨ X.env.scope.names.lookup x = some .local := by first | exact .inl rfl | exact .inr rfl) (hv : i ∈ vs := by decide) : SG X vs (.Name x pos) (tgName i) :=
  pg_imp (pg_name hN hi hx hf) fun v σ H Q ⟨g, G, φ, s, d, s', hK, R, rp, he, q⟩ => by
    cases he
    exact q G φ _ H (R.store i (.fro rp)) (Same.refl _) (List.prefix_refl _) (wipe_set hv)
theorem sgs_nil : SGs X vs [] tgNil := pgs_imp pgs_nil fun v σ H Q ⟨g, G, φ, s, d, s', hK, R, rp, he, q⟩ => by
  cases rp with
  | nil => cases he; exact ⟨rfl, q G φ σ H R (Same.refl _) (List.prefix_refl _) rfl⟩
  | cons => cases he
theorem sgs_cons {e : Expr} {es : List Expr} {a : Tgt} {b : Tgts} (h1 : SG X vs e a) (h2 : SGs X vs es b) (hs : (assignEach (e :: es) X.env).map (·.2) = assign e X.env :: (assignEach es X.env).map (·.2) := by rfl) : SGs X vs (e :: es) (tgCons a b) :=
  pgs_imp (pgs_cons h1 h2 hs) fun v σ H Q ⟨g, G, φ, s, d, s', hK, R, rp, he, q⟩ => by
    cases rp with
    | nil => cases he
    | cons r rs =>
      obtain ⟨s1, e1, he⟩ := bind_some_iff he
      exact ⟨_, _, rfl, g, G, φ, s, _, s1, hK, R, r, e1, fun G1 φ1 σ1 H1 R1 h1 h2 w1 => ⟨g, G1, φ1, s1, _, s', hK, R1, rs.mono h1 h2, he, fun G2 φ2 σ2 H2 R2 h3 h4 w2 => q G2 φ2 σ2 H2 R2 (h1.trans h3) (h2.trans h4) (w2.trans w1)⟩⟩
theorem sg_tup {es : List Expr} {k : Nat} {b : Tgts} {n : Nat} {pos : Pos} (hc : X.calm = true) (h : SGs X vs es b) (hn : (assignEach es X.env).length = n := by rfl) (hst : (assignEach es X.env).findIdx? (·.1) = none := by rfl) : SG X vs (.Tuple es k pos) (tgTup n b) :=
  pg_imp (pg_tupA hc h hn hst) fun v σ H Q ⟨g, G, φ, s, d, s', hK, R, rp, he, q⟩ => by
    cases rp with
    | tup st ra =>
      have he : (if _ then _ else _) = _ := he
      split at he
      · rename_i hl
        exact ⟨_, _, rfl, .inl (SqT.of (R.sub _ _ st)), ra.length.trans hl, g, G, φ, s, _, s', hK, R, ra, he, q⟩
      · cases he
    | lst st ra =>
      have he : (if _ then _ else _) = _ := he
      split at he
      · rename_i hl
        exact ⟨_, _, rfl, .inr (SqL.of (R.sub _ _ st)), ra.length.trans hl, g, G, φ, s, _, s', hK, R, ra, he, q⟩
      · cases he
    | _ => cases he
/-- target = value, the value frozen -/
def evAsg (t : Tgt) (a : Ev RV) : Ev Out := fun s => (a s).bind fun p => (t p.1.d p.2).map fun s' => (.nx, s')
theorem ss_asg {tg e : Expr} {t : Tgt} {va : Ev RV} {pos : Pos} (he : SR X e va) (hg : SG X vs tg t) (hs : swapsWithSole [tg] e pos.line X.env = pure false := by rfl) (hw : swappedStores [tg] e X.env = pure none := by rfl)
    (h1 : (assignEach [tg] X.env).map (·.2) = [assign tg X.env] := by rfl) : SS X (.Assign [tg] e pos) (evAsg t va) := ps_imp (ps_asg he hg hs hw h1) fun E σ H ⟨g, G, φ, s, o, s', hK, R, he, q⟩ => by
  obtain ⟨⟨p1, p2⟩, e1, he⟩ := bind_some_iff he
  obtain ⟨s1, e2, he⟩ := map_some_iff he
  cases he
  refine ⟨g, G, φ, s, p1, p2, hK, R, e1, fun G1 φ1 H1 v R1 h1 h2 x => ?_⟩
  obtain ⟨G2, R2, h3, rp⟩ := x.froz R1
  exact ⟨g, G2, φ1, p2, _, _, hK, R2, rp, e2, fun G3 φ3 σ3 H3 R3 h4 h5 _ => q G3 φ3 σ3 H3 R3 ((h1.trans h3).trans h4) (h2.trans h5)⟩
/-- a, b = e1, e2 -/
def evPar (i j : Nat) (a b : Ev RV) : Ev Out := fun s => (a s).bind fun p => (b p.2).map fun q => (.nx, { q.2 with env := (q.2.env.set i p.1.slot).set j q.1.slot })
theorem ss_par {i j : Nat} {x y : Str} {a b : Expr} {va vb : Ev RV} {px py pt pos : Pos} {kt k2 pt2} (hc : X.calm = true) (hN : X.N.Nodup) (ha : SR X a va) (hb : SR X b vb) (hi : X.N[i]? = some x := by rfl) (hj : X.N[j]? = some y := by rfl) (hij : i ≠ j := by decide)
    (hx : X.env.scope.names.lookup x = some .local := by rfl) (hy : X.env.scope.names.lookup y = some .local := by rfl)
    (hw : swappedStores [.Tuple [.Name x px, .Name y py] kt pt] (.Tuple [a, b] k2 pt2) X.env = pure (some [x, y]) := by rfl)
    (hs : swapsWithSole [.Tuple [.Name x px, .Name y py] kt pt] (.Tuple [a, b] k2 pt2) pos.line X.env = pure false := by rfl)
    (h1 : starEach [a, b] X.env = (false, eval a X.env) :: starEach [b] X.env := by rfl) (h2 : starEach [b] X.env = (false, eval b X.env) :: starEach [] X.env := by rfl) :
    SS X (.Assign [.Tuple [.Name x px, .Name y py] kt pt] (.Tuple [a, b] k2 pt2) pos) (evPar i j va vb) := ps_imp (ps_par hc hN hi hj hij hx hy (pa_cons ha (pa_cons hb pa_nil h2) h1) hw hs) fun E σ H ⟨g, G, φ, s, o, s', hK, R, he, q⟩ => by
  obtain ⟨⟨p1, p2⟩, e1, he⟩ := bind_some_iff he
  obtain ⟨⟨q1, q2⟩, e2, he⟩ := map_some_iff he
  cases he
  refine ⟨g, G, φ, s, p1, p2, hK, R, e1, fun G1 φ1 H1 v R1 h1 h2 x => ?_⟩
  cases x with
  | fro rp =>
    refine ⟨g, G1, φ1, p2, q1, q2, hK, R1, e2, fun G2 φ2 H2 w R2 h3 h4 y => ⟨_, _, rfl, ?_⟩⟩
    have S1 := R2.store i (.fro (rp.mono h3 h4))
    refine q G2 φ2 _ H2 (S1.store j (r := q1) ?_) (h1.trans h3) (h2.trans h4)
    cases y with
    | fro ry => exact .fro ry
    | own F =>
      refine .own ⟨F.at_, F.own, F.gp, F.fp, F.up, F.ph, fun k e a1 a2 => ?_⟩
      by_cases hk : k = i
      · subst hk
        have a1 : (q2.env.set k (.fro _))[k]? = some (Slot.own e) := a1
        by_cases hl : k < q2.env.length
        · rw [List.getElem?_set_self hl] at a1; cases a1
        · rw [List.getElem?_eq_none (by simpa using hl)] at a1; cases a1
      · have a1 : (q2.env.set i (.fro _))[k]? = some (Slot.own e) := a1
        rw [List.getElem?_set_ne (Ne.symm hk)] at a1 a2
        exact F.sl k e a1 a2
  | own F1 =>
    refine ⟨g.hid (one _ _), G1, φ1, p2, q1, q2, hK, R1.pend F1, e2, fun G2 φ2 H2 w R2 h3 h4 y => ⟨_, _, rfl, ?_⟩⟩
    obtain ⟨R3, F3⟩ := R1.back F1 R2 h3 h4
    have S1 := R3.store i (.own F3)
    refine q G2 φ2 _ H2 (S1.store j (r := q1) ?_) (h1.trans h3) (h2.trans h4)
    cases y with
    | fro ry => exact .fro ry
    | own F =>
      have hne : over (one _ _) g.F _ = none := F.fp
      refine .own ⟨F.at_, F.own, F.gp, (over_none hne).2, F.up, F.ph, fun k e a1 a2 => ?_⟩
      by_cases hk : k = i
      · subst hk
        have hl : k < σ.length := by
          by_cases hl : k < σ.length
          · exact hl
          · rw [List.getElem?_eq_none (by simpa using hl)] at a2; cases a2
        rw [List.getElem?_set_self hl] at a2
        cases a2
        have := (over_none hne).1
        unfold one at this
        rw [upd_same] at this
        cases this
      · have a1 : (q2.env.set i (.own _))[k]? = some (Slot.own e) := a1
        rw [List.getElem?_set_ne (Ne.symm hk)] at a1 a2
        exact F.sl k e a1 a2
end
structure ItOk (K : PySem.W.Frag) (φ : List Addr) (G : Hp) (J : It) (ds : List D) : Prop where
  go : ∀ Gc φc Hc, Same G Gc → φ <+: φc → Same Gc Hc → ∀ i, i < ds.length → J.go i Hc
  stop : ∀ Gc φc Hc, Same G Gc → φ <+: φc → Same Gc Hc → J.stop ds.length Hc
  yld : ∀ Gc φc Hc, Same G Gc → φ <+: φc → Same Gc Hc → ∀ i d x H', ds[i]? = some d → J.yld i Hc x H' → ∃ G', Grow Gc Hc G' H' ∧ Rep K φc G' x d
def tI (K : PySem.W.Frag) (ev : Ev (List D)) : TI := fun σ H R => ∃ g G φ s ds s', g.K = K ∧ Rel g G φ s σ H ∧ ev s = some (ds, s') ∧
  ∀ J G' φ' H', Rel g G' φ' s' σ H' → Same G G' → φ <+: φ' → ItOk g.K φ' G' J ds → R J H'
def SI (X : Cx) (tg iter : Expr) (ev : Ev (List D)) : Prop := PI X tg iter (tI X.K ev)
theorem pi_imp {X : Cx} {tg e : Expr} {t t' : TI} (h : PI X tg e t) (f : ∀ σ H R, t' σ H R → t σ H R) : PI X tg e t' := ⟨fun pins s σ H R I q => h.run pins s σ H R I (f _ _ _ q)⟩
theorem RepA.get {K : PySem.W.Frag} {φ : List Addr} {G : Hp} : ∀ {vs ds} {i : Nat} {d : D}, RepA K φ G vs ds → ds[i]? = some d → ∃ v, vs[i]? = some v ∧ Rep K φ G v d
  | _, _, _, _, .nil, h => by simp at h
  | _, _, 0, _, .cons r _, h => by simp at h; subst h; exact ⟨_, rfl, r⟩
  | _, _, i + 1, _, .cons _ t, h => by
    obtain ⟨v, h1, h2⟩ := RepA.get (i := i) t (by simpa using h)
    exact ⟨v, by simpa using h1, h2⟩
theorem itOk_list {K : PySem.W.Frag} {φ : List Addr} {G : Hp} {a : Addr} {xs : List V} {ds : List D} (h : SqL K G a xs) (r : RepA K φ G xs ds) : ItOk K φ G (Itl K a) ds := by
  refine ⟨fun Gc φc Hc h1 h2 h3 i hi => ?_, fun Gc φc Hc h1 h2 h3 => ⟨xs, sqL_mono (h1.trans h3) h, by rw [r.length]; exact Nat.le_refl _⟩, fun Gc φc Hc h1 h2 h3 i d x H' hd hy => ?_⟩
  · have hl : i < xs.length := by rw [r.length]; exact hi
    exact ⟨xs, xs[i], sqL_mono (h1.trans h3) h, List.getElem?_eq_getElem hl⟩
  · obtain ⟨rfl, hy⟩ := hy
    obtain ⟨v, e1, e2⟩ := r.get hd
    have e3 := hy xs (sqL_mono (h1.trans h3) h)
    rw [e1] at e3
    cases e3
    exact ⟨Gc, Grow.refl h3, e2.mono h1 h2⟩
theorem itOk_tup {K : PySem.W.Frag} {φ : List Addr} {G : Hp} {a : Addr} {xs : List V} {ds : List D} (h : SqT K G a xs) (r : RepA K φ G xs ds) : ItOk K φ G (Itt K a) ds := by
  refine ⟨fun Gc φc Hc h1 h2 h3 i hi => ?_, fun Gc φc Hc h1 h2 h3 => ⟨xs, sqT_mono (h1.trans h3) h, by rw [r.length]; exact Nat.le_refl _⟩, fun Gc φc Hc h1 h2 h3 i d x H' hd hy => ?_⟩
  · have hl : i < xs.length := by rw [r.length]; exact hi
    exact ⟨xs, xs[i], sqT_mono (h1.trans h3) h, List.getElem?_eq_getElem hl⟩
  · obtain ⟨rfl, hy⟩ := hy
    obtain ⟨v, e1, e2⟩ := r.get hd
    have e3 := hy xs (sqT_mono (h1.trans h3) h)
    rw [e1] at e3
    cases e3
    exact ⟨Gc, Grow.refl h3, e2.mono h1 h2⟩
def dLst : D → Option (List D)
  | .lst ds => some ds
  | _ => none
def dTup : D → Option (List D)
  | .tup ds => some ds
  | _ => none
def evItL (a : Ev RV) : Ev (List D) := fun s => (a s).bind fun p => (dLst p.1.d).map fun ds => (ds, p.2)
def evItT (a : Ev RV) : Ev (List D) := fun s => (a s).bind fun p => (dTup p.1.d).map fun ds => (ds, p.2)
theorem si_list {X : Cx} {tg e : Expr} {a : Ev RV} (h : SR X e a) : SI X tg e (evItL a) := pi_imp (pi_list h) fun σ H R' ⟨g, G, φ, s, ds, s', hK, R, he, q⟩ => by
  obtain ⟨⟨p1, p2⟩, e1, he⟩ := bind_some_iff he
  obtain ⟨ds', e2, he⟩ := map_some_iff he
  cases he
  refine ⟨g, G, φ, s, p1, p2, hK, R, e1, fun G1 φ1 H1 v R1 h1 h2 x => ?_⟩
  obtain ⟨G2, R2, h3, rp⟩ := x.froz R1
  cases hd : p1.d with
  | lst ds0 =>
    rw [hd] at rp e2
    cases e2
    cases rp with
    | lst st ra => exact ⟨_, rfl, ⟨_, SqL.of (R2.sub _ _ st)⟩, hK ▸ q _ G2 φ1 H1 R2 (h1.trans h3) h2 (itOk_list (SqL.of st) ra)⟩
  | _ => rw [hd] at e2; cases e2
theorem si_tup {X : Cx} {tg e : Expr} {a : Ev RV} (h : SR X e a) : SI X tg e (evItT a) := pi_imp (pi_tup h) fun σ H R' ⟨g, G, φ, s, ds, s', hK, R, he, q⟩ => by
  obtain ⟨⟨p1, p2⟩, e1, he⟩ := bind_some_iff he
  obtain ⟨ds', e2, he⟩ := map_some_iff he
  cases he
  refine ⟨g, G, φ, s, p1, p2, hK, R, e1, fun G1 φ1 H1 v R1 h1 h2 x => ?_⟩
  obtain ⟨G2, R2, h3, rp⟩ := x.froz R1
  cases hd : p1.d with
  | tup ds0 =>
    rw [hd] at rp e2
    cases e2
    cases rp with
    | tup st ra => exact ⟨_, rfl, ⟨_, SqT.of (R2.sub _ _ st)⟩, hK ▸ q _ G2 φ1 H1 R2 (h1.trans h3) h2 (itOk_tup (SqT.of st) ra)⟩
  | _ => rw [hd] at e2; cases e2
def upTo (lo : Int) (n : Nat) : List D := (List.range n).map fun i => .int (lo + (i : Nat))
theorem itOk_range {K : PySem.W.Frag} {φ : List Addr} {G : Hp} (lo : Int) (n : Nat) : ItOk K φ G (Itr lo n) (upTo lo n) := by
  have hl : (upTo lo n).length = n := by unfold upTo; simp
  refine ⟨fun Gc φc Hc h1 h2 h3 i hi => by rw [hl] at hi; exact hi, fun Gc φc Hc h1 h2 h3 => by rw [hl]; exact Nat.le_refl _, fun Gc φc Hc h1 h2 h3 i d x H' hd hy => ?_⟩
  obtain ⟨rfl, rfl⟩ := hy
  have hi : i < n := by
    have := (List.getElem?_eq_some_iff.mp hd).1
    rw [hl] at this
    exact this
  unfold upTo at hd
  rw [List.getElem?_map, List.getElem?_range hi] at hd
  cases hd
  exact ⟨Gc, Grow.refl h3, .int _⟩
def small62 (i : Int) : Bool := decide (-1000000 ≤ i) && decide (i ≤ 1000000)
theorem small62_ok {i : Int} (h : small62 i = true) : -(2 ^ 62) ≤ i ∧ i < 2 ^ 62 := by
  unfold small62 at h
  rw [Bool.and_eq_true, decide_eq_true_eq, decide_eq_true_eq] at h
  omega
def evRng1 (a : Ev (List D)) : Ev (List D) := fun s => (a s).bind fun p => match p.1 with
  | [.int j] => if small62 j then some (upTo 0 j.toNat, p.2) else none
  | _ => none
def evRng2 (a : Ev (List D)) : Ev (List D) := fun s => (a s).bind fun p => match p.1 with
  | [.int i, .int j] => if small62 i && small62 j then some (upTo i (j - i).toNat, p.2) else none
  | _ => none
theorem si_range1 {X : Cx} {tg a : Expr} {ta : Ev (List D)} {p pos : Pos} (hg : Gl X "range") (hm : X.mg "range" = none) (ha : SA X [a] ta) (hs : starEach [a] X.env = [(false, eval a X.env)] := by rfl) : SI X tg (.Call (.Name "range" p) [a] [] pos) (evRng1 ta) :=
  pi_imp (pi_range1 hg hm ha hs) fun σ H R' ⟨g, G, φ, s, ds, s', hK, R, he, q⟩ => by
    obtain ⟨⟨p1, p2⟩, e1, he⟩ := bind_some_iff he
    split at he
    · rename_i j ep
      have ep : p1 = _ := ep
      subst ep
      split at he
      · rename_i hsm
        cases he
        refine ⟨g, G, φ, s, _, _, hK, R, e1, fun G1 φ1 H1 v R1 h1 h2 x => ?_⟩
        cases x with
        | cons r rs =>
          cases rs
          cases r
          exact ⟨j, rfl, (small62_ok hsm).1, (small62_ok hsm).2, q _ G1 φ1 H1 R1 h1 h2 (itOk_range 0 _)⟩
      · cases he
    · cases he
theorem si_range2 {X : Cx} {tg a b : Expr} {ta : Ev (List D)} {p pos : Pos} (hg : Gl X "range") (hm : X.mg "range" = none) (ha : SA X [a, b] ta) (hs : starEach [a, b] X.env = [(false, eval a X.env), (false, eval b X.env)] := by rfl) (hs2 : starEach [b] X.env = [(false, eval b X.env)] := by rfl) : SI X tg (.Call (.Name "range" p) [a, b] [] pos) (evRng2 ta) :=
  pi_imp (pi_range2 hg hm ha hs hs2) fun σ H R' ⟨g, G, φ, s, ds, s', hK, R, he, q⟩ => by
    obtain ⟨⟨p1, p2⟩, e1, he⟩ := bind_some_iff he
    split at he
    · rename_i i j ep
      have ep : p1 = _ := ep
      subst ep
      split at he
      · rename_i hsm
        rw [Bool.and_eq_true] at hsm
        cases he
        refine ⟨g, G, φ, s, _, _, hK, R, e1, fun G1 φ1 H1 v R1 h1 h2 x => ?_⟩
        cases x with
        | cons r rs =>
          cases rs with
          | cons r2 rs =>
            cases rs
            cases r
            cases r2
            exact ⟨i, j, rfl, ⟨(small62_ok hsm.1).1, (small62_ok hsm.1).2, (small62_ok hsm.2).1, (small62_ok hsm.2).2⟩, q _ G1 φ1 H1 R1 h1 h2 (itOk_range i _)⟩
      · cases he
    · cases he

def evFor (t : Tgt) (b : Ev Out) : List D → Ev Out
  | [] => fun s => some (.nx, s)
  | d :: ds => fun s => (t d s).bind fun s1 => (b s1).bind fun p => match p.1 with
    | .nx => evFor t b ds p.2
    | .ct => evFor t b ds p.2
    | .bk => some (.nx, p.2)
    | .rt r => some (.rt r, p.2)
def evForS (it : Ev (List D)) (t : Tgt) (b : Ev Out) : Ev Out := fun s => (it s).bind fun p => evFor t b p.1 p.2
theorem ss_for {X : Cx} {vs : List Nat} {tg iter : Expr} {body : List Stmt} {it : Ev (List D)} {t : Tgt} {b : Ev Out} {pos : Pos} (hp : PassesOwn (model X.prog X.w) X.A X.env X.xe) (hc : X.calm = true) (hi : SI X tg iter it) (hg : SG X vs tg t) (hb : SSs X body b) (hs : ∀ x, foldedSetIterable iter X.env x = pure x := by intro _; rfl) : SS X (.For tg iter body [] pos) (evForS it t b) :=
  ps_imp (ps_for hp hc hi hg hb hs) fun E σ H ⟨g, G, φ, s, o, s', hK, R, he, q⟩ => by
    obtain ⟨⟨ds, s1⟩, e1, he⟩ := bind_some_iff he
    refine ⟨g, G, φ, s, ds, s1, hK, R, e1, fun J G1 φ1 H1 R1 h1 h2 ok => ?_⟩
    have q := q.pre h1 h2
    refine ⟨fun i m σ' H' => m = ds.length - i ∧ i ≤ ds.length ∧ ∃ Gc φc sc, Rel g Gc φc sc σ' H' ∧ Same G1 Gc ∧ φ1 <+: φc ∧ evFor t b (ds.drop i) sc = some (o, s'), ⟨ds.length, by simp, Nat.zero_le _, G1, φ1, s1, R1, Same.refl _, List.prefix_refl _, he⟩, ?_⟩
    rintro i m σ' H' ⟨rfl, hi, Gc, φc, sc, Rc, h3, h4, ec⟩
    by_cases hlt : i < ds.length
    · refine .inr ⟨ok.go Gc φc H' h3 h4 Rc.sub i hlt, fun σ2 H2 => ∃ G2 φ2 s2, Rel g G2 φ2 s2 σ2 H2 ∧ Same G1 G2 ∧ φ1 <+: φ2 ∧ evFor t b (ds.drop (i + 1)) s2 = some (o, s'), fun σ2 H2 ⟨G2, φ2, s2, a1, a2, a3, a4⟩ => ⟨ds.length - (i + 1), by omega, rfl, hlt, G2, φ2, s2, a1, a2, a3, a4⟩, fun x H2 hy => ?_⟩
      obtain ⟨G2, gr, rx⟩ := ok.yld Gc φc H' h3 h4 Rc.sub i ds[i] x H2 (List.getElem?_eq_getElem hlt) hy
      have R2 := Rc.grow gr
      rw [List.drop_eq_getElem_cons hlt] at ec
      obtain ⟨s2, e2, ec⟩ := bind_some_iff ec
      refine ⟨g, G2, φc, sc, _, s2, hK, R2, rx, e2, fun G3 φ3 σ3 H3 R3 h5 h6 _ => ?_⟩
      obtain ⟨⟨p1, p2⟩, e3, ec⟩ := bind_some_iff ec
      have h13 : Same G1 G3 := (h3.trans gr.gg).trans h5
      have p13 : φ1 <+: φ3 := h4.trans h6
      refine ⟨g, G3, φ3, s2, p1, p2, hK, R3, e3, ?_⟩
      cases p1 with
      | nx => exact fun G' φ' σ' H' R' a1 a2 => ⟨G', φ', p2, R', h13.trans a1, p13.trans a2, ec⟩
      | ct => exact fun G' φ' σ' H' R' a1 a2 => ⟨G', φ', p2, R', h13.trans a1, p13.trans a2, ec⟩
      | bk =>
        cases ec
        exact fun G' φ' σ' H' R' a1 a2 => q G' φ' σ' H' R' (h13.trans a1) (p13.trans a2)
      | rt r =>
        cases ec
        exact fun G' φ' σ' H' v R' a1 a2 x => q G' φ' σ' H' v R' (h13.trans a1) (p13.trans a2) x
    · have e : i = ds.length := by omega
      subst e
      rw [List.drop_length] at ec
      cases ec
      exact .inl ⟨ok.stop Gc φc H' h3 h4 Rc.sub, q Gc φc σ' H' Rc h3 h4⟩

def evWhN (c : Ev Bool) (b : Ev Out) : Nat → Ev Out
  | 0 => fun _ => none
  | n + 1 => fun s => (c s).bind fun p => if p.1 then (b p.2).bind fun q => match q.1 with
      | .nx => evWhN c b n q.2
      | .ct => evWhN c b n q.2
      | .bk => some (.nx, q.2)
      | .rt r => some (.rt r, q.2)
    else some (.nx, p.2)
open Classical in
noncomputable def evWh (c : Ev Bool) (b : Ev Out) : Ev Out := fun s => if h : ∃ n r, evWhN c b n s = some r then some (Classical.choose (Classical.choose_spec h)) else none
theorem evWhN_succ {c : Ev Bool} {b : Ev Out} : ∀ {n : Nat} {s : Sg} {r : Out × Sg}, evWhN c b n s = some r → evWhN c b (n + 1) s = some r
  | 0, s, r, h => by cases h
  | n + 1, s, r, h => by
    obtain ⟨⟨p1, p2⟩, e1, h⟩ := bind_some_iff h
    show ((c s).bind fun p => _) = _
    rw [e1]
    cases p1 with
    | false => exact h
    | true =>
      have h : (if true = true then _ else _) = _ := h
      rw [if_pos rfl] at h
      obtain ⟨⟨q1, q2⟩, e2, h⟩ := bind_some_iff h
      show ((b p2).bind fun q => _) = _
      rw [e2]
      cases q1 with
      | nx => exact evWhN_succ h
      | ct => exact evWhN_succ h
      | bk => exact h
      | rt x => exact h
theorem evWhN_le {c : Ev Bool} {b : Ev Out} {n m : Nat} {s : Sg} {r : Out × Sg} (h : evWhN c b n s = some r) (l : n ≤ m) : evWhN c b m s = some r := by
  induction l with
  | refl => exact h
  | step _ ih => exact evWhN_succ ih
theorem evWh_of {c : Ev Bool} {b : Ev Out} {n : Nat} {s : Sg} {r : Out × Sg} (h : evWhN c b n s = some r) : evWh c b s = some r := by
  have ex : ∃ n r, evWhN c b n s = some r := ⟨n, r, h⟩
  unfold evWh
  rw [dif_pos ex]
  have e := Classical.choose_spec (Classical.choose_spec ex)
  have e1 := evWhN_le e (Nat.le_max_left (Classical.choose ex) n)
  have e2 := evWhN_le h (Nat.le_max_right (Classical.choose ex) n)
  rw [e1] at e2
  exact e2
theorem evWh_ex {c : Ev Bool} {b : Ev Out} {s : Sg} {r : Out × Sg} (h : evWh c b s = some r) : ∃ n, evWhN c b n s = some r := by
  unfold evWh at h
  split at h
  · rename_i ex
    cases h
    exact ⟨_, Classical.choose_spec (Classical.choose_spec ex)⟩
  · cases h
theorem ss_while {X : Cx} {c : Expr} {body : List Stmt} {tc : Ev Bool} {b : Ev Out} {pos : Pos} (hp : PassesOwn (model X.prog X.w) X.A X.env X.xe) (hc : ST X c tc) (hb : SSs X body b) : SS X (.While c body [] pos) (evWh tc b) :=
  ps_imp (ps_while hp hc hb) fun E σ H ⟨g, G, φ, s, o, s', hK, R, he, q⟩ => by
    obtain ⟨n, he⟩ := evWh_ex he
    refine ⟨fun m σ' H' => ∃ Gc φc sc, Rel g Gc φc sc σ' H' ∧ Same G Gc ∧ φ <+: φc ∧ evWhN tc b m sc = some (o, s'), ⟨n, G, φ, s, R, Same.refl _, List.prefix_refl _, he⟩, ?_⟩
    rintro m σ' H' ⟨Gc, φc, sc, Rc, h3, h4, ec⟩
    cases m with
    | zero => cases ec
    | succ m =>
      obtain ⟨⟨p1, p2⟩, e1, ec⟩ := bind_some_iff ec
      refine ⟨g, Gc, φc, sc, p1, p2, hK, Rc, e1, fun G1 φ1 H1 R1 h5 h6 => ?_⟩
      cases p1 with
      | false =>
        rw [if_neg Bool.false_ne_true]
        cases ec
        exact q G1 φ1 σ' H1 R1 (h3.trans h5) (h4.trans h6)
      | true =>
        rw [if_pos rfl]
        have ec : (if true = true then _ else _) = _ := ec
        rw [if_pos rfl] at ec
        obtain ⟨⟨q1, q2⟩, e2, ec⟩ := bind_some_iff ec
        refine ⟨fun σ2 H2 => ∃ G2 φ2 s2, Rel g G2 φ2 s2 σ2 H2 ∧ Same G G2 ∧ φ <+: φ2 ∧ evWhN tc b m s2 = some (o, s'), fun σ2 H2 ⟨G2, φ2, s2, a1, a2, a3, a4⟩ => ⟨m, Nat.lt_succ_self m, G2, φ2, s2, a1, a2, a3, a4⟩, ?_⟩
        refine ⟨g, G1, φ1, p2, q1, q2, hK, R1, e2, ?_⟩
        have h13 : Same G G1 := h3.trans h5
        have p13 : φ <+: φ1 := h4.trans h6
        cases q1 with
        | nx => exact fun G' φ' σ' H' R' a1 a2 => ⟨G', φ', q2, R', h13.trans a1, p13.trans a2, ec⟩
        | ct => exact fun G' φ' σ' H' R' a1 a2 => ⟨G', φ', q2, R', h13.trans a1, p13.trans a2, ec⟩
        | bk =>
          cases ec
          exact fun G' φ' σ' H' R' a1 a2 => q G' φ' σ' H' R' (h13.trans a1) (p13.trans a2)
        | rt r =>
          cases ec
          exact fun G' φ' σ' H' v R' a1 a2 x => q G' φ' σ' H' v R' (h13.trans a1) (p13.trans a2) x
end Pv

namespace Pv
open PySem PySem.Spec L2
variable [TabL]

def leakSlot (s : Sg) (i : Nat) : Sg := match s.env[i]? with
  | some (.own d) => { s with env := s.env.set i (.fro d) }
  | _ => s
def freezeCap (cap : List Nat) (s : Sg) : Sg := cap.foldl leakSlot s
def hideSlot : Slot → Slot
  | .own _ => .non
  | x => x
def wipeE (env : List Slot) : List Nat → List Slot
  | [] => env
  | v :: vs => (wipeE env vs).set v .non
def blkEnv (vs : List Nat) (env : List Slot) : List Slot := wipeE (env.map hideSlot) vs
section
variable {g : Gh} {G G' : Hp} {φ φ' : List Addr} {s s' : Sg} {σ σ' : St} {H H' : Hp}
theorem Rel.leakS (R : Rel g G φ s σ H) (i : Nat) : ∃ G', Rel g G' φ (leakSlot s i) σ H ∧ Same G G' := by
  unfold leakSlot
  cases e : s.env[i]? with
  | none => exact ⟨G, R, Same.refl _⟩
  | some sl =>
    cases sl with
    | non => exact ⟨G, R, Same.refl _⟩
    | fro d => exact ⟨G, R, Same.refl _⟩
    | own d =>
      obtain ⟨v, G', _, R', h, _⟩ := R.leak e
      exact ⟨G', R', h⟩
theorem Rel.cap : ∀ (cap : List Nat) {s : Sg} {G : Hp}, Rel g G φ s σ H → ∃ G', Rel g G' φ (freezeCap cap s) σ H ∧ Same G G'
  | [], s, G, R => ⟨G, R, Same.refl _⟩
  | i :: cap, s, G, R => by
    obtain ⟨G1, R1, h1⟩ := R.leakS i
    obtain ⟨G2, R2, h2⟩ := Rel.cap cap R1
    exact ⟨G2, R2, h1.trans h2⟩
open Classical in
noncomputable def ownW (env : List Slot) (σ : St) (H : Hp) : Hp := fun a => if ∃ (i : Nat) (d : D), env[i]? = some (Slot.own d) ∧ σ[i]? = some (some (V.ref a)) then H a else none
theorem ownW_some {env : List Slot} {a : Addr} {o : HO} (h : ownW env σ H a = some o) : H a = some o ∧ ∃ (i : Nat) (d : D), env[i]? = some (Slot.own d) ∧ σ[i]? = some (some (V.ref a)) := by
  unfold ownW at h
  split at h
  · rename_i q; exact ⟨h, q⟩
  · cases h
theorem ownW_own {env : List Slot} {i : Nat} {d : D} {a : Addr} (h1 : env[i]? = some (Slot.own d)) (h2 : σ[i]? = some (some (V.ref a))) : ownW env σ H a = H a := by
  unfold ownW
  rw [if_pos ⟨i, d, h1, h2⟩]
theorem wipeE_get {env : List Slot} {j : Nat} : ∀ {vs : List Nat}, (wipeE env vs)[j]? = if j ∈ vs ∧ j < env.length then some .non else env[j]?
  | [] => by simp [wipeE]
  | v :: vs => by
    have hlen : ∀ vs : List Nat, (wipeE env vs).length = env.length := by
      intro vs
      induction vs with
      | nil => rfl
      | cons v vs ih => unfold wipeE; rw [List.length_set, ih]
    unfold wipeE
    by_cases h : j = v
    · subst h
      by_cases hl : j < env.length
      · rw [List.getElem?_set_self (by rw [hlen]; exact hl), if_pos ⟨List.mem_cons_self, hl⟩]
      · rw [List.getElem?_eq_none (by rw [List.length_set, hlen]; omega), if_neg (fun q => hl q.2), List.getElem?_eq_none (by omega)]
    · rw [List.getElem?_set_ne (Ne.symm h), wipeE_get]
      by_cases hm : j ∈ vs ∧ j < env.length
      · rw [if_pos hm, if_pos ⟨List.mem_cons_of_mem _ hm.1, hm.2⟩]
      · rw [if_neg hm, if_neg]
        rintro ⟨q1, q2⟩
        rcases List.mem_cons.mp q1 with e | e
        · exact h e
        · exact hm ⟨e, q2⟩
theorem wipeE_len {env : List Slot} : ∀ vs : List Nat, (wipeE env vs).length = env.length := by
  intro vs
  induction vs with
  | nil => rfl
  | cons v vs ih => unfold wipeE; rw [List.length_set, ih]
theorem blkEnv_get {vs : List Nat} {env : List Slot} {i : Nat} {x : Slot} (h : (blkEnv vs env)[i]? = some x) : (∀ d, x ≠ .own d) ∧ (∀ d, x = .fro d → env[i]? = some (.fro d) ∧ i ∉ vs) := by
  unfold blkEnv at h
  rw [wipeE_get, List.length_map] at h
  split at h
  · cases h
    exact ⟨fun d e => (nomatch e), fun d e => (nomatch e)⟩
  · rename_i hn
    rw [List.getElem?_map] at h
    cases e : env[i]? with
    | none => rw [e] at h; cases h
    | some y =>
      rw [e] at h
      cases y with
      | non => cases h; exact ⟨fun d e => (nomatch e), fun d e => (nomatch e)⟩
      | own d => cases h; exact ⟨fun d e => (nomatch e), fun d e => (nomatch e)⟩
      | fro d =>
        cases h
        refine ⟨fun d e => (nomatch e), fun d' e' => ?_⟩
        cases e'
        exact ⟨rfl, fun hm => hn ⟨hm, (List.getElem?_eq_some_iff.mp e).1⟩⟩
theorem Rel.block (R : Rel g G φ s σ H) (vs : List Nat) : Rel (g.hid (ownW s.env σ H)) G φ ⟨blkEnv vs s.env, s.st⟩ (wipe σ vs) H := by
  have R1 : Rel g G φ ⟨blkEnv vs s.env, s.st⟩ (wipe σ vs) H := by
    refine ⟨R.sub, R.g0, R.new, R.old, R.use, R.zed, R.pre, ?_, fun i d e => ?_, fun i d e => ?_, fun i j d e p _ q _ => ?_, R.clen, R.cell, R.nd, R.nt, R.tab⟩
    · show (blkEnv vs s.env).length = _
      unfold blkEnv
      rw [wipeE_len, List.length_map, wipe_length, R.len]
    · obtain ⟨h1, h2⟩ := (blkEnv_get e).2 d rfl
      obtain ⟨v, a, b⟩ := R.fro i d h1
      exact ⟨v, by rw [wipe_get, if_neg (fun q => h2 q.1)]; exact a, b⟩
    · exact absurd rfl ((blkEnv_get e).1 d)
    · exact absurd rfl ((blkEnv_get q).1 d)
  refine R1.hide (fun a o e => (ownW_some e).1) (fun a o e => ?_) (fun i d a e => absurd rfl ((blkEnv_get e).1 d)) fun a o e => by
    obtain ⟨q, i, d, h1, h2⟩ := ownW_some e
    obtain ⟨p, o', e1, e2, e3, _⟩ := R.own i d h1
    rw [h2] at e1
    cases e1
    rw [q] at e2
    cases e2
    exact e3.nt
  obtain ⟨_, i, d, h1, h2⟩ := ownW_some e
  obtain ⟨p, o', e1, _, _, e4, _, _, e7⟩ := R.own i d h1
  rw [h2] at e1
  cases e1
  exact ⟨e4, e7⟩
theorem Rel.unblock (R : Rel g G φ s σ H) (R' : Rel (g.hid (ownW s.env σ H)) G' φ' s' σ' H') (h1 : Same G G') (h2 : φ <+: φ') : Rel g G' φ' ⟨s.env, s'.st⟩ σ H' := by
  have R1 : Rel g G' φ' s' σ' H' := R'.unhide (fun a z => (R.zed a z).2) fun a o e => by
    obtain ⟨_, i, d, q1, q2⟩ := ownW_some e
    obtain ⟨p, o', e1, _, _, _, e5, _⟩ := R.own i d q1
    rw [q2] at e1
    cases e1
    exact e5
  refine ⟨R1.sub, R1.g0, R1.new, R1.old, R1.use, R1.zed, R1.pre, R.len, fun i d e => ?_, fun i d e => ?_, R.sep, R1.clen, R1.cell, R1.nd, R1.nt, R1.tab⟩
  · obtain ⟨v, a, b⟩ := R.fro i d e
    exact ⟨v, a, b.mono h1 h2⟩
  · obtain ⟨p, o, e1, e2, e3, e4, e5, e6, e7⟩ := R.own i d e
    have w : ownW s.env σ H p = some o := (ownW_own e e1).trans e2
    have fw : (g.hid (ownW s.env σ H)).F p = some o := by
      show over _ _ p = _
      unfold over
      rw [w]
    refine ⟨p, o, e1, R'.old p o fw, e3.mono h1 h2, (R'.zed p (Or.inl (by rw [w]; simp))).1, e5, e6, fun hm => ?_⟩
    obtain ⟨n, hn⟩ := List.getElem?_of_mem hm
    have hl : n < s'.st.length := by rw [R'.clen]; exact (List.getElem?_eq_some_iff.mp hn).1
    obtain ⟨o', _, _, _, q, _⟩ := R'.cell n p _ hn (List.getElem?_eq_getElem hl)
    rw [fw] at q
    cases q
theorem Fresh.unblock {p : Addr} {o : HO} {d : D} (R : Rel g G φ s σ H) (F : Fresh (g.hid (ownW s.env σ H)) G' φ' s' σ' H' p o d) : Fresh g G' φ' ⟨s.env, s'.st⟩ σ H' p o d := by
  have fp : over (ownW s.env σ H) g.F p = none := F.fp
  refine ⟨F.at_, F.own, F.gp, (over_none fp).2, F.up, F.ph, fun i e h1 h2 => ?_⟩
  obtain ⟨p', o', e1, e2, _⟩ := R.own i e h1
  rw [h2] at e1
  cases e1
  have w := ownW_own (H := H) h1 h2
  rw [(over_none fp).1, e2] at w
  cases w
end

theorem pts_imp {X : Cx} {e : List Expr} {t t' : TT} (h : PTs X e t) (f : ∀ σ H Q, t' σ H Q → t σ H Q) : PTs X e t' := ⟨fun pins s σ H Q I q => h.run pins s σ H Q I (f _ _ _ q)⟩
def STs (X : Cx) (e : List Expr) (ev : Ev Bool) : Prop := PTs X e (tT X.K ev)
def evYes : Ev Bool := fun s => some (true, s)
theorem sts_nil {X : Cx} : STs X [] evYes := pts_imp pts_nil fun σ H Q ⟨g, G, φ, s, o, s', hK, R, he, q⟩ => by
  cases he
  exact q G φ H R (Same.refl _) (List.prefix_refl _)
theorem sts_one {X : Cx} {c : Expr} {a : Ev Bool} (h : ST X c a) : STs X [c] a := pts_one h
def evLcGo (t : Tgt) (c : Ev Bool) (e : Ev RV) (env : List Slot) : List D → List Cell → Option (List D × List Cell)
  | [], st => some ([], st)
  | d :: ds, st => (t d ⟨env, st⟩).bind fun s1 => (c s1).bind fun p => if p.1 then (e p.2).bind fun q => (evLcGo t c e env ds q.2.st).map fun r => (q.1.d :: r.1, r.2) else evLcGo t c e env ds p.2.st
def evLc (it : Ev (List D)) (cap vs : List Nat) (t : Tgt) (c : Ev Bool) (e : Ev RV) : Ev RV := fun s => (it s).bind fun p => if p.1.length ≤ 1000000 then
    (evLcGo t c e (blkEnv vs (freezeCap cap p.2).env) p.1 p.2.st).map fun r => (.own (.lst r.1), ⟨(freezeCap cap p.2).env, r.2⟩) else none
theorem freezeCap_st : ∀ (cap : List Nat) (s : Sg), (freezeCap cap s).st = s.st
  | [], s => rfl
  | i :: cap, s => by
    show (freezeCap cap (leakSlot s i)).st = _
    rw [freezeCap_st cap]
    unfold leakSlot
    split <;> rfl
theorem evLcGo_len {t : Tgt} {c : Ev Bool} {e : Ev RV} {env : List Slot} : ∀ {ds : List D} {st : List Cell} {r : List D × List Cell}, evLcGo t c e env ds st = some r → r.1.length ≤ ds.length
  | [], st, r, h => by cases h; exact Nat.le_refl _
  | d :: ds, st, r, h => by
    obtain ⟨s1, _, h⟩ := bind_some_iff h
    obtain ⟨⟨p1, p2⟩, _, h⟩ := bind_some_iff h
    cases p1 with
    | true =>
      have h : (if true = true then _ else _) = _ := h
      rw [if_pos rfl] at h
      obtain ⟨⟨q1, q2⟩, _, h⟩ := bind_some_iff h
      obtain ⟨r', h1, h⟩ := map_some_iff h
      cases h
      exact Nat.succ_le_succ (evLcGo_len h1)
    | false =>
      have h : (if false = true then _ else _) = _ := h
      rw [if_neg Bool.false_ne_true] at h
      exact Nat.le_succ_of_le (evLcGo_len h)
theorem RepA.append {K : PySem.W.Frag} {φ : List Addr} {G : Hp} : ∀ {vs ds ws es}, RepA K φ G vs ds → RepA K φ G ws es → RepA K φ G (vs ++ ws) (ds ++ es)
  | _, _, _, _, .nil, r => r
  | _, _, _, _, .cons a b, r => .cons a (b.append r)
theorem million : (1000000 : Nat) < sizeLine := by rw [sizeLine_eq]; decide
theorem lc_tail {g : Gh} {G1 : Hp} {φ1 : List Addr} {s1 : Sg} {σ : St} {H1 : Hp} {K : PySem.W.Frag} {ds acc : List D} {st' : List Cell} {cap vs : List Nat} {t : Tgt} {c : Ev Bool} {e : Ev RV} {J : It} {Q : VK} (hK : g.K = K)
    (R1 : Rel g G1 φ1 s1 σ H1) (ok : ItOk g.K φ1 G1 J ds) (hsz : ds.length ≤ 1000000) (hev : evLcGo t c e (blkEnv vs (freezeCap cap s1).env) ds s1.st = some (acc, st'))
    (q : ∀ G' φ' H' v, Rel g G' φ' ⟨(freezeCap cap s1).env, st'⟩ σ H' → Same G1 G' → φ1 <+: φ' → Res g G' φ' ⟨(freezeCap cap s1).env, st'⟩ σ H' v (.own (.lst acc)) → Q v H') (Dd : Addr) (hD : H1 Dd = none) :
    ∃ W : Nat → Nat → Hp → Prop, (∃ m, W 0 m (upd H1 Dd (.lst []))) ∧ ∀ i m H, W i m H →
      (J.stop i H ∧ Q (.ref Dd) H) ∨ (J.go i H ∧ ∃ Nx : Hp → Prop, (∀ H', Nx H' → ∃ m', m' < m ∧ W (i + 1) m' H') ∧ ∀ x H', J.yld i H x H' → tG K vs t x (wipe σ vs) H' fun σ2 H2 => wipe σ2 vs = wipe σ vs ∧ tT K c σ2 H2 fun b H3 =>
        if b = true then tR K e σ2 H3 fun y H4 => ∃ acc, H4 Dd = some (.lst acc) ∧ acc.length < sizeLine ∧ Nx (upd H4 Dd (.lst (acc ++ [y]))) else Nx H3) := by
  obtain ⟨Gf, Rf, hf⟩ := Rel.cap cap R1
  have hst : (freezeCap cap s1).st = s1.st := freezeCap_st cap s1
  have Rb := Rf.block vs
  rw [hst] at Rb
  generalize hgb : g.hid (ownW (freezeCap cap s1).env σ H1) = gb at Rb
  have hKb : gb.K = K := by rw [← hgb]; exact hK
  have gr : Grow Gf H1 Gf (upd H1 Dd (.lst [])) := Grow.aside Rb.sub hD
  have F0 : Fresh gb Gf φ1 ⟨blkEnv vs (freezeCap cap s1).env, s1.st⟩ (wipe σ vs) (upd H1 Dd (.lst [])) Dd (.lst []) (.lst []) := Fresh.of_new Rb gr hD upd_same (Rb.sub.free hD) (.lst .nil)
  let benv := blkEnv vs (freezeCap cap s1).env
  refine ⟨fun i m H' => m = ds.length - i ∧ i ≤ ds.length ∧ ∃ Gc φc st accV accD, Rel gb Gc φc ⟨benv, st⟩ (wipe σ vs) H' ∧ Same Gf Gc ∧ φ1 <+: φc ∧ Fresh gb Gc φc ⟨benv, st⟩ (wipe σ vs) H' Dd (.lst accV) (.lst accD) ∧ accD.length ≤ i ∧
    ∃ more, evLcGo t c e benv (ds.drop i) st = some (more, st') ∧ acc = accD ++ more, ⟨ds.length, by simp, Nat.zero_le _, Gf, φ1, s1.st, [], [], Rb.grow gr, Same.refl _, List.prefix_refl _, F0, Nat.le_refl _, acc, hev, rfl⟩, ?_⟩
  rintro i m H' ⟨rfl, hi, Gc, φc, st, accV, accD, Rc, h3, h4, Fc, hal, more, hm, hacc⟩
  have ra : RepA gb.K φc Gc accV accD := by cases Fc.own with | lst r => exact r
  by_cases hlt : i < ds.length
  · refine .inr ⟨ok.go Gc φc H' (hf.trans h3) h4 Rc.sub i hlt, fun H2 => ∃ Gc φc st accV accD, Rel gb Gc φc ⟨benv, st⟩ (wipe σ vs) H2 ∧ Same Gf Gc ∧ φ1 <+: φc ∧ Fresh gb Gc φc ⟨benv, st⟩ (wipe σ vs) H2 Dd (.lst accV) (.lst accD) ∧ accD.length ≤ i + 1 ∧
      ∃ more, evLcGo t c e benv (ds.drop (i + 1)) st = some (more, st') ∧ acc = accD ++ more, fun H2 h => ⟨ds.length - (i + 1), by omega, rfl, hlt, h⟩, fun x H2 hy => ?_⟩
    obtain ⟨G2, gr2, rx⟩ := ok.yld Gc φc H' (hf.trans h3) h4 Rc.sub i ds[i] x H2 (List.getElem?_eq_getElem hlt) hy
    have R2 := Rc.grow gr2
    have F2 : Fresh gb G2 φc ⟨benv, st⟩ (wipe σ vs) H2 Dd (.lst accV) (.lst accD) := by
      refine ⟨gr2.hh.st _ _ Fc.at_ Fc.own.nt, Fc.own.mono gr2.gg (List.prefix_refl _), ?_, Fc.fp, Fc.up, Fc.ph, Fc.sl⟩
      cases z : G2 Dd with
      | none => rfl
      | some u =>
        rcases gr2.new Dd u z with z | z
        · rw [Fc.gp] at z; cases z
        · rw [Fc.at_] at z; cases z
    have Rp := R2.pend F2
    rw [List.drop_eq_getElem_cons hlt] at hm
    obtain ⟨s2, e2, hm⟩ := bind_some_iff hm
    obtain ⟨⟨p1, p2⟩, e3, hm⟩ := bind_some_iff hm
    refine ⟨gb.hid (one Dd (.lst accV)), G2, φc, ⟨benv, st⟩, _, s2, hKb, Rp, (show Rep gb.K φc G2 x ds[i] from (by rw [hKb, ← hK]; exact rx)), e2, fun G3 φ3 σ3 H3 R3 h5 h6 w3 => ⟨w3.trans ?_, ?_⟩⟩
    · exact List.ext_getElem? fun j => by
        rw [wipe_get, wipe_length]
        by_cases hj : j ∈ vs ∧ j < σ.length
        · rw [if_pos hj, wipe_get, if_pos hj]
        · rw [if_neg hj]
    refine ⟨gb.hid (one Dd (.lst accV)), G3, φ3, s2, p1, p2, hKb, R3, e3, fun G4 φ4 H4 R4 h7 h8 => ?_⟩
    have S24 : Same G2 G4 := h5.trans h7
    have P24 : φc <+: φ4 := h6.trans h8
    have fin : ∀ {G5 : Hp} {φ5 : List Addr} {s5 : Sg} {σ5 : St} {H5 : Hp}, Rel (gb.hid (one Dd (.lst accV))) G5 φ5 s5 σ5 H5 → Same G2 G5 → φc <+: φ5 →
        Rel gb G5 φ5 ⟨benv, s5.st⟩ (wipe σ vs) H5 ∧ Fresh gb G5 φ5 ⟨benv, s5.st⟩ (wipe σ vs) H5 Dd (.lst accV) (.lst accD) := fun {G5 φ5 s5 σ5 H5} R5 a b => by
      obtain ⟨Rb5, Fb5⟩ := R2.back F2 R5 a b
      have noown : ∀ (k : Nat) d, benv[k]? = some (Slot.own d) → False := fun k d q => (blkEnv_get q).1 d rfl
      refine ⟨⟨Rb5.sub, Rb5.g0, Rb5.new, Rb5.old, Rb5.use, Rb5.zed, Rb5.pre, R2.len, fun k d q => ?_, fun k d q => (noown k d q).elim, fun k l d _ p _ q => (noown k d q).elim, Rb5.clen, Rb5.cell, Rb5.nd, Rb5.nt, Rb5.tab⟩, ⟨Fb5.at_, Fb5.own, Fb5.gp, Fb5.fp, Fb5.up, Fb5.ph, fun k d q => (noown k d q).elim⟩⟩
      obtain ⟨v, q1, q2⟩ := R2.fro k d q
      exact ⟨v, q1, q2.mono a b⟩
    cases p1 with
    | false =>
      refine L2.iteF ?_
      have hm : (if false = true then _ else _) = _ := hm
      rw [if_neg Bool.false_ne_true] at hm
      obtain ⟨Rz, Fz⟩ := fin R4 S24 P24
      exact ⟨G4, φ4, p2.st, accV, accD, Rz, (h3.trans gr2.gg).trans S24, h4.trans P24, Fz, by omega, more, hm, hacc⟩
    | true =>
      refine L2.iteT ?_
      have hm : (if true = true then _ else _) = _ := hm
      rw [if_pos rfl] at hm
      obtain ⟨⟨r1, r2⟩, e4, hm⟩ := bind_some_iff hm
      obtain ⟨⟨m1, m2⟩, e5, hm⟩ := map_some_iff hm
      cases hm
      refine ⟨gb.hid (one Dd (.lst accV)), G4, φ4, p2, r1, r2, hKb, R4, e4, fun G5 φ5 H5 v R5 h9 h10 y => ?_⟩
      obtain ⟨G6, R6, h11, ry⟩ := y.froz R5
      have S26 : Same G2 G6 := (S24.trans h9).trans h11
      have P25 : φc <+: φ5 := P24.trans h10
      obtain ⟨Rz, Fz⟩ := fin R6 S26 P25
      have hle : accV.length < sizeLine := by
        have := million
        rw [ra.length]
        omega
      refine ⟨accV, Fz.at_, hle, ?_⟩
      have ra2 : RepA gb.K φ5 G6 (accV ++ [v]) (accD ++ [r1.d]) := (ra.mono (gr2.gg.trans S26) P25).append (.cons ry .nil)
      obtain ⟨Ry, Fy⟩ := Rz.setPend Fz (o' := .lst (accV ++ [v])) (d' := .lst (accD ++ [r1.d])) (.lst ra2)
      exact ⟨G6, φ5, r2.st, accV ++ [v], accD ++ [r1.d], Ry, (h3.trans gr2.gg).trans S26, h4.trans P25, Fy, by rw [List.length_append]; show accD.length + 1 ≤ _; omega, m1, e5, by rw [hacc, List.append_assoc]; rfl⟩
  · have ei : i = ds.length := by omega
    subst ei
    rw [List.drop_length] at hm
    cases hm
    rw [List.append_nil] at hacc
    refine .inl ⟨ok.stop Gc φc H' (hf.trans h3) h4 Rc.sub, ?_⟩
    subst hgb
    have Ru := Rf.unblock Rc h3 h4
    have Fu := Fc.unblock Rf
    rw [hacc] at q
    exact q Gc φc H' _ Ru (hf.trans h3) h4 (.own Fu)
section
variable {X : Cx} {elt tg iter : Expr} {ifs : List Expr} {scope : Scope} {own : List (Str × Nat)} {pos : Pos} {it : Ev (List D)} {t : Tgt} {c : Ev Bool} {e : Ev RV}
theorem lc_all {K : PySem.W.Frag} {cap vs : List Nat} {σ : St} {H : Hp} {Q : VK} (h : tR K (evLc it cap vs t c e) σ H Q) : tLc (tI K it) (tG K vs t) (tT K c) (tR K e) vs σ H Q := by
  obtain ⟨g, G, φ, s, r, s', hK, R, he, q⟩ := h
  obtain ⟨⟨ds, s1⟩, e1, he⟩ := bind_some_iff he
  split at he
  · rename_i hsz
    obtain ⟨⟨acc, st'⟩, e2, he⟩ := map_some_iff he
    cases he
    refine ⟨g, G, φ, s, ds, s1, hK, R, e1, fun J G1 φ1 H1 R1 h1 h2 ok Dd hD => ?_⟩
    exact lc_tail hK R1 ok hsz e2 (fun G' φ' H' v R' a b x => q G' φ' H' v R' (h1.trans a) (h2.trans b) x) Dd hD
  · cases he
theorem sr_lc (cap : List Nat) (own : List (Str × Nat)) (hc : X.calm = true) (hN : X.N.Nodup) (hi : SI X tg iter it) (ok : BlkOk X.N X.env.scope scope own)
    (hg : ∀ (s : Shared) (H : Hp) (C : Addr) (cl : List (Str × Addr)) (fp : List Addr), SG (X.blk s H scope (compEnvC scope cl C X.env) fp) (own.map (·.2)) tg t) (ht : ∀ (s : Shared) (H : Hp) (C : Addr) (cl : List (Str × Addr)) (fp : List Addr), STs (X.blk s H scope (compEnvC scope cl C X.env) fp) ifs c)
    (he : ∀ (s : Shared) (H : Hp) (C : Addr) (cl : List (Str × Addr)) (fp : List Addr), SR (X.blk s H scope (compEnvC scope cl C X.env) fp) elt e) (hs : ∀ x, foldedSetIterable iter X.env x = pure x := by intro _; rfl) :
    SR X (.ListComp elt [⟨tg, iter, ifs, 0⟩] scope pos) (evLc it cap (own.map (·.2)) t c e) := pe_imp (pe_lc (own := own) (g := tG X.K (own.map (fun x : Str × Nat => x.2)) t) (tt := tT X.K c) (te := tR X.K e) hc hN hi ok hg ht he hs) fun _ _ _ h => lc_all h
/-- name = [..] on one line -/
theorem ss_setLc (cap : List Nat) (own : List (Str × Nat)) {i : Nat} {y : Str} {py spos : Pos} (hc : X.calm = true) (hN : X.N.Nodup) (hsw : swapsWith (.ListComp elt [⟨tg, iter, ifs, 0⟩] scope pos) (some (.Name y py)) spos.line X.env = pure true) (hi : SI X tg iter it) (ok : BlkOk X.N X.env.scope scope own)
    (hg : ∀ (s : Shared) (H : Hp) (C : Addr) (cl : List (Str × Addr)) (fp : List Addr), SG (X.blk s H scope (compEnvC scope cl C X.env) fp) (own.map (·.2)) tg t) (ht : ∀ (s : Shared) (H : Hp) (C : Addr) (cl : List (Str × Addr)) (fp : List Addr), STs (X.blk s H scope (compEnvC scope cl C X.env) fp) ifs c)
    (he : ∀ (s : Shared) (H : Hp) (C : Addr) (cl : List (Str × Addr)) (fp : List Addr), SR (X.blk s H scope (compEnvC scope cl C X.env) fp) elt e) (hs : ∀ x, foldedSetIterable iter X.env x = pure x := by intro _; rfl) (hy : X.N[i]? = some y := by rfl) (hyl : X.env.scope.names.lookup y = some .local := by rfl) :
    SS X (.Assign [.Name y py] (.ListComp elt [⟨tg, iter, ifs, 0⟩] scope pos) spos) (evSet i (evLc it cap (own.map (·.2)) t c e)) := ps_imp (ps_setLc (own := own) (g := tG X.K (own.map (fun x : Str × Nat => x.2)) t) (tt := tT X.K c) (te := tR X.K e) hc hN hy hyl hsw hi ok hg ht he hs) fun E σ H ⟨g, G, φ, s, o, s', hK, R, he, q⟩ => by
  obtain ⟨⟨p1, p2⟩, e1, he⟩ := map_some_iff he
  cases he
  exact lc_all ⟨g, G, φ, s, p1, p2, hK, R, e1, fun G' φ' H' v R' h1 h2 x => q G' φ' _ H' (R'.store i x) h1 h2⟩
end
end Pv

namespace Pv
open PySem PySem.Spec L2
variable [TabL]

structure RoomG (k : Nat) (A : Around) : Prop where
  room : Room k A
  gd : A.guards = some []
theorem RoomG.mono {j k : Nat} {A : Around} (r : RoomG k A) (h : j ≤ k) : RoomG j A := ⟨r.room.mono h, r.gd⟩
theorem RoomG.deeper {k : Nat} {A : Around} (r : RoomG (k + 1) A) (env : Env) : RoomG k (A.deeper env) := ⟨r.room.deeper env, r.gd⟩
structure FnG (P : Program) (w : World) (K : PySem.W.Frag) (mg : Str → Option Value) (base : Heap) (CX : CXT) (k : Nat) (f : Addr) (fd : FuncData) (ps : List Str) (sp : Sp) : Prop where
  len : ∀ vs H Q E, sp vs H Q E → vs.length = ps.length
  run : ∀ (A : Around) (outer : List Env) (s : Shared) (H : Hp) (args : Args) (us : List Value) (vs : List V) (Q : VK) (E : XK), RoomG k A → Env0 P w K mg base A outer s H → BindsTo s fd args (ps.zip us) → Vals vs us → sp vs H Q E →
    codeAny (model P w) A (.call (.ref f) args) (CR CX outer P w H s Q E) s
theorem FnG.mono {P : Program} {w : World} {K : PySem.W.Frag} {mg : Str → Option Value} {base : Heap} {CX : CXT} {j k : Nat} {f : Addr} {fd : FuncData} {ps : List Str} {sp : Sp} (F : FnG P w K mg base CX j f fd ps sp) (h : j ≤ k) :
    FnG P w K mg base CX k f fd ps sp := ⟨F.len, fun A outer s H args us vs Q E hr => F.run A outer s H args us vs Q E (hr.mono h)⟩
theorem FnG.imp {P : Program} {w : World} {K : PySem.W.Frag} {mg : Str → Option Value} {base : Heap} {CX : CXT} {k : Nat} {f : Addr} {fd : FuncData} {ps : List Str} {sp sp' : Sp} (F : FnG P w K mg base CX k f fd ps sp)
    (h : ∀ vs H Q E, sp' vs H Q E → sp vs H Q E) : FnG P w K mg base CX k f fd ps sp' :=
  ⟨fun vs H Q E q => F.len vs H Q E (h _ _ _ _ q), fun A outer s H args us vs Q E hr he hb hv hs => F.run A outer s H args us vs Q E hr he hb hv (h _ _ _ _ hs)⟩
section
variable {X : Cx} {CX : CXT} {k : Nat} {f : Addr} {fd : FuncData} {ps : List Str} {sp : Sp} {E : XK}
theorem FnG.called {pins : List (Addr × Obj)} {σ : L2.St} {H : Hp} {s : Shared} {Q : VK} {us : List Value} {vs : List V} (F : FnG X.prog X.w X.K X.mg X.base CX k f fd ps sp) (room : RoomG k X.A) (bd : Binds X.K fd ps []) (hx : Passes CX X E)
    (I : Inv X pins σ H s) (r : Vals vs us) (h : sp vs H Q E) : wpAny (model X.prog X.w) X.A (PySem.call (.ref f) us) (EP X pins σ Q) X.xe s := by
  have bt : BindsTo s fd ⟨us, []⟩ (ps.zip us) := by
    have len : (us ++ []).length = ps.length := by rw [List.append_nil, ← r.length]; exact F.len _ _ _ _ h
    have b := bd s us I.kIn len
    rwa [List.append_nil] at b
  have run := F.run X.A X.stack s H _ us vs Q E room I.env0 bt r h
  refine wpAny_call (codeAny_mono run fun r' s' cr => ?_)
  rcases r' with err | fl
  · exact hx pins σ H s err s' I cr
  · cases fl <;> first | exact I.after cr | exact False.elim cr
/-- f(e, ..) -/
theorem pe_callG {x : Str} {p pos : Pos} {e : Expr} {es : List Expr} {t : TA} (F : FnG X.prog X.w X.K X.mg X.base CX k f fd ps sp) (room : RoomG k X.A) (glob : Gl X x) (is : X.mg x = some (.ref f)) (kp : PySem.W.keepIn X.K (.ref f) = true) (bd : Binds X.K fd ps []) (hx : Passes CX X E)
    (args : PA X (e :: es) t) (hdb : (x == ("__debug__" : Str)) = false := by decide) (he : starEach (e :: es) X.env = (false, eval e X.env) :: starEach es X.env := by rfl) (hpl : (backTo pos (starEach es X.env)).any (·.1) = false := by rfl) :
    PE X (.Call (.Name x p) (e :: es) [] pos) fun σ H Q => t σ H fun vs H1 => sp vs H1 Q E :=
  ⟨fun pins s σ H Q I h => wpAny_Call_Name_kw (ld_glob I glob is (PySem.W.callWith_K (h₀ := X.base) I.ok.mod.kin kp (thn (args.run pos pins s σ H _ I h) fun us s1 ⟨vs, H1, I1, rv, q⟩ => ⟨I1.kIn, F.called room bd hx I1 rv q⟩) he hpl) hdb)⟩
end
/-- THE RULE: a def by its body, run where no repr is under way -/
theorem FnG.of_body {P : Program} {w : World} {K : PySem.W.Frag} {mg : Str → Option Value} {base : Heap} {x qual : Str} {st : Stmt} {f : Addr} {fd : FuncData} {N ps : List Str} {k : Nat} {sp : Sp} (F : Fun K x qual st f fd) (S : FnScope N ps (defScope st)) (len : ∀ vs H Q E, sp vs H Q E → vs.length = ps.length)
    (body : ∀ (cdv : Value), fd.code = cdv → ∀ (A : Around) (outer : List Env) (s : Shared) (H : Hp) (vs : List V) (Q : VK) (E : XK), RoomG k (A.deeper (PyProof.Rows.envOfC qual (defScope st) s.heap.objs.size f cdv)) → sp vs H Q E →
      ∃ t, PSs (cxOf CX0 P w K mg base N qual (defScope st) f cdv A outer s H E).nox (defBody st) t ∧ t { nx := fun _ H' => Q .non H', rt := Q } (L2.start N vs) H) : FnG P w K mg base CX0 (k + 1) f fd ps sp := by
  obtain ⟨_, _, _, _, _, _, cdv, _, _, rfl, lk, code⟩ := F.ex
  refine ⟨len, fun A outer s H args us vs Q E room e0 bt rv hs => ?_⟩
  have kept : ∀ b o, base.get? b = some o → s.heap.get? b = some o := fun b o e => (e0.bs b o e).1
  have KX := e0.mod.kin.keeps kept
  have kinds : ∀ y ∈ ps.zip us, (defScope st).names.lookup y.1 = some .local ∨ ((defScope st).names.lookup y.1 = some .cell ∧ ((cellsFrom (s.heap.objs.size + 1) (defScope st).names []).lookup y.1).isSome = true) := fun y hy =>
    (S.par y.1 (List.of_mem_zip hy).1).imp id fun q => ⟨q, PySem.W.cellsFrom_some _ _ _ (.inl q)⟩
  refine codeAny_call_function room.room.depth (KX _ _ lk) rfl S.co S.gen rfl (PySem.W.codeRec_of KX code) (bt _ _ _ _ (wpAny_newFunctionEnv_cells S.kind kinds fun env he s1 born => ?_))
  cases he
  obtain ⟨t, term, read⟩ := body cdv rfl A outer s H vs Q E (room.deeper _) hs
  have J := inv_start (CX := CX0) (E := E) S room.room.hd e0 (len _ _ _ _ hs) rv born
  refine ⟨(e0.mod.nolimit.keeps kept).keeps born.toInCall.keep, codeAny_func (wpAny_mono (term.nox.run [] s1 _ H _ J read) (fun fl s' h => ?_) fun _ _ h => h)⟩
  cases fl with
  | ret u => obtain ⟨v, _, H', B, rv, q⟩ := h; exact ⟨v, H', B.os, B.bare, B.base, B.hok, rv, q⟩
  | next => obtain ⟨_, H', B, q⟩ := h; exact ⟨V.non, H', B.os, B.bare, B.base, B.hok, rfl, q⟩
  | brk => exact h.elim fun _ h => h.elim fun _ h => h.2.elim
  | cont => exact h.elim fun _ h => h.elim fun _ h => h.2.elim
/-- the script alone is tracked, or nothing -/
structure Alone (H : Hp) (a : Addr) (vs : List Value) (ns : List Int) : Prop where
  only : ∀ b u, H b = some u → b = a ∧ u = .frz { cls := .type "list", data := .seq vs.toArray } (.lst (ns.map V.int))
theorem Alone.env {P : Program} {w : World} {K : PySem.W.Frag} {mg mb : Str → Option Value} {H : Hp} {a : Addr} {vs : List Value} {ns : List Int} {s : Shared} (al : Alone H a vs ns) (ha : s.heap.get? a = some { cls := .type "list", data := .seq vs.toArray })
    (iv : PyProof.Rows.IntsAre vs ns) (hl : ns.length ≤ sizeLine) (KX : K.In s.heap) (apart : ∀ o, K.lookup a = some o → H a = none) (hns : s.heap.Ns mainGlobals mg) (hb : s.heap.Ns builtinsNs mb) (hbb : ∀ x : Str, x ≠ "__name__" → mb x = bootBuiltins x) (hlim : s.heap.NoLimit) (hg : s.gens = #[]) :
    Env0 P w K mg (hidT s.heap H) callerA [] s H ∧ HOk P w H s.heap := by
  have hok : HOk P w H s.heap := fun b u e => by
    obtain ⟨rfl, rfl⟩ := al.only b u e
    exact ⟨ha, by rw [List.length_map]; exact hl, vs, _, L2.vals_ints iv, ha⟩
  have free : ∀ {b : Addr} {o : Obj}, s.heap.get? b = some o → (∀ n, o.data ≠ .seq vs.toArray n) → H b = none := fun {b o} e d => by
    cases q : H b with
    | none => rfl
    | some u =>
      obtain ⟨rfl, _⟩ := al.only b u q
      rw [ha] at e
      cases e
      exact absurd rfl (d _)
  have dict : ∀ {b : Addr} {m : Str → Option Value}, s.heap.Ns b m → (hidT s.heap H).Ns b m := fun {b m} ⟨o, es, ep, e, d, r⟩ => ⟨o, es, ep, hidT_get e (free e fun n z => by rw [d] at z; cases z), d, r⟩
  have kin : K.In (hidT s.heap H) := fun b o e => hidT_get (KX b o e) (by
    cases q : H b with
    | none => rfl
    | some u =>
      obtain ⟨rfl, _⟩ := al.only b u q
      rw [apart o e] at q
      cases q)
  obtain ⟨mc, c1, c2⟩ := hlim
  exact ⟨⟨rfl, ⟨kin, dict hns, ⟨mb, dict hb, hbb⟩, ⟨mc, dict c1, c2⟩⟩, fun _ _ e => of_hidT e, Nat.le_of_eq (hidT_size _ _), trivial, fun b z => (by cases z), hok, PyProof.Rows.AllBare.of_eq hg⟩, hok⟩
theorem Alone.old {P : Program} {w : World} {H H' : Hp} {a : Addr} {vs : List Value} {ns : List Int} {s s' : Shared} (al : Alone H a vs ns) (ok : HOk P w H s.heap) (ok' : HOk P w H' s'.heap) (un : Un (frs []) [] H H' s.heap s'.heap) : OldK s.heap s'.heap :=
  OldK.of_keep fun b o e => by
    cases q : H b with
    | none => exact un.keep b o e q (fun z => by cases z) (fun z => by cases z)
    | some u =>
      obtain ⟨_, rfl⟩ := al.only b u q
      have before := (ok b _ q).1
      have behind := (ok' b _ (un.frzs b _ _ q)).1
      rw [before] at e
      cases e
      exact behind
theorem walk_ofG {l : PySem.W.OpenLaw} {n k : Nat} {q : Program} {loose : List Str} {XP : (Str → Option Value) → Heap → Prop} {YP : World → Heap → Prop} {d : DefRec} {K : Params → PySem.W.Frag} {sp : World → Sp} {x : Str}
    (hn : l.most = some n) (hn2 : n ≤ sizeLine) (hdf : d.params.defaults = []) (room : RoomG k callerA) (hY : ∀ (w : World) (h : Heap), YP w h → (K w.params).In h)
    (F : ∀ (w : World) (mg : Str → Option Value) (fa : Addr) (h : Heap), (K w.params).In h → h.Ns mainGlobals mg → mg d.name = some (.ref fa) →
      ∃ fd : FuncData, (∀ (s : Shared) (u : Value), BindsTo s fd ⟨[u], []⟩ [(x, u)]) ∧ ∀ base : Heap, (K w.params).In base → base.Ns mainGlobals mg → FnG l.prog w (K w.params) mg base CX0 k fa fd [x] (sp w))
    (hsp : ∀ (w : World) (H : Hp) (a : Addr) (ns : List Int), ns.length ≤ n → (∀ z ∈ ns, Builtin.Int.intBits z ≤ 1048576) → SqL (K w.params) H a (ns.map V.int) → sp w [.ref a] H (fun v _ => v = .bl true) fun _ _ _ => False) :
    PySem.W.WalkO q loose XP YP l.row.toRowW d [] (fun f vs => PySem.call f vs) := by
  refine Att.attach_callB hn hdf fun w s₀ s mg mb fa o pm cd doc a vs ns G Y ho hd hcd hmg ha iv hlen bits hg => ?_
  have KX := hY w _ Y
  obtain ⟨fd, bind, prom⟩ := F w mg fa _ KX G.T.g hmg
  have hl : ns.length ≤ sizeLine := Nat.le_trans hlen hn2
  have fin : ∀ H : Hp, Alone H a vs ns → SqL (K w.params) H a (ns.map V.int) → (∀ o, (K w.params).lookup a = some o → H a = none) →
      codeAny (model l.prog w) callerA (.call (.ref fa) ⟨[.ref a], []⟩) (fun r s' => r = .ok (.ret (.bool true)) ∧ OldK s.heap s'.heap ∧ s'.os = s.os ∧ PyProof.Rows.AllBare s'.gens) s := by
    intro H al ex apart
    obtain ⟨e0, ok⟩ := al.env (P := l.prog) (w := w) ha iv hl KX apart G.T.g G.T.b G.T.builtins G.T.nolimit hg
    have run := (prom _ e0.mod.kin e0.mod.glob).run callerA [] s H ⟨[.ref a], []⟩ [.ref a] [.ref a] _ _ room e0 (bind s (.ref a)) (.cons rfl .nil) (hsp w H a ns hlen bits ex)
    refine codeAny_mono run fun r s' h => ?_
    match r, h with
    | .error _, h => exact False.elim h
    | .ok .next, h => exact False.elim h
    | .ok .brk, h => exact False.elim h
    | .ok .cont, h => exact False.elim h
    | .ok (.ret u), ⟨v, H', os, bare, un, ok', rv, hv⟩ =>
      cases (show v = .bl true from hv)
      cases (show u = Value.bool true from rv)
      exact ⟨rfl, al.old ok ok' un, os, bare⟩
  cases hk : (K w.params).lookup a with
  | some o =>
    have e := KX a o hk
    rw [ha] at e
    cases e
    exact fin (fun _ => none) ⟨fun b u z => by cases z⟩ (.inr ⟨_, vs.toArray, _, hk, rfl, rfl, rfl, by rw [List.size_toArray, iv.length]; exact hl, by simpa using L2.vals_ints iv⟩) fun _ _ => rfl
  | none =>
    refine fin (upd (fun _ => none) a (.frz { cls := .type "list", data := .seq vs.toArray } (.lst (ns.map V.int)))) ⟨fun b u z => ?_⟩ (.inl (.inr ⟨_, upd_same⟩)) fun o z => by rw [hk] at z; cases z
    by_cases e : b = a
    · subst e; rw [upd_same] at z; cases z; exact ⟨rfl, rfl⟩
    · rw [upd_ne e] at z; cases z

/-- the cells, as a callee sees them -/
structure CellsOk (K : PySem.W.Frag) (G : Hp) (φ : List Addr) (st : List Cell) (H : Hp) : Prop where
  len : st.length = φ.length
  nd : φ.Nodup
  at_ : ∀ (n : Nat) a c, φ[n]? = some a → st[n]? = some c → ∃ o, H a = some o ∧ CellAt K φ G o c ∧ G a = none
inductive FRes (K : PySem.W.Frag) (φ : List Addr) (H G' H' : Hp) : V → RV → Prop
  | fro {v d} : Rep K φ G' v d → FRes K φ H G' H' v (.fro d)
  | own {p o d} : H p = none → H' p = some o → G' p = none → p ∉ φ → Own K φ G' o d → FRes K φ H G' H' (.ref p) (.own d)
abbrev Fm := List D → List Cell → Option (RV × List Cell)
/-- a def's promise: what it answers, by trees -/
def spF (K : PySem.W.Frag) (n : Nat) (m : Fm) : Sp := fun vs H Q _ => ∃ G φ ds st r st', Same G H ∧ TabG G H ∧ CellsOk K G φ st H ∧ RepA K φ G vs ds ∧ ds.length = n ∧ m ds st = some (r, st') ∧
  ∀ G' φ' H' v, Same G G' → Same G' H' → φ <+: φ' → (∀ a o, H a = some o → a ∉ φ → NoTab o → H' a = some o) → LamX.Tabs TabL.tl H' → (∀ a, H a ≠ none → H' a ≠ none) → (∀ a o, G' a = some o → G a = some o ∨ H a = none) → (∀ a, a ∈ φ' → a ∈ φ ∨ H a = none) →
    CellsOk K G' φ' st' H' → FRes K φ' H G' H' v r → Q v H'
def evCall (m : Fm) (a : Ev (List D)) : Ev RV := fun s => (a s).bind fun p => (m p.1 p.2.st).map fun q => (q.1, { p.2 with st := q.2 })
theorem call_core {K : PySem.W.Frag} {n : Nat} {m : Fm} {E : XK} {ta : Ev (List D)} {σ : St} {H : Hp} {Q : VK} (hn : ∀ ds st r, m ds st = some r → ds.length = n) (h : tR K (evCall m ta) σ H Q) : tAs K ta σ H fun vs H1 => spF K n m vs H1 Q E := by
  obtain ⟨g, G, φ, s, r, s', hK, R, he, q⟩ := h
  obtain ⟨⟨ds, s1⟩, e1, he⟩ := bind_some_iff he
  obtain ⟨⟨r1, st1⟩, e2, he⟩ := map_some_iff he
  cases he
  refine ⟨g, G, φ, s, ds, s1, hK, R, e1, fun G1 φ1 H1 vs R1 h1 h2 ra => ?_⟩
  refine ⟨G1, φ1, ds, s1.st, r1, st1, R1.sub, R1.tab, ⟨R1.clen, R1.nd, fun k a c a1 a2 => ?_⟩, hK ▸ ra, hn _ _ _ e2, e2, fun G' φ' H' v b1 b2 b3 b4 b4t b4u b5 b6 b7 b8 => ?_⟩
  · obtain ⟨o, c1, c2, c3, _⟩ := R1.cell k a c a1 a2
    exact ⟨o, c1, hK ▸ c2, c3⟩
  have gn : ∀ p, G1 p = none → H1 p ≠ none → G' p = none := fun p x1 x2 => by
    cases z : G' p with
    | none => rfl
    | some u =>
      rcases b5 p u z with z | z
      · rw [x1] at z; cases z
      · exact absurd z x2
  have R' : Rel g G' φ' { s1 with st := st1 } σ H' := by
    refine ⟨b2, R1.g0.trans b1, fun a o e => ?_, fun a o e => ?_, fun a u => b4u a (R1.use a u), fun a z => ⟨gn a (R1.zed a z).1 ?_, (R1.zed a z).2⟩, R1.pre.trans b3, R1.len, fun i d e => ?_, fun i d e => ?_, R1.sep, b7.len, fun k a c a1 a2 => ?_, b7.nd, R1.nt, R1.tab.grow (fun _ => b4t) b5⟩
    · rcases b5 a o e with e | e
      · exact R1.new a o e
      · exact .inr fun u => R1.use a u e
    · refine b4 a o (R1.old a o e) (fun hm => ?_) (R1.nt a o e)
      obtain ⟨k, hk⟩ := List.getElem?_of_mem hm
      have hl : k < s1.st.length := by rw [R1.clen]; exact (List.getElem?_eq_some_iff.mp hk).1
      obtain ⟨_, _, _, _, z, _⟩ := R1.cell k a _ hk (List.getElem?_eq_getElem hl)
      rw [z] at e; cases e
    · intro z'
      cases y : g.F a with
      | none => exact (R1.zed a z).2 y
      | some o => rw [R1.old a o y] at z'; cases z'
    · obtain ⟨v, c1, c2⟩ := R1.fro i d e
      exact ⟨v, c1, c2.mono b1 b3⟩
    · obtain ⟨p, o, c1, c2, c3, c4, c5, c6, c7⟩ := R1.own i d e
      refine ⟨p, o, c1, b4 p o c2 c7 c3.nt, c3.mono b1 b3, gn p c4 (by rw [c2]; simp), c5, c6, fun hm => ?_⟩
      rcases b6 p hm with z | z
      · exact c7 z
      · rw [c2] at z; cases z
    · obtain ⟨o, c1, c2, c3⟩ := b7.at_ k a c a1 a2
      refine ⟨o, c1, hK ▸ c2, c3, ?_⟩
      rcases b6 a (List.mem_of_getElem? a1) with z | z
      · obtain ⟨j, hj⟩ := List.getElem?_of_mem z
        have hl : j < s1.st.length := by rw [R1.clen]; exact (List.getElem?_eq_some_iff.mp hj).1
        obtain ⟨_, _, _, _, y1, y2⟩ := R1.cell j a _ hj (List.getElem?_eq_getElem hl)
        exact ⟨y1, y2⟩
      · exact ⟨R1.old.free z, .inr fun u => R1.use a u z⟩
  refine q G' φ' H' v R' (h1.trans b1) (h2.trans b3) ?_
  cases b8 with
  | fro rp => exact .fro (hK ▸ rp)
  | own c1 c2 c3 c4 c5 =>
    refine .own ⟨c2, hK ▸ c5, c3, R1.old.free c1, fun u => R1.use _ u c1, c4, fun i e x1 x2 => ?_⟩
    obtain ⟨p', o', y1, y2, _⟩ := R1.own i e x1
    rw [x2] at y1
    cases y1
    rw [c1] at y2
    cases y2
theorem sr_call {X : Cx} {k n : Nat} {f : Addr} {fd : FuncData} {ps : List Str} {m : Fm} {x : Str} {p pos : Pos} {e : Expr} {es : List Expr} {ta : Ev (List D)}
    (F : FnG X.prog X.w X.K X.mg X.base CX0 k f fd ps (spF X.K n m)) (hr : RoomG k X.A) (hg : Gl X x) (hm : X.mg x = some (.ref f)) (hk : PySem.W.keepIn X.K (.ref f) = true) (hb : Binds X.K fd ps [])
    (hn : ∀ ds st r, m ds st = some r → ds.length = n) (ha : SA X (e :: es) ta) (hdb : (x == ("__debug__" : Str)) = false := by decide) (he : starEach (e :: es) X.env = (false, eval e X.env) :: starEach es X.env := by rfl) (hpl : (backTo pos (starEach es X.env)).any (·.1) = false := by rfl) :
    SR X (.Call (.Name x p) (e :: es) [] pos) (evCall m ta) := pe_imp (pe_callG F hr hg hm hk hb pass0 ha hdb he hpl) fun _ _ _ h => call_core hn h

def fnM (N P : Nat) (ev : Ev Out) : Fm := fun ds st => if ds.length = P then match ev ⟨ds.map Slot.fro ++ List.replicate (N - ds.length) Slot.non, st⟩ with
    | some (.rt r, s') => some (r, s'.st)
    | some (.nx, s') => some (.fro .non, s'.st)
    | _ => none
  else none
theorem fnM_len {N P : Nat} {ev : Ev Out} {ds : List D} {st : List Cell} {r : RV × List Cell} (h : fnM N P ev ds st = some r) : ds.length = P := by
  unfold fnM at h
  split at h
  · assumption
  · cases h
/-- a heap without its tables -/
def ntH (H : Hp) : Hp := fun a => match H a with
  | some (.tbl _) => none
  | x => x
theorem ntH_some {H : Hp} {a : Addr} {o : HO} (h : ntH H a = some o) : H a = some o ∧ NoTab o := by
  unfold ntH at h
  split at h
  · cases h
  · rename_i hn
    exact ⟨h, fun ps e => by subst e; exact hn ps h⟩
theorem ntH_of {H : Hp} {a : Addr} {o : HO} (h : H a = some o) (n : NoTab o) : ntH H a = some o := by
  unfold ntH
  split
  · rename_i ps e
    rw [h] at e; cases e
    exact absurd rfl (n ps)
  · exact h
theorem start_rel {K : PySem.W.Frag} {G : Hp} {φ : List Addr} {st : List Cell} {H : Hp} {N : List Str} {vs : List V} {ds : List D} (sub : Same G H) (tt : TabG G H) (C : CellsOk K G φ st H) (ra : RepA K φ G vs ds) :
    Rel ⟨K, fun a => if a ∈ φ then none else ntH H a, fun a => H a ≠ none, fun _ => False, G, φ⟩ G φ ⟨ds.map Slot.fro ++ List.replicate (N.length - ds.length) Slot.non, st⟩ (L2.start N vs) H := by
  have hl := ra.length
  have gf : ∀ {i : Nat} {d : D}, (ds.map Slot.fro ++ List.replicate (N.length - ds.length) Slot.non)[i]? = some (.fro d) → ds[i]? = some d := fun {i d} e => by
    by_cases h : i < ds.length
    · rw [List.getElem?_append_left (by simpa using h), List.getElem?_map, List.getElem?_eq_getElem h] at e
      cases e
      exact List.getElem?_eq_getElem h
    · rw [List.getElem?_append_right (by simpa using h), List.getElem?_replicate] at e
      split at e <;> cases e
  have gown : ∀ {i : Nat} {d : D}, (ds.map Slot.fro ++ List.replicate (N.length - ds.length) Slot.non)[i]? = some (.own d) → False := fun {i d} e => by
    by_cases h : i < ds.length
    · rw [List.getElem?_append_left (by simpa using h), List.getElem?_map, List.getElem?_eq_getElem h] at e
      cases e
    · rw [List.getElem?_append_right (by simpa using h), List.getElem?_replicate] at e
      split at e <;> cases e
  refine ⟨sub, Same.refl _, fun a o e => .inl e, fun a o e => ?_, fun a u => u, fun a z => z.elim, List.prefix_refl _, ?_, fun i d e => ?_, fun i d e => (gown e).elim, fun i j d e p _ h => (gown h).elim, C.len, fun n a c e1 e2 => ?_, C.nd, fun b o e => ?_, tt⟩
  · have e : (if a ∈ φ then none else ntH H a) = some o := e
    split at e
    · cases e
    · exact (ntH_some e).1
  · show (ds.map Slot.fro ++ List.replicate (N.length - ds.length) Slot.non).length = (L2.start N vs).length
    unfold L2.start
    simp only [List.length_append, List.length_map, List.length_replicate, hl]
  · obtain ⟨v, h1, h2⟩ := ra.get (gf e)
    refine ⟨v, ?_, h2⟩
    unfold L2.start
    have hi : i < vs.length := (List.getElem?_eq_some_iff.mp h1).1
    rw [List.getElem?_append_left (by simpa using hi), List.getElem?_map, h1]
    rfl
  · obtain ⟨o, h1, h2, h3⟩ := C.at_ n a c e1 e2
    refine ⟨o, h1, h2, h3, ?_, .inl (List.mem_of_getElem? e1)⟩
    show (if a ∈ φ then none else ntH H a) = none
    rw [if_pos (List.mem_of_getElem? e1)]
  · have e : (if b ∈ φ then none else ntH H b) = some o := e
    split at e
    · cases e
    · exact (ntH_some e).2
theorem end_rel {K : PySem.W.Frag} {G G' : Hp} {φ φ' : List Addr} {st : List Cell} {H H' : Hp} {s' : Sg} {σ' : St} (C : CellsOk K G φ st H) (sub : Same G H)
    (R : Rel ⟨K, fun a => if a ∈ φ then none else ntH H a, fun a => H a ≠ none, fun _ => False, G, φ⟩ G' φ' s' σ' H') :
    Same G' H' ∧ (∀ a o, H a = some o → a ∉ φ → NoTab o → H' a = some o) ∧ LamX.Tabs TabL.tl H' ∧ (∀ a, H a ≠ none → H' a ≠ none) ∧ (∀ a o, G' a = some o → G a = some o ∨ H a = none) ∧ (∀ a, a ∈ φ' → a ∈ φ ∨ H a = none) ∧ CellsOk K G' φ' s'.st H' := by
  refine ⟨R.sub, fun a o e hn nt => R.old a o ?_, R.tab.1, R.use, fun a o e => ?_, fun a hm => ?_, ⟨R.clen, R.nd, fun n a c e1 e2 => ?_⟩⟩
  · show (if a ∈ φ then none else ntH H a) = some o
    rw [if_neg hn]; exact ntH_of e nt
  · rcases R.new a o e with e | e
    · exact .inl e
    · exact .inr (Classical.byContradiction fun z => e z)
  · obtain ⟨n, hn⟩ := List.getElem?_of_mem hm
    have hl : n < s'.st.length := by rw [R.clen]; exact (List.getElem?_eq_some_iff.mp hn).1
    obtain ⟨_, _, _, _, _, z⟩ := R.cell n a _ hn (List.getElem?_eq_getElem hl)
    rcases z with z | z
    · exact .inl z
    · exact .inr (Classical.byContradiction fun y => z y)
  · obtain ⟨o, h1, h2, h3, _⟩ := R.cell n a c e1 e2
    exact ⟨o, h1, h2, h3⟩
/-- THE RULE for a def -/
theorem fn_ok {P : Program} {w : World} {K : PySem.W.Frag} {mg : Str → Option Value} {base : Heap} {x qual : Str} {st : Stmt} {f : Addr} {fd : FuncData} {N ps : List Str} {k : Nat} {ev : Ev Out} (F : Fun K x qual st f fd) (S : FnScope N ps (defScope st))
    (hbody : ∀ (cdv : Value), fd.code = cdv → ∀ (A : Around) (outer : List Env) (s : Shared) (H : Hp) (E : XK), RoomG k (A.deeper (PyProof.Rows.envOfC qual (defScope st) s.heap.objs.size f cdv)) →
      SSs (cxOf CX0 P w K mg base N qual (defScope st) f cdv A outer s H E).nox (defBody st) ev) :
    FnG P w K mg base CX0 (k + 1) f fd ps (spF K ps.length (fnM N.length ps.length ev)) := by
  refine FnG.of_body F S (fun vs H Q E h => ?_) fun cdv hcd A outer s H vs Q E hr h => ?_
  · obtain ⟨G, φ, ds, st, r, st', _, _, _, ra, hl, _⟩ := h
    exact ra.length.trans hl
  · obtain ⟨G, φ, ds, cs, r, st', sub, tt, C, ra, hl, hm, q⟩ := h
    refine ⟨_, hbody cdv hcd A outer s H E hr, ?_⟩
    unfold fnM at hm
    rw [if_pos hl] at hm
    have R := start_rel (N := N) sub tt C ra
    cases e : ev ⟨ds.map Slot.fro ++ List.replicate (N.length - ds.length) Slot.non, cs⟩ with
    | none => rw [e] at hm; cases hm
    | some y =>
      rw [e] at hm
      obtain ⟨o, s'⟩ := y
      cases o with
      | bk => cases hm
      | ct => cases hm
      | nx =>
        cases hm
        refine ⟨_, G, φ, _, .nx, s', rfl, R, e, fun G' φ' σ' H' R' h1 h2 => ?_⟩
        obtain ⟨a1, a2, at2, a3, a4, a5, a6⟩ := end_rel C sub R'
        exact q G' φ' H' .non h1 a1 h2 a2 at2 a3 a4 a5 a6 (.fro .non)
      | rt r' =>
        cases hm
        refine ⟨_, G, φ, _, .rt _, s', rfl, R, e, fun G' φ' σ' H' v R' h1 h2 x => ?_⟩
        obtain ⟨a1, a2, at2, a3, a4, a5, a6⟩ := end_rel C sub R'
        refine q G' φ' H' v h1 a1 h2 a2 at2 a3 a4 a5 a6 ?_
        cases x with
        | fro rp => exact .fro rp
        | own F =>
          refine .own ?_ F.at_ F.gp F.ph F.own
          exact Classical.byContradiction fun z => F.up z
/-- a promise by any function that agrees where it answers -/
theorem spF_imp {P : Program} {w : World} {K : PySem.W.Frag} {mg : Str → Option Value} {base : Heap} {k n : Nat} {f : Addr} {fd : FuncData} {ps : List Str} {m m' : Fm} (F : FnG P w K mg base CX0 k f fd ps (spF K n m))
    (h : ∀ ds st r, m' ds st = some r → m ds st = some r) : FnG P w K mg base CX0 k f fd ps (spF K n m') :=
  F.imp fun vs H Q E ⟨G, φ, ds, st, r, st', a, b, t, c, d, e, q⟩ => ⟨G, φ, ds, st, r, st', a, b, t, c, d, h _ _ _ e, q⟩

/-- the content of an own slot, or of the cell that a slot holds -/
def ownAt (s : Sg) (i : Nat) : Option D := match s.env[i]? with
  | some (.own d) => some d
  | some (.fro (.hd n)) => match s.st[n]? with
    | some (.d d) => some d
    | _ => none
  | _ => none
def setAt (s : Sg) (i : Nat) (d : D) : Sg := match s.env[i]? with
  | some (.own _) => { s with env := s.env.set i (.own d) }
  | some (.fro (.hd n)) => { s with st := s.st.set n (.d d) }
  | _ => s
theorem Rel.ownAt {g : Gh} {G : Hp} {φ : List Addr} {s : Sg} {σ : St} {H : Hp} {i : Nat} {d : D} (R : Rel g G φ s σ H) (h : ownAt s i = some d) :
    ∃ p o, σ[i]? = some (some (V.ref p)) ∧ H p = some o ∧ Own g.K φ G o d ∧ G p = none ∧ ∀ o' d', Own g.K φ G o' d' → Rel g G φ (setAt s i d') σ (upd H p o') := by
  unfold Pv.ownAt at h
  cases e : s.env[i]? with
  | none => rw [e] at h; cases h
  | some sl =>
    rw [e] at h
    cases sl with
    | non => cases h
    | own d0 =>
      cases h
      obtain ⟨p, o, b1, b2, b3, b4, b5, b6, b7⟩ := R.own i d e
      refine ⟨p, o, b1, b2, b3, b4, fun o' d' ow => ?_⟩
      unfold setAt
      rw [e]
      exact R.setOwn e b1 ow
    | fro x =>
      cases x with
      | hd n =>
        obtain ⟨w0, c1, c2⟩ := R.fro i _ e
        cases c2 with
        | hd ha =>
          have h : (match s.st[n]? with
            | some (.d d) => some d
            | _ => none) = some d := h
          cases e2 : s.st[n]? with
          | none => rw [e2] at h; cases h
          | some c =>
            rw [e2] at h
            cases c with
            | obj => cases h
            | d d0 =>
              cases h
              obtain ⟨o, b1, b2, b3, b4, b5⟩ := R.cell n _ _ ha e2
              cases b2 with
              | d b2 =>
                refine ⟨_, o, c1, b1, b2, b3, fun o' d' ow => ?_⟩
                unfold setAt
                rw [e]
                exact R.setCell ha e2 (.d ow)
      | _ => cases h
abbrev Mut1 := D → List D → Option (D × D)
/-- a method that changes its object: the new content, the answer -/
def rMut (K : PySem.W.Frag) (f : Mut1) : V → List V → Hp → VK → Prop := fun x vs H Q => ∃ φ G p o d ds d' r, x = .ref p ∧ H p = some o ∧ Own K φ G o d ∧ G p = none ∧ Same G H ∧ RepA K φ G vs ds ∧ f d ds = some (d', r) ∧
  ∀ o' v, Own K φ G o' d' → Rep K φ G v r → Q v (upd H p o')
def DMut (X : Cx) (id : String) (f : Mut1) : Prop := MtR X id (rMut X.K f)
def tyD (T : String) : D → Bool
  | .lst _ => T == "list"
  | .dct _ _ => T == "dict"
  | _ => false
theorem tyD_V {K : PySem.W.Frag} {φ : List Addr} {G H : Hp} {T : String} {p : Addr} {o : HO} {d : D} (h1 : H p = some o) (h2 : Own K φ G o d) (h : tyD T d = true) : tyV K T (.ref p) H := by
  cases h2 with
  | lst r => exact .inl ⟨by simpa [tyD] using h, _, SqL.of h1⟩
  | dK r => exact .inr (.inr (.inl ⟨by simpa [tyD] using h, .inl ⟨_, h1⟩⟩))
  | dT r => exact .inr (.inr (.inl ⟨by simpa [tyD] using h, .inr ⟨_, h1⟩⟩))
/-- x.m(..) where x is a name: an own slot or a cell -/
def evMut (T : String) (i : Nat) (f : Mut1) (a : Ev (List D)) : Ev RV := fun s => (ownAt s i).bind fun d0 => if tyD T d0 = true then (a s).bind fun p => (ownAt p.2 i).bind fun d => (f d p.1).map fun r => (.fro r.2, setAt p.2 i r.1) else none
theorem mut_core {K : PySem.W.Frag} {T : String} {i : Nat} {f : Mut1} {ta : Ev (List D)} {σ : St} {H : Hp} {Q : VK} (h : tR K (evMut T i f ta) σ H Q) :
    tVar i σ H fun x H1 => tyV K T x H1 ∧ tAs K ta σ H1 fun vs H2 => rMut K f x vs H2 Q := by
  obtain ⟨g, G, φ, s, r, s', hK, R, he, q⟩ := h
  obtain ⟨d0, e0, he⟩ := bind_some_iff he
  split at he
  · rename_i hty
    obtain ⟨⟨ds, s1⟩, e1, he⟩ := bind_some_iff he
    obtain ⟨d, e2, he⟩ := bind_some_iff he
    obtain ⟨⟨d', r'⟩, e3, he⟩ := map_some_iff he
    cases he
    obtain ⟨p, o, a1, a2, a3, _⟩ := R.ownAt e0
    refine ⟨_, a1, tyD_V (φ := φ) (G := G) a2 (hK ▸ a3) hty, g, G, φ, s, ds, s1, hK, R, e1, fun G1 φ1 H1 vs R1 h1 h2 ra => ?_⟩
    obtain ⟨p', o', b1, b2, b3, b4, b5⟩ := R1.ownAt e2
    rw [a1] at b1
    cases b1
    exact ⟨φ1, G1, p, o', d, ds, d', r', rfl, b2, hK ▸ b3, b4, R1.sub, hK ▸ ra, e3, fun o2 w ow rw' => q G1 φ1 _ w (b5 o2 d' (hK ▸ ow)) h1 h2 (.fro (hK ▸ rw'))⟩
  · cases he
section
variable {X : Cx} {i : Nat} {x : Str} {p apos cpos : Pos} {T id : String} {name : Str} {f : Mut1} {e : Expr} {es : List Expr} {ta : Ev (List D)}
theorem sr_mut (pa : PlainAttrs T) (slot : PySem.Slot T name id) (hty : typeOf (.builtin id) = pure (.type "method_descriptor")) (hm : DMut X id f) (ha : SA X (e :: es) ta) (hN : X.N[i]? = some x := by rfl) (hvis : Vis X.env.scope x := by first | exact Or.inl rfl | exact Or.inr (Or.inl rfl) | exact Or.inr (Or.inr rfl)) (hd : (x == ("__debug__" : Str)) = false := by decide) (hcd : (x == ("__classdict__" : Str)) = false := by decide)
    (hbase : attributeBase (.Name x p) name X.env (eval (.Name x p) X.env) = eval (.Name x p) X.env := by rfl)
    (hfew : ((backTo cpos (starEach (e :: es) X.env)).all (fun x => !x.1) && (backToKw cpos (keywordEach [] X.env)).all (fun x => x.1.isSome)
      && decide ((e :: es).length + ([] : List Keyword).length + (if ([] : List Keyword).isEmpty then 0 else 1) < 30)) = true := by rfl)
    (hline : (apos.endLine == cpos.line) = true := by rfl) (hs : starEach (e :: es) X.env = (false, eval e X.env) :: starEach es X.env := by rfl) (hplain : (backTo cpos (starEach es X.env)).any (·.1) = false := by rfl) :
    SR X (.Call (.Attribute (.Name x p) name apos) (e :: es) [] cpos) (evMut T i f ta) := pe_imp (pe_bm pa slot hty hm (pe_var hN hvis hd hcd) ha hbase hfew hline hs hplain) fun _ _ _ h => mut_core h
theorem sr_mut0 (pa : PlainAttrs T) (slot : PySem.Slot T name id) (hty : typeOf (.builtin id) = pure (.type "method_descriptor")) (hm : DMut X id f) (hN : X.N[i]? = some x := by rfl) (hvis : Vis X.env.scope x := by first | exact Or.inl rfl | exact Or.inr (Or.inl rfl) | exact Or.inr (Or.inr rfl)) (hd : (x == ("__debug__" : Str)) = false := by decide) (hcd : (x == ("__classdict__" : Str)) = false := by decide)
    (hbase : attributeBase (.Name x p) name X.env (eval (.Name x p) X.env) = eval (.Name x p) X.env := by rfl) (hline : (apos.endLine == cpos.line) = true := by rfl) :
    SR X (.Call (.Attribute (.Name x p) name apos) [] [] cpos) (evMut T i f evNil) := pe_imp (pe_bm0 pa slot hty hm (pe_var hN hvis hd hcd) hbase hline) fun σ H Q h => by
  obtain ⟨v, h1, h2, h3⟩ := mut_core h
  obtain ⟨g, G, φ, s, r, s', hK, R, he, q⟩ := h3
  cases he
  exact ⟨v, h1, h2, q G φ H [] R (Same.refl _) (List.prefix_refl _) .nil⟩
end
/-- x[i] = v -/
def rSet (K : PySem.W.Frag) (f : D → D → D → Option D) : V → V → V → Hp → (Hp → Prop) → Prop := fun x i v H Q => ∃ φ G p o d di dv d', x = .ref p ∧ H p = some o ∧ Own K φ G o d ∧ G p = none ∧ Same G H ∧ OpRep K φ G H i di ∧ Rep K φ G v dv ∧ f d di dv = some d' ∧
  ∀ o', Own K φ G o' d' → Q (upd H p o')
def DSet (X : Cx) (f : D → D → D → Option D) : Prop := PSet X (rSet X.K f)
def evSetI (i : Nat) (f : D → D → D → Option D) (ti : Ev Bor) (tv : Ev RV) : Ev Out := fun s => (tv s).bind fun p => (evSlot i p.2).bind fun _ => (ti p.2).bind fun q => (fetch q.2 q.1).bind fun di => (ownAt q.2 i).bind fun d => (f d di p.1.d).map fun d' => (.nx, setAt q.2 i d')
theorem ss_setI {X : Cx} {i : Nat} {x : Str} {ei ev : Expr} {f : D → D → D → Option D} {ti : Ev Bor} {tv : Ev RV} {px ps pos : Pos} (hs : DSet X f) (hi : SB X ei ti) (hv : SR X ev tv)
    (hN : X.N[i]? = some x := by rfl) (hvis : Vis X.env.scope x := by first | exact Or.inl rfl | exact Or.inr (Or.inl rfl) | exact Or.inr (Or.inr rfl)) (hd : (x == ("__debug__" : Str)) = false := by decide) (hcd : (x == ("__classdict__" : Str)) = false := by decide)
    (ha : ∀ v, assign (.Subscript (.Name x px) ei ps) X.env v = (do
      let ov ← holding [v] (eval (.Name x px) X.env)
      let iv ← holding [v, ov] (eval ei X.env)
      standAt ps
      holding [v, ov, iv] (setItem ov iv v)
      release [v, ov, iv] []) := by intro _; rfl)
    (h1 : swapsWithSole [.Subscript (.Name x px) ei ps] ev pos.line X.env = pure false := by rfl) (h2 : swappedStores [.Subscript (.Name x px) ei ps] ev X.env = pure none := by rfl) (h3 : (assignEach [.Subscript (.Name x px) ei ps] X.env).map (·.2) = [assign (.Subscript (.Name x px) ei ps) X.env] := by rfl) :
    SS X (.Assign [.Subscript (.Name x px) ei ps] ev pos) (evSetI i f ti tv) := ps_imp (ps_asg hv (pg_sub (pe_var hN hvis hd hcd) hi hs ha) h1 h2 h3) fun E σ H ⟨g, G, φ, s, o, s', hK, R, he, q⟩ => by
  obtain ⟨⟨r1, s1⟩, e1, he⟩ := bind_some_iff he
  obtain ⟨⟨b0, s0⟩, e0, he⟩ := bind_some_iff he
  obtain ⟨⟨b, s2⟩, e2, he⟩ := bind_some_iff he
  obtain ⟨di, e3, he⟩ := bind_some_iff he
  obtain ⟨d, e4, he⟩ := bind_some_iff he
  obtain ⟨d', e5, he⟩ := map_some_iff he
  cases he
  refine ⟨g, G, φ, s, r1, s1, hK, R, e1, fun G1 φ1 H1 v R1' h1 h2 x => ?_⟩
  obtain ⟨G1, R1, hx, rp⟩ := x.froz R1'
  have h1 := h1.trans hx
  have hv : ∃ v, σ[i]? = some (some v) := by
    unfold evSlot at e0
    cases e : s1.env[i]? with
    | none => rw [e] at e0; cases e0
    | some sl =>
      cases sl with
      | non => rw [e] at e0; cases e0
      | fro d => obtain ⟨v, h1, _⟩ := R1.fro i d e; exact ⟨v, h1⟩
      | own d => obtain ⟨p, o, h1, _⟩ := R1.own i d e; exact ⟨_, h1⟩
  obtain ⟨u, hv⟩ := hv
  refine ⟨u, hv, g, G1, φ1, s1, b, s2, hK, R1, e2, fun G2 φ2 H2 w R2 h3 h4 y => ?_⟩
  obtain ⟨p, o, b1, b2, b3, b4, b5⟩ := R2.ownAt e4
  rw [hv] at b1
  cases b1
  exact ⟨φ2, G2, p, o, d, di, r1.d, d', rfl, b2, hK ▸ b3, b4, R2.sub, hK ▸ R2.fetch y e3, hK ▸ rp.mono h3 h4, e5, fun o' ow => q G2 φ2 σ _ (b5 o' d' (hK ▸ ow)) (h1.trans h3) (h2.trans h4)⟩
end Pv

namespace Pv
open PySem PySem.Spec L2
variable [TabL]

theorem RoomG.hu {k : Nat} {A : Around} (r : RoomG k A) : A.units + 100 < cLine := by have := r.room.un; omega
mutual
def py : D → PyData
  | .non => .none
  | .bl b => .bool b
  | .int i => .int i
  | .str x => .str x
  | .tup xs => .tuple (pyAll xs)
  | .lst xs => .list (pyAll xs)
  | .dct _ _ => .none
  | .hd _ => .none
  | .scr _ => .none
def pyAll : List D → List PyData
  | [] => []
  | x :: xs => py x :: pyAll xs
end
theorem pyAll_map : ∀ xs : List D, pyAll xs = xs.map py
  | [] => rfl
  | x :: xs => by rw [pyAll, pyAll_map xs]; rfl
/-- no dict, no cell, of such a depth -/
def eqOk : Nat → D → Bool
  | _, .non => true
  | _, .bl _ => true
  | _, .int _ => true
  | _, .str x => PyData.strOk x
  | n + 1, .tup xs => xs.all (eqOk n)
  | n + 1, .lst xs => xs.all (eqOk n)
  | _, _ => false
theorem eqOk_py : ∀ (n : Nat) (d : D), eqOk n d = true → (py d).canLay0 = true ∧ (py d).depth ≤ n
  | n, .non, _ => by simp [py, PyData.canLay0, PyData.depth]
  | n, .bl _, _ => by simp [py, PyData.canLay0, PyData.depth]
  | n, .int _, _ => by simp [py, PyData.canLay0, PyData.depth]
  | n, .str x, h => by
    have h : PyData.strOk x = true := by cases n <;> exact h
    simp [py, PyData.canLay0, PyData.depth, h]
  | 0, .tup xs, h => by simp [eqOk] at h
  | 0, .lst xs, h => by simp [eqOk] at h
  | n, .dct _ _, h => by cases n <;> simp [eqOk] at h
  | n, .hd _, h => by cases n <;> simp [eqOk] at h
  | n, .scr _, h => by cases n <;> simp [eqOk] at h
  | n + 1, .tup xs, h => by
    have h : xs.all (eqOk n) = true := h
    have all : ∀ ys : List D, ys.all (eqOk n) = true → PyData.canLayAll0 (pyAll ys) = true ∧ PyData.depthAll (pyAll ys) ≤ n := by
      intro ys
      induction ys with
      | nil => intro _; simp [pyAll, PyData.canLayAll0, PyData.depthAll]
      | cons y ys ih =>
        intro hy
        rw [List.all_cons, Bool.and_eq_true] at hy
        obtain ⟨a1, a2⟩ := eqOk_py n y hy.1
        obtain ⟨b1, b2⟩ := ih hy.2
        simp only [pyAll, PyData.canLayAll0, PyData.depthAll, a1, b1, Bool.and_self, true_and]
        omega
    obtain ⟨a, b⟩ := all xs h
    simp only [py, PyData.canLay0, PyData.depth, a, true_and]
    omega
  | n + 1, .lst xs, h => by
    have h : xs.all (eqOk n) = true := h
    have all : ∀ ys : List D, ys.all (eqOk n) = true → PyData.canLayAll0 (pyAll ys) = true ∧ PyData.depthAll (pyAll ys) ≤ n := by
      intro ys
      induction ys with
      | nil => intro _; simp [pyAll, PyData.canLayAll0, PyData.depthAll]
      | cons y ys ih =>
        intro hy
        rw [List.all_cons, Bool.and_eq_true] at hy
        obtain ⟨a1, a2⟩ := eqOk_py n y hy.1
        obtain ⟨b1, b2⟩ := ih hy.2
        simp only [pyAll, PyData.canLayAll0, PyData.depthAll, a1, b1, Bool.and_self, true_and]
        omega
    obtain ⟨a, b⟩ := all xs h
    simp only [py, PyData.canLay0, PyData.depth, a, true_and]
    omega
theorem eqOk_shaped {n : Nat} {d : D} (h : eqOk n d = true) (hn : n ≤ 64 := by decide) : SeqAt.shaped (py d) = true := by
  obtain ⟨a, b⟩ := eqOk_py n d h
  unfold SeqAt.shaped
  rw [Bool.and_eq_true]
  exact ⟨a, decide_eq_true (by omega)⟩
theorem rep_dp {K : PySem.W.Frag} {φ : List Addr} {G : Hp} (n : Nat) : ∀ {d : D} {v : V}, eqOk n d = true → Rep K φ G v d → Dp K G v (py d) := by
  induction n with
  | zero =>
    intro d v h r
    cases r with
    | non => exact .non
    | bl b => exact .bl b
    | int b => exact .int b
    | str b => exact .str b
    | tup s a => simp [eqOk] at h
    | lst s a => simp [eqOk] at h
    | dK s a => simp [eqOk] at h
    | dT s a => simp [eqOk] at h
    | hd e => simp [eqOk] at h
    | scr e => simp [eqOk] at h
  | succ n ih =>
    have all : ∀ (ds : List D) (vs : List V), ds.all (eqOk n) = true → RepA K φ G vs ds → DpAll K G vs (pyAll ds) := by
      intro ds
      induction ds with
      | nil => intro vs _ r; cases r; exact .nil
      | cons d ds ih2 =>
        intro vs hd r
        rw [List.all_cons, Bool.and_eq_true] at hd
        cases r with
        | cons r rs => exact .cons (ih hd.1 r) (ih2 _ hd.2 rs)
    intro d v h r
    cases r with
    | non => exact .non
    | bl b => exact .bl b
    | int b => exact .int b
    | str b => exact .str b
    | tup s a => exact .tup (SqT.of s) (all _ _ h a)
    | lst s a => exact .lst (SqL.of s) (all _ _ h a)
    | dK s a => simp [eqOk] at h
    | dT s a => simp [eqOk] at h
    | hd e => simp [eqOk] at h
    | scr e => simp [eqOk] at h
def deq (a b : D) : Bool := PyData.eqv (py a) (py b)
def deqAll : List D → List D → Bool
  | [], [] => true
  | x :: xs, y :: ys => deq x y && deqAll xs ys
  | [], _ :: _ => false
  | _ :: _, [] => false
theorem eqvAll_py : ∀ xs ys : List D, PyData.eqvAll (pyAll xs) (pyAll ys) = deqAll xs ys
  | [], [] => by simp [pyAll, PyData.eqvAll, deqAll]
  | x :: xs, [] => by simp [pyAll, PyData.eqvAll, deqAll]
  | [], y :: ys => by simp [pyAll, PyData.eqvAll, deqAll]
  | x :: xs, y :: ys => by rw [pyAll, pyAll, PyData.eqvAll, eqvAll_py xs ys]; rfl
def dEq : Op2 := fun a b => match a, b with
  | .str x, .str y => some (.fro (.bl (decide (x = y))))
  | a, b => if eqOk 50 a && eqOk 50 b then some (.fro (.bl (deq a b))) else none
def dNe : Op2 := fun a b => match a, b with
  | .str x, .str y => some (.fro (.bl (!decide (x = y))))
  | a, b => if eqOk 50 a && eqOk 50 b then some (.fro (.bl (!deq a b))) else none
section
variable {X : Cx}
theorem dop_eq (hu : X.A.units + 100 < cLine) : DOp X (compareOp .Eq) dEq := fun pins s σ H x y v u Q I rx ry ⟨φ, G, dx, dy, r, sub, hx, hy, hf, q⟩ => by
  unfold dEq at hf
  split at hf
  · rename_i a b
    cases hf
    cases hx.str
    cases hy.str
    exact op_eq pins s σ H _ _ v u Q I rx ry ⟨rfl, q G H _ (Grow.refl sub) (.fro (by rw [show decide (V.str a = V.str b) = decide (a = b) from by simp]; exact .bl _))⟩
  split at hf
  · rename_i h
    cases hf
    rw [Bool.and_eq_true] at h
    exact op_eqD (by omega) pins s σ H x y v u Q I rx ry ⟨py dx, py dy, rep_dp 50 h.1 (hx.rep sub), rep_dp 50 h.2 (hy.rep sub), eqOk_shaped h.1, eqOk_shaped h.2, q G H _ (Grow.refl sub) (.fro (.bl _))⟩
  · cases hf
theorem dop_ne (hu : X.A.units + 100 < cLine) : DOp X (compareOp .NotEq) dNe := fun pins s σ H x y v u Q I rx ry ⟨φ, G, dx, dy, r, sub, hx, hy, hf, q⟩ => by
  unfold dNe at hf
  split at hf
  · rename_i a b
    cases hf
    cases hx.str
    cases hy.str
    exact op_ne pins s σ H _ _ v u Q I rx ry ⟨rfl, q G H _ (Grow.refl sub) (.fro (by rw [show decide (V.str a = V.str b) = decide (a = b) from by simp]; exact .bl _))⟩
  split at hf
  · rename_i h
    cases hf
    rw [Bool.and_eq_true] at h
    exact op_neD (by omega) pins s σ H x y v u Q I rx ry ⟨py dx, py dy, rep_dp 50 h.1 (hx.rep sub), rep_dp 50 h.2 (hy.rep sub), eqOk_shaped h.1, eqOk_shaped h.2, q G H _ (Grow.refl sub) (.fro (.bl _))⟩
  · cases hf

theorem OpRep.froT {K : PySem.W.Frag} {φ : List Addr} {G H : Hp} {v : V} {ds : List D} (r : OpRep K φ G H v (.tup ds)) : Rep K φ G v (.tup ds) := by
  cases r with
  | fro r => exact r
  | own e o => cases o
def dAdd : Op2 := fun a b => match a, b with
  | .int a, .int b => some (.fro (.int (a + b)))
  | .lst a, .lst b => if a.length + b.length ≤ 1000000 then some (.own (.lst (a ++ b))) else none
  | .tup a, .tup b => if a.length + b.length ≤ 1000000 then some (.fro (.tup (a ++ b))) else none
  | .str a, .str b => if a.length + b.length ≤ 1000000 then some (.fro (.str (a ++ b))) else none
  | _, _ => none
theorem dop_add : DOp X (binaryOp .Add) dAdd := fun pins s σ H x y v u Q I rx ry ⟨φ, G, dx, dy, r, sub, hx, hy, hf, q⟩ => by
  have mil := million
  unfold dAdd at hf
  split at hf
  · cases hf
    exact op_add pins s σ H x y v u Q I rx ry ⟨_, _, hx.int, hy.int, q G H _ (Grow.refl sub) (.fro (.int _))⟩
  · split at hf
    · rename_i a b hl
      cases hf
      obtain ⟨p, xs, rfl, e1, r1⟩ := hx.lst sub
      obtain ⟨p2, ys, rfl, e2, r2⟩ := hy.lst sub
      have hz : xs.length + ys.length ≤ sizeLine := by rw [r1.length, r2.length]; omega
      exact op_cat pins s σ H _ _ v u Q I rx ry ⟨p, p2, xs, ys, rfl, rfl, e1, e2, hz, fun a ha => q G _ _ (Grow.aside sub ha) (.own ha upd_same (sub.free ha) (.lst (r1.append r2)))⟩
    · cases hf
  · split at hf
    · rename_i a b hl
      cases hf
      obtain ⟨p, xs, rfl, e1, r1⟩ := hx.tup sub
      obtain ⟨p2, ys, rfl, e2, r2⟩ := hy.tup sub
      have hz : xs.length + ys.length ≤ sizeLine := by rw [r1.length, r2.length]; omega
      refine op_catA pins s σ H _ _ v u Q I rx ry ⟨p, p2, xs, ys, rfl, rfl, SqT.of e1, SqT.of e2, hz, fun z => ?_, fun z1 z2 => ?_, fun z1 z2 a ha => ?_⟩
      · subst z
        cases r1
        exact q G H _ (Grow.refl sub) (.fro hy.froT)
      · subst z2
        cases r2
        refine q G H _ (Grow.refl sub) (.fro ?_)
        rw [List.append_nil]
        exact hx.froT
      · have gr := Grow.laid sub (o := .tup (xs ++ ys)) ha
        exact q _ _ _ gr (.fro (.tup upd_same ((r1.append r2).mono gr.gg (List.prefix_refl _))))
    · cases hf
  · split at hf
    · rename_i a b hl
      cases hf
      exact op_add_str pins s σ H x y v u Q I rx ry ⟨_, _, hx.str, hy.str, by omega, q G H _ (Grow.refl sub) (.fro (.str _))⟩
    · cases hf
  · cases hf
def dSub : Op2 := fun a b => match a, b with
  | .int a, .int b => some (.fro (.int (a - b)))
  | _, _ => none
theorem dop_sub : DOp X (binaryOp .Sub) dSub := fun pins s σ H x y v u Q I rx ry ⟨φ, G, dx, dy, r, sub, hx, hy, hf, q⟩ => by
  unfold dSub at hf
  split at hf
  · cases hf
    exact op_sub pins s σ H x y v u Q I rx ry ⟨_, _, hx.int, hy.int, q G H _ (Grow.refl sub) (.fro (.int _))⟩
  · cases hf
def smallI (i : Int) : Bool := decide (-(2 ^ 64) < i) && decide (i < 2 ^ 64)
theorem smallI_ok {i : Int} (h : smallI i = true) : -(2 ^ 64) < i ∧ i < 2 ^ 64 := by
  unfold smallI at h
  rw [Bool.and_eq_true, decide_eq_true_eq, decide_eq_true_eq] at h
  exact h
def dMul : Op2 := fun a b => match a, b with
  | .int a, .int b => if smallI a || smallI b then some (.fro (.int (a * b))) else none
  | .tup a, .int k => if !a.isEmpty && decide (2 ≤ k) && decide (k ≤ 1000) && decide (a.length ≤ 1000) then some (.fro (.tup (List.replicate k.toNat a).flatten)) else none
  | .lst a, .int k => if decide (0 ≤ k) && decide (k ≤ 1000) && decide (a.length ≤ 1000) then some (.own (.lst (List.replicate k.toNat a).flatten)) else none
  | _, _ => none
theorem RepA.rep {K : PySem.W.Frag} {φ : List Addr} {G : Hp} {vs : List V} {ds : List D} (r : RepA K φ G vs ds) : ∀ k : Nat, RepA K φ G (List.replicate k vs).flatten (List.replicate k ds).flatten
  | 0 => .nil
  | k + 1 => by
    rw [List.replicate_succ, List.replicate_succ, List.flatten_cons, List.flatten_cons]
    exact r.append (r.rep k)
theorem dop_mul : DOp X (binaryOp .Mult) dMul := fun pins s σ H x y v u Q I rx ry ⟨φ, G, dx, dy, r, sub, hx, hy, hf, q⟩ => by
  have mil := million
  unfold dMul at hf
  split at hf
  · split at hf
    · rename_i h
      cases hf
      rw [Bool.or_eq_true] at h
      exact op_mul pins s σ H x y v u Q I rx ry ⟨_, _, hx.int, hy.int, h.imp smallI_ok smallI_ok, q G H _ (Grow.refl sub) (.fro (.int _))⟩
    · cases hf
  · split at hf
    · rename_i a k h
      cases hf
      simp only [Bool.and_eq_true, decide_eq_true_eq, Bool.not_eq_true'] at h
      obtain ⟨⟨⟨h1, h2⟩, h3⟩, h4⟩ := h
      obtain ⟨p, xs, rfl, e1, r1⟩ := hx.tup sub
      refine op_repT pins s σ H _ _ v u Q I rx ry ⟨p, k, xs, rfl, hy.int, SqT.of e1, fun z => ?_, h2, h3, by rw [r1.length]; exact h4, fun a ha => ?_⟩
      · subst z; cases r1; cases h1
      · have gr := Grow.laid sub (o := .tup (List.replicate k.toNat xs).flatten) ha
        exact q _ _ _ gr (.fro (.tup upd_same ((r1.rep k.toNat).mono gr.gg (List.prefix_refl _))))
    · cases hf
  · split at hf
    · rename_i a k h
      cases hf
      simp only [Bool.and_eq_true, decide_eq_true_eq] at h
      obtain ⟨⟨h2, h3⟩, h4⟩ := h
      obtain ⟨p, xs, rfl, e1, r1⟩ := hx.lst sub
      have hz : xs.length * k.toNat ≤ sizeLine := by
        have : xs.length * k.toNat ≤ 1000 * 1000 := Nat.mul_le_mul (by rw [r1.length]; exact h4) (by omega)
        omega
      exact op_rep pins s σ H _ _ v u Q I rx ry ⟨_, k, xs, rfl, hy.int, e1, by omega, by omega, hz, fun p hp => q G _ _ (Grow.aside sub hp) (.own hp upd_same (sub.free hp) (.lst (r1.rep k.toNat)))⟩
    · cases hf
  · cases hf
def dMod : Op2 := fun a b => match a, b with
  | .int a, .int b => if 0 < b then some (.fro (.int (a % b))) else none
  | _, _ => none
theorem dop_mod : DOp X (binaryOp .Mod) dMod := fun pins s σ H x y v u Q I rx ry ⟨φ, G, dx, dy, r, sub, hx, hy, hf, q⟩ => by
  unfold dMod at hf
  split at hf
  · split at hf
    · rename_i h
      cases hf
      exact op_mod pins s σ H x y v u Q I rx ry ⟨_, _, hx.int, hy.int, h, q G H _ (Grow.refl sub) (.fro (.int _))⟩
    · cases hf
  · cases hf
def dFdiv : Op2 := fun a b => match a, b with
  | .int a, .int b => if 0 < b ∧ b < 2 ^ 64 then some (.fro (.int (a / b))) else none
  | _, _ => none
theorem dop_fdiv : DOp X (binaryOp .FloorDiv) dFdiv := fun pins s σ H x y v u Q I rx ry ⟨φ, G, dx, dy, r, sub, hx, hy, hf, q⟩ => by
  unfold dFdiv at hf
  split at hf
  · split at hf
    · rename_i h
      cases hf
      exact op_fdivW pins s σ H x y v u Q I rx ry ⟨_, _, hx.int, hy.int, wide_div (b := 64) h.1 (by omega) (by decide) (by decide), q G H _ (Grow.refl sub) (.fro (.int _))⟩
    · cases hf
  · cases hf
def dPow : Op2 := fun a b => match a, b with
  | .int a, .int b => if smallI a && decide (0 ≤ b) && decide (b ≤ 1000) then some (.fro (.int (a ^ b.toNat))) else none
  | _, _ => none
theorem dop_pow : DOp X (binaryOp .Pow) dPow := fun pins s σ H x y v u Q I rx ry ⟨φ, G, dx, dy, r, sub, hx, hy, hf, q⟩ => by
  unfold dPow at hf
  split at hf
  · split at hf
    · rename_i h
      cases hf
      simp only [Bool.and_eq_true, decide_eq_true_eq] at h
      obtain ⟨⟨h1, h2⟩, h3⟩ := h
      have h1 := smallI_ok h1
      exact op_pow pins s σ H x y v u Q I rx ry ⟨_, _, hx.int, hy.int, ⟨h2, by omega, by omega⟩, q G H _ (Grow.refl sub) (.fro (.int _))⟩
    · cases hf
  · cases hf
end
end Pv

namespace Pv
open PySem PySem.Spec L2
variable [TabL]
section
variable {X : Cx}
def cmpI (p : Int → Int → Bool) : Op2 := fun a b => match a, b with
  | .int a, .int b => some (.fro (.bl (p a b)))
  | _, _ => none
theorem dop_cmpI {op : CmpOp} {p : Int → Int → Bool} (h : OpR X (compareOp op) (rI0 fun i j => .bl (p i j))) : DOp X (compareOp op) (cmpI p) := fun pins s σ H x y v u Q I rx ry ⟨φ, G, dx, dy, r, sub, hx, hy, hf, q⟩ => by
  unfold cmpI at hf
  split at hf
  · cases hf
    exact h pins s σ H x y v u Q I rx ry ⟨_, _, hx.int, hy.int, q G H _ (Grow.refl sub) (.fro (.bl _))⟩
  · cases hf
/-- the ints of a tuple -/
def intsOf : List D → Option (List Int)
  | [] => some []
  | .int i :: ds => (intsOf ds).map fun r => i :: r
  | _ => none
theorem RepA.ints {K : PySem.W.Frag} {φ : List Addr} {G : Hp} : ∀ {vs : List V} {ds : List D} {ns : List Int}, RepA K φ G vs ds → intsOf ds = some ns → vs = ns.map V.int
  | _, _, _, .nil, h => by cases h; rfl
  | _, _, _, .cons (d := d) (ds := ds) r rs, h => by
    cases d with
    | int i =>
      obtain ⟨m, e, h⟩ := map_some_iff (show (intsOf ds).map (fun r => i :: r) = some _ from h)
      subst h
      cases r
      rw [RepA.ints rs e]
      rfl
    | _ => cases h
def dLt : Op2 := fun a b => match a, b with
  | .tup xs, .tup ys => match intsOf xs, intsOf ys with
    | some ns, some ms => some (.fro (.bl (HT.lexLt ns ms)))
    | _, _ => none
  | a, b => cmpI (fun i j => decide (i < j)) a b
theorem dop_lt (hu : X.A.units + 100 < cLine) : DOp X (compareOp .Lt) dLt := fun pins s σ H x y v u Q I rx ry ⟨φ, G, dx, dy, r, sub, hx, hy, hf, q⟩ => by
  unfold dLt at hf
  split at hf
  · split at hf
    · rename_i e1 e2
      cases hf
      obtain ⟨a, vs, rfl, s1, r1⟩ := hx.tup sub
      obtain ⟨b, ws, rfl, s2, r2⟩ := hy.tup sub
      have h1 := r1.ints e1
      have h2 := r2.ints e2
      subst h1 h2
      exact op_ltT (by omega) pins s σ H _ _ v u Q I rx ry ⟨a, b, _, _, rfl, rfl, SqT.of s1, SqT.of s2, q G H _ (Grow.refl sub) (.fro (.bl _))⟩
    · cases hf
  · exact dop_cmpI op_lt pins s σ H x y v u Q I rx ry ⟨φ, G, _, _, r, sub, hx, hy, hf, q⟩
abbrev dLe : Op2 := cmpI fun i j => decide (i ≤ j)
abbrev dGt : Op2 := cmpI fun i j => decide (j < i)
abbrev dGe : Op2 := cmpI fun i j => decide (j ≤ i)
theorem dop_le : DOp X (compareOp .LtE) dLe := dop_cmpI op_le
theorem dop_gt : DOp X (compareOp .Gt) dGt := dop_cmpI op_gt
theorem dop_ge : DOp X (compareOp .GtE) dGe := dop_cmpI op_ge
def isNon : D → Bool
  | .non => true
  | _ => false
def dIs : Op2 := fun a b => match a, b with
  | a, .non => some (.fro (.bl (isNon a)))
  | .bl a, .bl b => some (.fro (.bl (decide (a = b))))
  | _, _ => none
def dIsNot : Op2 := fun a b => match a, b with
  | a, .non => some (.fro (.bl (!isNon a)))
  | .bl a, .bl b => some (.fro (.bl (!decide (a = b))))
  | _, _ => none
theorem isNon_V {K : PySem.W.Frag} {φ : List Addr} {G H : Hp} {v : V} {d : D} (r : OpRep K φ G H v d) : decide (v = .non) = isNon d := by
  cases r with
  | fro r => cases r <;> rfl
  | own e o => cases o <;> rfl
theorem dop_is : DOp X (compareOp .Is) dIs := fun pins s σ H x y v u Q I rx ry ⟨φ, G, dx, dy, r, sub, hx, hy, hf, q⟩ => by
  unfold dIs at hf
  split at hf
  · cases hf
    exact op_isN pins s σ H x y v u Q I rx ry ⟨hy.non, by rw [isNon_V hx]; exact q G H _ (Grow.refl sub) (.fro (.bl _))⟩
  · cases hf
    exact op_is_bl pins s σ H x y v u Q I rx ry ⟨_, _, hx.bl, hy.bl, q G H _ (Grow.refl sub) (.fro (.bl _))⟩
  · cases hf
theorem dop_isnot : DOp X (compareOp .IsNot) dIsNot := fun pins s σ H x y v u Q I rx ry ⟨φ, G, dx, dy, r, sub, hx, hy, hf, q⟩ => by
  unfold dIsNot at hf
  split at hf
  · cases hf
    exact op_notN pins s σ H x y v u Q I rx ry ⟨hy.non, by rw [isNon_V hx]; exact q G H _ (Grow.refl sub) (.fro (.bl _))⟩
  · cases hf
    exact op_isnot_bl pins s σ H x y v u Q I rx ry ⟨_, _, hx.bl, hy.bl, q G H _ (Grow.refl sub) (.fro (.bl _))⟩
  · cases hf
def toKey : D → Option Key
  | .int i => some (.inl i)
  | .str x => some (.inr x)
  | _ => none
def toKeys : List D → Option (List Key)
  | [] => some []
  | d :: ds => (toKey d).bind fun k => (toKeys ds).map fun r => k :: r
/-- what a dict has at a key -/
def lookK (kvs : List (D × D)) (k : Key) : Option D := (kvs.find? fun p => decide (toKey p.1 = some k)).map (·.2)
def tupKeys : D → Option (List Key)
  | .tup ds => toKeys ds
  | _ => none
def lookT (kvs : List (D × D)) (k : List Key) : Option D := (kvs.find? fun p => decide (tupKeys p.1 = some k)).map (·.2)
/-- .. by any key of the dict's kind; none: the key is of another kind -/
def dLook (t : Bool) (kvs : List (D × D)) (d : D) : Option (Option D) := if t then (tupKeys d).map fun k => lookT kvs k else (toKey d).map fun k => lookK kvs k
theorem toKey_kD (k : Key) : toKey (kD k) = some k := by cases k <;> rfl
theorem toKeys_kD : ∀ ks : List Key, toKeys (ks.map kD) = some ks
  | [] => rfl
  | k :: ks => by
    show (toKey (kD k)).bind _ = _
    rw [toKey_kD, Option.bind_some, toKeys_kD ks]
    rfl
theorem toKey_V {K : PySem.W.Frag} {φ : List Addr} {G : Hp} {v : V} {d : D} {k : Key} (r : Rep K φ G v d) (h : toKey d = some k) : v = kV k := by
  cases r <;> cases h <;> rfl
theorem toKeys_V {K : PySem.W.Frag} {φ : List Addr} {G : Hp} : ∀ {vs : List V} {ds : List D} {ks : List Key}, RepA K φ G vs ds → toKeys ds = some ks → vs = ks.map kV
  | _, _, _, .nil, h => by cases h; rfl
  | _, _, _, .cons r rs, h => by
    obtain ⟨k, e1, h⟩ := bind_some_iff h
    obtain ⟨m, e2, h⟩ := map_some_iff h
    subst h
    rw [toKey_V r e1, toKeys_V rs e2]
    rfl
inductive OptRep (K : PySem.W.Frag) (φ : List Addr) (G : Hp) : Option V → Option D → Prop
  | none : OptRep K φ G none none
  | some {v d} : Rep K φ G v d → OptRep K φ G (some v) (some d)
theorem lookK_V {K : PySem.W.Frag} {φ : List Addr} {G : Hp} {k : Key} : ∀ {kvs : List (Key × V)} {ds : List (D × D)}, RepK K φ G kvs ds → OptRep K φ G (valV kvs k) (lookK ds k)
  | _, _, .nil => .none
  | _, _, .cons (k := j) (v := v) (vs := vs) (d := d) (ds := ds) r rs => by
    by_cases e : j = k
    · subst e
      have : lookK ((kD j, d) :: ds) j = some d := by simp [lookK, List.find?_cons, toKey_kD]
      rw [this, valV_pos (p := (j, v)) rfl]
      exact .some r
    · have : lookK ((kD j, d) :: ds) k = lookK ds k := by simp [lookK, List.find?_cons, toKey_kD, e]
      rw [this, valV_neg (p := (j, v)) e]
      exact lookK_V rs
theorem lookT_V {K : PySem.W.Frag} {φ : List Addr} {G : Hp} {k : List Key} : ∀ {kvs : List (List Key × V)} {ds : List (D × D)}, RepT K φ G kvs ds → OptRep K φ G (valV kvs k) (lookT ds k)
  | _, _, .nil => .none
  | _, _, .cons (k := j) (v := v) (vs := vs) (d := d) (ds := ds) r rs => by
    by_cases e : j = k
    · subst e
      have : lookT ((.tup (j.map kD), d) :: ds) j = some d := by simp [lookT, List.find?_cons, tupKeys, toKeys_kD]
      rw [this, valV_pos (p := (j, v)) rfl]
      exact .some r
    · have : lookT ((.tup (j.map kD), d) :: ds) k = lookT ds k := by simp [lookT, List.find?_cons, tupKeys, toKeys_kD, e]
      rw [this, valV_neg (p := (j, v)) e]
      exact lookT_V rs
theorem OpRep.dctK {K : PySem.W.Frag} {φ : List Addr} {G H : Hp} {v : V} {ds : List (D × D)} (h : Same G H) (r : OpRep K φ G H v (.dct false ds)) : ∃ a kvs, v = .ref a ∧ Rd H a (.dK kvs) ∧ RepK K φ G kvs ds := by
  cases r with
  | fro r => cases r with | dK s a => exact ⟨_, _, rfl, rd_mono h s, a⟩
  | own e o => cases o with | dK a => exact ⟨_, _, rfl, .inl e, a⟩
theorem OpRep.dctT {K : PySem.W.Frag} {φ : List Addr} {G H : Hp} {v : V} {ds : List (D × D)} (h : Same G H) (r : OpRep K φ G H v (.dct true ds)) : ∃ a kvs, v = .ref a ∧ Rd H a (.dT kvs) ∧ RepT K φ G kvs ds := by
  cases r with
  | fro r => cases r with | dT s a => exact ⟨_, _, rfl, rd_mono h s, a⟩
  | own e o => cases o with | dT a => exact ⟨_, _, rfl, .inl e, a⟩
/-- a look-up by trees is one in the heap -/
theorem dLook_V {K : PySem.W.Frag} {φ : List Addr} {G H : Hp} {v w : V} {t : Bool} {kvs : List (D × D)} {d : D} {o : Option D} (sub : Same G H) (hc : OpRep K φ G H v (.dct t kvs)) (hk : OpRep K φ G H w d) (e : dLook t kvs d = some o) :
    ∃ a ov, v = .ref a ∧ DGet H a w ov ∧ OptRep K φ G ov o := by
  unfold dLook at e
  cases t with
  | false =>
    rw [if_neg Bool.false_ne_true] at e
    obtain ⟨k, e1, e2⟩ := map_some_iff e
    rw [← e2]
    obtain ⟨a, kv, rfl, rd, rk⟩ := hc.dctK sub
    have hw : w = kV k := by
      cases hk with
      | fro r => exact toKey_V r e1
      | own _ q => cases q <;> cases e1
    subst hw
    exact ⟨a, valV kv k, rfl, .inl ⟨kv, k, rd, rfl, rfl⟩, lookK_V rk⟩
  | true =>
    rw [if_pos rfl] at e
    obtain ⟨k, e1, e2⟩ := map_some_iff e
    rw [← e2]
    obtain ⟨a, kv, rfl, rd, rk⟩ := hc.dctT sub
    cases d with
    | tup ds =>
      have rt := hk.froT
      cases rt with
      | tup st ra =>
        have hv := toKeys_V ra e1
        subst hv
        exact ⟨a, valV kv k, rfl, .inr ⟨kv, k, _, rd, rfl, sub _ _ st, rfl⟩, lookT_V rk⟩
    | _ => cases e1
def isIn (c x : D) : Option Bool := match c with
  | .lst ds => if eqOk 49 x && ds.all (eqOk 49) then some (ds.any fun z => deq z x) else none
  | .tup ds => if eqOk 49 x && ds.all (eqOk 49) then some (ds.any fun z => deq z x) else none
  | .dct t kvs => (dLook t kvs x).map Option.isSome
  | _ => none
def dIn : Op2 := fun x c => (isIn c x).map fun b => .fro (.bl b)
def dNotIn : Op2 := fun x c => (isIn c x).map fun b => .fro (.bl (!b))
theorem any_py (x : D) : ∀ ds : List D, (pyAll ds).any (fun z => PyData.eqv z (py x)) = ds.any fun z => deq z x
  | [] => rfl
  | d :: ds => by rw [pyAll, List.any_cons, List.any_cons, any_py x ds]; rfl
theorem eqOk_lst {n : Nat} {ds : List D} (h : ds.all (eqOk n) = true) : eqOk (n + 1) (.lst ds) = true := h
theorem eqOk_tup {n : Nat} {ds : List D} (h : ds.all (eqOk n) = true) : eqOk (n + 1) (.tup ds) = true := h
theorem in_tupD (hu : X.A.units + 100 < cLine) {pins : List (Addr × Obj)} {s : Shared} {σ : L2.St} {H : Hp} {v u : Value} {E : Value → Shared → Prop} {Q : Value → Shared → Prop} {x y : V} {a : D} {ds : List D} (I : Inv X pins σ H s) (rx : RelV x v) (ry : RelV y u) (h1 : Dp X.K H x (py a)) (h2 : Dp X.K H y (.tuple (pyAll ds)))
    (h : (eqOk 49 a && ds.all (eqOk 49)) = true) (neg : Bool) (q : Q (.bool (cond neg (!ds.any fun z => deq z a) (ds.any fun z => deq z a))) s) : wpAny (model X.prog X.w) X.A (compareOp (cond neg .NotIn .In) v u) Q E s := by
  rw [Bool.and_eq_true] at h
  obtain ⟨as, r1⟩ := Dp.reads I _ x v h1 rx
  obtain ⟨bs, r2⟩ := Dp.reads I _ y u h2 ry
  have s1 := (eqOk_py 49 a h.1).1
  have s2 := eqOk_py 50 (.tup ds) (eqOk_tup h.2)
  have s2a : PyData.canLayAll0 (pyAll ds) = true := by
    have := s2.1
    simp only [py, PyData.canLay0] at this
    exact this
  have room : X.A.units + 1 + min (PyData.depthAll (pyAll ds)) (py a).depth < cLine := by
    have := (eqOk_py 49 a h.1).2
    omega
  cases neg with
  | false => exact SeqAt.in_tuple_reads r2 r1 s2a s1 room (by rw [any_py]; exact q)
  | true => exact SeqAt.notIn_tuple_reads r2 r1 s2a s1 room (by rw [any_py]; exact q)
theorem dop_in (hu : X.A.units + 100 < cLine) : DOp X (compareOp .In) dIn := fun pins s σ H x y v u Q I rx ry ⟨φ, G, dx, dy, r, sub, hx, hy, hf, q⟩ => by
  obtain ⟨b, e, hf⟩ := map_some_iff hf
  subst hf
  cases dy with
  | lst ds =>
    have e : (if eqOk 49 dx && ds.all (eqOk 49) then _ else _) = _ := e
    split at e
    · rename_i h
      cases e
      rw [Bool.and_eq_true] at h
      refine op_inD (by omega) pins s σ H x y v u Q I rx ry ⟨py dx, pyAll ds, rep_dp 49 h.1 (hx.rep sub), rep_dp 50 (eqOk_lst h.2) (hy.rep sub), eqOk_shaped h.1, eqOk_shaped (eqOk_lst h.2), ?_⟩
      rw [any_py]
      exact q G H _ (Grow.refl sub) (.fro (.bl _))
    · cases e
  | tup ds =>
    have e : (if eqOk 49 dx && ds.all (eqOk 49) then _ else _) = _ := e
    split at e
    · rename_i h
      cases e
      have h' := h
      rw [Bool.and_eq_true] at h'
      exact in_tupD hu I rx ry (rep_dp 49 h'.1 (hx.rep sub)) (rep_dp 50 (eqOk_tup h'.2) (hy.rep sub)) h false ⟨.bl _, H, I, rfl, q G H _ (Grow.refl sub) (.fro (.bl _))⟩
    · cases e
  | dct t kvs =>
    obtain ⟨o, e1, e2⟩ := map_some_iff e
    subst e2
    obtain ⟨a, ov, rfl, dg, ro⟩ := dLook_V sub hy hx e1
    cases ry
    refine d_in (by omega) I dg rx fun s' I' => ⟨.bl _, H, I', rfl, ?_⟩
    cases ro with
    | none => exact q G H _ (Grow.refl sub) (.fro (.bl _))
    | some r => exact q G H _ (Grow.refl sub) (.fro (.bl _))
  | _ => cases e
theorem dop_notin (hu : X.A.units + 100 < cLine) : DOp X (compareOp .NotIn) dNotIn := fun pins s σ H x y v u Q I rx ry ⟨φ, G, dx, dy, r, sub, hx, hy, hf, q⟩ => by
  obtain ⟨b, e, hf⟩ := map_some_iff hf
  subst hf
  cases dy with
  | lst ds =>
    have e : (if eqOk 49 dx && ds.all (eqOk 49) then _ else _) = _ := e
    split at e
    · rename_i h
      cases e
      rw [Bool.and_eq_true] at h
      refine op_notInD (by omega) pins s σ H x y v u Q I rx ry ⟨py dx, pyAll ds, rep_dp 49 h.1 (hx.rep sub), rep_dp 50 (eqOk_lst h.2) (hy.rep sub), eqOk_shaped h.1, eqOk_shaped (eqOk_lst h.2), ?_⟩
      rw [any_py]
      exact q G H _ (Grow.refl sub) (.fro (.bl _))
    · cases e
  | tup ds =>
    have e : (if eqOk 49 dx && ds.all (eqOk 49) then _ else _) = _ := e
    split at e
    · rename_i h
      cases e
      have h' := h
      rw [Bool.and_eq_true] at h'
      exact in_tupD hu I rx ry (rep_dp 49 h'.1 (hx.rep sub)) (rep_dp 50 (eqOk_tup h'.2) (hy.rep sub)) h true ⟨.bl _, H, I, rfl, q G H _ (Grow.refl sub) (.fro (.bl _))⟩
    · cases e
  | dct t kvs =>
    obtain ⟨o, e1, e2⟩ := map_some_iff e
    subst e2
    obtain ⟨a, ov, rfl, dg, ro⟩ := dLook_V sub hy hx e1
    cases ry
    refine d_notIn (by omega) I dg rx fun s' I' => ⟨.bl _, H, I', rfl, ?_⟩
    cases ro with
    | none => exact q G H _ (Grow.refl sub) (.fro (.bl _))
    | some r => exact q G H _ (Grow.refl sub) (.fro (.bl _))
  | _ => cases e

theorem RepA.at {K : PySem.W.Frag} {φ : List Addr} {G : Hp} {vs : List V} {ds : List D} {i : Int} {d : D} (r : RepA K φ G vs ds) (h : atI ds i = some d) : ∃ v, atI vs i = some v ∧ Rep K φ G v d := by
  unfold atI at h ⊢
  rw [r.length]
  obtain ⟨j, e1, e2⟩ := bind_some_iff h
  obtain ⟨v, e3, e4⟩ := r.get e2
  exact ⟨v, by rw [e1]; exact e3, e4⟩
/-- o[i] by what getItem does -/
theorem tail_get {prog : Program} {w : World} {A : Around} {E Q : Value → Shared → Prop} {s : Shared} {value slice : Expr} {o i : Value} {T id : String} (ty : s.TypeIs o T) (look : typeLookup (.type T) "__getitem__" = pure (some (.builtin id)))
    (got : wpAny (model prog w) A (getItem o i) Q E s) (plain : subscripted slice false o i = operate [o, i] (getItem o i)) : wpAny (model prog w) A (PyProof.Rows.subscriptTail value slice o i) Q E s := by
  have out : wpAny (model prog w) A (subscripted slice false o i) (fun r s' => wpAny (model prog w) A (letTemporaryGo value o r >>= fun _ => pure r) Q E s') E s :=
    plain ▸ wpAny_operating (wpAny_mono got (fun _ _ q => wpAny_bind (wpAny_letTemporaryGo (wpAny_pure q))) fun _ _ q => q)
  unfold PyProof.Rows.subscriptTail
  rw [getitemInPython_of_ne ty.not_modules]
  refine wpAny_bind (wpAny_bind (wpAny_specialOf ty look ?_))
  first
    | exact wpAny_bind out
    | exact wpAny_pure (wpAny_bind out)
    | exact wpAny_bind (wpAny_pure (wpAny_bind out))
def dIx : Op2 := fun c k => match c with
  | .lst ds => match k with
    | .int i => (atI ds i).map .fro
    | _ => none
  | .tup ds => match k with
    | .int i => (atI ds i).map .fro
    | _ => none
  | .dct t kvs => (dLook t kvs k).bind fun o => o.map .fro
  | _ => none
theorem dix (hu : X.A.units + 100 < cLine) : DIx X dIx := fun value slice pins s σ H x y v u Q I rx ry ⟨φ, G, dx, dy, r, sub, hx, hy, hf, q⟩ hs => by
  cases dx with
  | lst ds =>
    cases dy with
    | int i =>
      obtain ⟨d, e, hf⟩ := map_some_iff (show (atI ds i).map RV.fro = some r from hf)
      subst hf
      obtain ⟨a, vs, rfl, s1, r1⟩ := hx.lst sub
      obtain ⟨w, e2, e3⟩ := r1.at e
      exact ix_list value slice pins s σ H _ _ v u Q I rx ry ⟨a, vs, i, w, rfl, hy.int, SqL.of s1, e2, q G H _ (Grow.refl sub) (.fro e3)⟩ hs
    | _ => cases hf
  | tup ds =>
    cases dy with
    | int i =>
      obtain ⟨d, e, hf⟩ := map_some_iff (show (atI ds i).map RV.fro = some r from hf)
      subst hf
      obtain ⟨a, vs, rfl, s1, r1⟩ := hx.tup sub
      obtain ⟨w, e2, e3⟩ := r1.at e
      exact ix_tup value slice pins s σ H _ _ v u Q I rx ry ⟨a, vs, i, w, rfl, hy.int, SqT.of s1, e2, q G H _ (Grow.refl sub) (.fro e3)⟩ hs
    | _ => cases hf
  | dct t kvs =>
    obtain ⟨o, e1, e2⟩ := bind_some_iff (show (dLook t kvs dy).bind (fun o => o.map RV.fro) = some r from hf)
    obtain ⟨a, ov, rfl, dg, ro⟩ := dLook_V sub hx hy e1
    cases ro with
    | none => cases e2
    | some rp =>
      cases e2
      cases rx
      exact tail_get (dict_typeIs I dg) PySem.F.slot_dict_getitem.lookup (d_getItem (by omega) I dg ry fun w' s' I' rw' => ⟨_, H, I', rw', q G H _ (Grow.refl sub) (.fro rp)⟩) hs
  | _ => cases hf
end
end Pv

namespace Pv
open PySem PySem.Spec L2
variable [TabL]
section
variable {X : Cx}
def cutL {α : Type} (xs : List α) (lo hi : Option Int) : List α := (xs.drop (HT.sIx xs.length 0 lo)).take (HT.sIx xs.length xs.length hi - HT.sIx xs.length 0 lo)
theorem RepA.drop {K : PySem.W.Frag} {φ : List Addr} {G : Hp} : ∀ {vs ds} (n : Nat), RepA K φ G vs ds → RepA K φ G (vs.drop n) (ds.drop n)
  | _, _, 0, r => r
  | _, _, _ + 1, .nil => .nil
  | _, _, n + 1, .cons _ r => r.drop n
theorem RepA.take {K : PySem.W.Frag} {φ : List Addr} {G : Hp} : ∀ {vs ds} (n : Nat), RepA K φ G vs ds → RepA K φ G (vs.take n) (ds.take n)
  | _, _, 0, r => .nil
  | _, _, _ + 1, .nil => .nil
  | _, _, n + 1, .cons a r => .cons a (r.take n)
theorem RepA.cut {K : PySem.W.Frag} {φ : List Addr} {G : Hp} {vs : List V} {ds : List D} (r : RepA K φ G vs ds) (lo hi : Option Int) : RepA K φ G (cutV vs lo hi) (cutL ds lo hi) := by
  unfold cutV cutL
  rw [r.length]
  exact (r.drop _).take _
theorem RepA.ofInts {K : PySem.W.Frag} {φ : List Addr} {G : Hp} : ∀ ns : List Int, RepA K φ G (ns.map V.int) (ns.map D.int)
  | [] => .nil
  | n :: ns => .cons (.int n) (RepA.ofInts ns)
abbrev Sl := D → Option Int → Option Int → Option RV
def dSl : Sl := fun c lo hi => match c with
  | .lst ds => some (.own (.lst (cutL ds lo hi)))
  | .tup ds => some (.fro (.tup (cutL ds lo hi)))
  | .scr ns => some (.own (.lst (cutL (ns.map .int) lo hi)))
  | _ => none
def rVS (K : PySem.W.Frag) (f : Sl) : V → Option Int → Option Int → Hp → VK → Prop := fun x lo hi H Q => ∃ φ G dx r, Same G H ∧ OpRep K φ G H x dx ∧ f dx lo hi = some r ∧ OkRes K φ G H r Q
theorem cut_whole {α : Type} {xs : List α} {lo hi : Option Int} (h : HT.sIx xs.length 0 lo = 0 ∧ HT.sIx xs.length xs.length hi = xs.length) : cutL xs lo hi = xs := by
  unfold cutL
  rw [h.1, h.2]
  simp
theorem dsl : SlR X (rVS X.K dSl) := fun pins s σ H x v vl vu lo hi sl Q I rx hs pl pu ⟨φ, G, dx, r, sub, hx, hf, q⟩ => by
  cases dx with
  | lst ds =>
    cases hf
    obtain ⟨a, vs, rfl, s1, r1⟩ := hx.lst sub
    exact sl_list pins s σ H _ v vl vu lo hi sl Q I rx hs pl pu ⟨a, vs, rfl, SqL.of s1, fun p hp => q G _ _ (Grow.aside sub hp) (.own hp upd_same (sub.free hp) (.lst (r1.cut lo hi)))⟩
  | tup ds =>
    cases hf
    obtain ⟨a, vs, rfl, s1, r1⟩ := hx.tup sub
    refine sl_tupA pins s σ H _ v vl vu lo hi sl Q I rx hs pl pu ⟨a, vs, rfl, SqT.of s1, fun w => ?_, fun _ p hp => ?_⟩
    · rw [r1.length] at w
      rw [cut_whole w] at q
      exact q G H _ (Grow.refl sub) (.fro hx.froT)
    · have gr := Grow.laid sub (o := .tup (cutV vs lo hi)) hp
      exact q _ _ _ gr (.fro (.tup upd_same ((r1.cut lo hi).mono gr.gg (List.prefix_refl _))))
  | scr ns =>
    cases hf
    cases hx with
    | own e o => cases o
    | fro rp =>
      cases rp with
      | scr st =>
        exact sl_list pins s σ H _ v vl vu lo hi sl Q I rx hs pl pu ⟨_, _, rfl, sqL_mono sub st, fun p hp => q G _ _ (Grow.aside sub hp) (.own hp upd_same (sub.free hp) (.lst ((RepA.ofInts ns).cut lo hi)))⟩
  | _ => cases hf
/-- a part of a slice -/
def tPt (K : PySem.W.Frag) (ev : Ev (Option Int)) : TO := fun σ H Q => ∃ g G φ s r s', g.K = K ∧ Rel g G φ s σ H ∧ ev s = some (r, s') ∧
  ∀ G' φ' H', Rel g G' φ' s' σ H' → Same G G' → φ <+: φ' → Q r H'
def SP (X : Cx) (e : Option Expr) (ev : Ev (Option Int)) : Prop := PO X e (tPt X.K ev)
theorem po_imp {X : Cx} {e : Option Expr} {t t' : TO} (h : PO X e t) (f : ∀ σ H Q, t' σ H Q → t σ H Q) : PO X e t' := ⟨fun pins s σ H Q I q => h.run pins s σ H Q I (f _ _ _ q)⟩
def evNo : Ev (Option Int) := fun s => some (none, s)
def evPt (a : Ev Bor) : Ev (Option Int) := fun s => (a s).bind fun p => match fetch p.2 p.1 with
  | some (.int i) => some (some i, p.2)
  | _ => none
theorem sp_none : SP X none evNo := po_imp po_none fun σ H Q ⟨g, G, φ, s, r, s', hK, R, he, q⟩ => by
  cases he
  exact q G φ H R (Same.refl _) (List.prefix_refl _)
theorem sp_some {e : Expr} {a : Ev Bor} (h : SB X e a) : SP X (some e) (evPt a) := po_imp (po_some h) fun σ H Q ⟨g, G, φ, s, r, s', hK, R, he, q⟩ => by
  obtain ⟨⟨b, s1⟩, e1, he⟩ := bind_some_iff he
  cases e2 : fetch s1 b with
  | none => rw [e2] at he; cases he
  | some d =>
    rw [e2] at he
    cases d with
    | int i =>
      cases he
      refine ⟨g, G, φ, s, b, _, hK, R, e1, fun G1 φ1 H1 v R1 h1 h2 x => ⟨i, (R1.fetch x e2).int, q G1 φ1 H1 R1 h1 h2⟩⟩
    | _ => cases he
def evSl (f : Sl) (a : Ev Bor) (l h : Ev (Option Int)) : Ev RV := fun s => (a s).bind fun p => (l p.2).bind fun x => (h x.2).bind fun y => (fetch y.2 p.1).bind fun d => (f d x.1 y.1).map fun r => (r, y.2)
theorem sr_slice {e : Expr} {lo hi : Option Expr} {a : Ev Bor} {l h : Ev (Option Int)} {p2 pos : Pos} (he : SB X e a) (hl : SP X lo l) (hh : SP X hi h) : SR X (.Subscript e (.Slice lo hi none p2) pos) (evSl dSl a l h) :=
  pe_imp (pe_slice dsl he hl hh) fun σ H Q ⟨g, G, φ, s, r, s', hK, R, he, q⟩ => by
    obtain ⟨⟨b, s1⟩, e1, he⟩ := bind_some_iff he
    obtain ⟨⟨x, s2⟩, e2, he⟩ := bind_some_iff he
    obtain ⟨⟨y, s3⟩, e3, he⟩ := bind_some_iff he
    obtain ⟨d, e4, he⟩ := bind_some_iff he
    obtain ⟨r', e5, he⟩ := map_some_iff he
    cases he
    refine ⟨g, G, φ, s, b, s1, hK, R, e1, fun G1 φ1 H1 v R1 h1 h2 z => ?_⟩
    refine ⟨g, G1, φ1, s1, x, s2, hK, R1, e2, fun G2 φ2 H2 R2 h3 h4 => ?_⟩
    refine ⟨g, G2, φ2, s2, y, s3, hK, R2, e3, fun G3 φ3 H3 R3 h5 h6 => ?_⟩
    refine ⟨φ3, G3, d, r, R3.sub, hK ▸ R3.fetch ((z.mono h3 h4).mono h5 h6) e4, e5, fun G4 H4 w gr o => ?_⟩
    exact q G4 φ3 H4 w (R3.grow gr) (((h1.trans h3).trans h5).trans gr.gg) ((h2.trans h4).trans h6) (ORes.res R3 gr (hK ▸ o))
/-- -a -/
def evNeg (a : Ev Bor) : Ev RV := fun s => (a s).bind fun p => match fetch p.2 p.1 with
  | some (.int i) => some (.fro (.int (-i)), p.2)
  | _ => none
theorem sr_neg {e : Expr} {a : Ev Bor} {pos : Pos} (h : SB X e a) : SR X (.UnaryOp .USub e pos) (evNeg a) := pe_imp (pe_un un_neg h) fun σ H Q ⟨g, G, φ, s, r, s', hK, R, he, q⟩ => by
  obtain ⟨⟨b, s1⟩, e1, he⟩ := bind_some_iff he
  cases e2 : fetch s1 b with
  | none => rw [e2] at he; cases he
  | some d =>
    rw [e2] at he
    cases d with
    | int i =>
      cases he
      refine ⟨g, G, φ, s, b, _, hK, R, e1, fun G1 φ1 H1 v R1 h1 h2 x => ⟨i, (R1.fetch x e2).int, q G1 φ1 H1 _ R1 h1 h2 (.fro (.int _))⟩⟩
    | _ => cases he

theorem OpAll.one {K : PySem.W.Frag} {φ : List Addr} {G H : Hp} {vs : List V} {d : D} (h : OpAll K φ G H vs [d]) : ∃ v, vs = [v] ∧ OpRep K φ G H v d := by
  cases h with
  | cons r rs => cases rs; exact ⟨_, rfl, r⟩
theorem OpAll.two {K : PySem.W.Frag} {φ : List Addr} {G H : Hp} {vs : List V} {d e : D} (h : OpAll K φ G H vs [d, e]) : ∃ v w, vs = [v, w] ∧ OpRep K φ G H v d ∧ OpRep K φ G H w e := by
  cases h with
  | cons r rs =>
    obtain ⟨w, rfl, r2⟩ := rs.one
    exact ⟨_, w, rfl, r, r2⟩
def dLen : OpN := fun xs => match xs with
  | [.lst ds] => some (.fro (.int ds.length))
  | [.tup ds] => some (.fro (.int ds.length))
  | [.dct false ds] => some (.fro (.int ds.length))
  | [.scr ns] => some (.fro (.int ns.length))
  | [.str x] => if x.length ≤ 1000000 then some (.fro (.int x.length)) else none
  | _ => none
theorem RepK.length {K : PySem.W.Frag} {φ : List Addr} {G : Hp} : ∀ {vs ds}, RepK K φ G vs ds → vs.length = ds.length
  | _, _, .nil => rfl
  | _, _, .cons _ r => congrArg Nat.succ r.length
theorem dcall_len : DCall X (.builtin "len") dLen := fun pins s σ H xs us Q I rx ⟨φ, G, ds, r, sub, hx, hf, q⟩ => by
  unfold dLen at hf
  split at hf
  · cases hf
    obtain ⟨v, rfl, o⟩ := hx.one
    obtain ⟨a, vs, rfl, s1, r1⟩ := o.lst sub
    exact call_len_seq pins s σ H _ us Q I rx ⟨a, vs, rfl, .inl (SqL.of s1), by rw [r1.length]; exact q G H _ (Grow.refl sub) (.fro (.int _))⟩
  · cases hf
    obtain ⟨v, rfl, o⟩ := hx.one
    obtain ⟨a, vs, rfl, s1, r1⟩ := o.tup sub
    exact call_len_seq pins s σ H _ us Q I rx ⟨a, vs, rfl, .inr (SqT.of s1), by rw [r1.length]; exact q G H _ (Grow.refl sub) (.fro (.int _))⟩
  · cases hf
    obtain ⟨v, rfl, o⟩ := hx.one
    obtain ⟨a, kvs, rfl, s1, r1⟩ := o.dctK sub
    obtain ⟨u, rfl, ru⟩ := rx.one
    cases ru
    exact d_len I s1 fun t s' I' => ⟨.int _, H, I', ⟨t, rfl⟩, by rw [r1.length]; exact q G H _ (Grow.refl sub) (.fro (.int _))⟩
  · cases hf
    obtain ⟨v, rfl, o⟩ := hx.one
    cases o with
    | own e z => cases z
    | fro rp =>
      cases rp with
      | scr st =>
        refine call_len_seq pins s σ H _ us Q I rx ⟨_, _, rfl, .inl (sqL_mono sub st), ?_⟩
        rw [List.length_map]
        exact q G H _ (Grow.refl sub) (.fro (.int _))
  · split at hf
    · rename_i hl
      cases hf
      obtain ⟨v, rfl, o⟩ := hx.one
      cases o.str
      have := million
      exact call_len_str pins s σ H _ us Q I rx ⟨_, rfl, by omega, q G H _ (Grow.refl sub) (.fro (.int _))⟩
    · cases hf
  · cases hf
def dList : OpN := fun xs => match xs with
  | [.lst ds] => some (.own (.lst ds))
  | [.tup ds] => some (.own (.lst ds))
  | _ => none
theorem dcall_list : DCall X (.type "list") dList := fun pins s σ H xs us Q I rx ⟨φ, G, ds, r, sub, hx, hf, q⟩ => by
  unfold dList at hf
  split at hf
  · cases hf
    obtain ⟨v, rfl, o⟩ := hx.one
    obtain ⟨a, vs, rfl, s1, r1⟩ := o.lst sub
    exact call_list_of pins s σ H _ us Q I rx ⟨a, vs, rfl, .inl (SqL.of s1), fun p hp => q G _ _ (Grow.aside sub hp) (.own hp upd_same (sub.free hp) (.lst r1))⟩
  · cases hf
    obtain ⟨v, rfl, o⟩ := hx.one
    obtain ⟨a, vs, rfl, s1, r1⟩ := o.tup sub
    exact call_list_of pins s σ H _ us Q I rx ⟨a, vs, rfl, .inr (SqT.of s1), fun p hp => q G _ _ (Grow.aside sub hp) (.own hp upd_same (sub.free hp) (.lst r1))⟩
  · cases hf
def dTuple : OpN := fun xs => match xs with
  | [.lst ds] => some (.fro (.tup ds))
  | [.tup ds] => some (.fro (.tup ds))
  | _ => none
theorem dcall_tuple : DCall X (.type "tuple") dTuple := fun pins s σ H xs us Q I rx ⟨φ, G, ds, r, sub, hx, hf, q⟩ => by
  unfold dTuple at hf
  split at hf
  · cases hf
    obtain ⟨v, rfl, o⟩ := hx.one
    obtain ⟨a, vs, rfl, s1, r1⟩ := o.lst sub
    refine call_tuple_of pins s σ H _ us Q I rx ⟨a, vs, rfl, .inl ⟨SqL.of s1, fun p hp => ?_⟩⟩
    have gr := Grow.laid sub (o := .tup vs) hp
    exact q _ _ _ gr (.fro (.tup upd_same (r1.mono gr.gg (List.prefix_refl _))))
  · cases hf
    obtain ⟨v, rfl, o⟩ := hx.one
    obtain ⟨a, vs, rfl, s1, r1⟩ := o.tup sub
    exact call_tuple_of pins s σ H _ us Q I rx ⟨a, vs, rfl, .inr ⟨SqT.of s1, q G H _ (Grow.refl sub) (.fro o.froT)⟩⟩
  · cases hf
def dSum : OpN := fun xs => match xs with
  | [.lst ds] => (intsOf ds).map fun ns => .fro (.int ns.sum)
  | _ => none
theorem dcall_sum (hc : X.calm = true) : DCall X (.builtin "sum") dSum := fun pins s σ H xs us Q I rx ⟨φ, G, ds, r, sub, hx, hf, q⟩ => by
  unfold dSum at hf
  split at hf
  · obtain ⟨ns, e, hf⟩ := map_some_iff hf
    subst hf
    obtain ⟨v, rfl, o⟩ := hx.one
    obtain ⟨a, vs, rfl, s1, r1⟩ := o.lst sub
    have := r1.ints e
    subst this
    exact cr_sum hc pins s σ H _ us Q I rx ⟨a, ns, rfl, SqL.of s1, q G H _ (Grow.refl sub) (.fro (.int _))⟩
  · cases hf
def lMax : List Int → Int
  | [] => 0
  | [x] => x
  | x :: xs => max x (lMax xs)
def lMin : List Int → Int
  | [] => 0
  | [x] => x
  | x :: xs => min x (lMin xs)
theorem lMax_is : ∀ {ns : List Int} {m : Int}, m ∈ ns → (∀ y ∈ ns, y ≤ m) → lMax ns = m
  | [x], m, h, _ => by simp at h; subst h; rfl
  | x :: y :: r, m, h, k => by
    show max x (lMax (y :: r)) = m
    by_cases hm : m ∈ y :: r
    · rw [lMax_is hm fun z hz => k z (List.mem_cons_of_mem _ hz)]
      have := k x List.mem_cons_self
      omega
    · have e : m = x := by
        rcases List.mem_cons.mp h with e | e
        · exact e
        · exact absurd e hm
      subst e
      have all : ∀ {zs : List Int}, zs ≠ [] → (∀ z ∈ zs, z ≤ m) → lMax zs ≤ m := by
        intro zs
        induction zs with
        | nil => intro h; exact absurd rfl h
        | cons z zs ih =>
          intro _ hz
          cases zs with
          | nil => exact hz z List.mem_cons_self
          | cons z2 zs =>
            have h1 := hz z List.mem_cons_self
            have h2 := ih (by simp) fun w hw => hz w (List.mem_cons_of_mem _ hw)
            show max z (lMax (z2 :: zs)) ≤ m
            omega
      have := all (zs := y :: r) (by simp) fun z hz => k z (List.mem_cons_of_mem _ hz)
      omega
theorem lMin_is : ∀ {ns : List Int} {m : Int}, m ∈ ns → (∀ y ∈ ns, m ≤ y) → lMin ns = m
  | [x], m, h, _ => by simp at h; subst h; rfl
  | x :: y :: r, m, h, k => by
    show min x (lMin (y :: r)) = m
    by_cases hm : m ∈ y :: r
    · rw [lMin_is hm fun z hz => k z (List.mem_cons_of_mem _ hz)]
      have := k x List.mem_cons_self
      omega
    · have e : m = x := by
        rcases List.mem_cons.mp h with e | e
        · exact e
        · exact absurd e hm
      subst e
      have all : ∀ {zs : List Int}, zs ≠ [] → (∀ z ∈ zs, m ≤ z) → m ≤ lMin zs := by
        intro zs
        induction zs with
        | nil => intro h; exact absurd rfl h
        | cons z zs ih =>
          intro _ hz
          cases zs with
          | nil => exact hz z List.mem_cons_self
          | cons z2 zs =>
            have h1 := hz z List.mem_cons_self
            have h2 := ih (by simp) fun w hw => hz w (List.mem_cons_of_mem _ hw)
            show m ≤ min z (lMin (z2 :: zs))
            omega
      have := all (zs := y :: r) (by simp) fun z hz => k z (List.mem_cons_of_mem _ hz)
      omega
def dMax : OpN := fun xs => match xs with
  | [.lst ds] => (intsOf ds).bind fun ns => if ns.isEmpty then none else some (.fro (.int (lMax ns)))
  | [.int i, .int j] => some (.fro (.int (max i j)))
  | _ => none
def dMin : OpN := fun xs => match xs with
  | [.lst ds] => (intsOf ds).bind fun ns => if ns.isEmpty then none else some (.fro (.int (lMin ns)))
  | [.int i, .int j] => some (.fro (.int (min i j)))
  | _ => none
theorem dcall_max (hc : X.calm = true) : DCall X (.builtin "max") dMax := fun pins s σ H xs us Q I rx ⟨φ, G, ds, r, sub, hx, hf, q⟩ => by
  unfold dMax at hf
  split at hf
  · obtain ⟨ns, e, hf⟩ := bind_some_iff hf
    split at hf
    · cases hf
    · rename_i hne
      cases hf
      obtain ⟨v, rfl, o⟩ := hx.one
      obtain ⟨a, vs, rfl, s1, r1⟩ := o.lst sub
      have := r1.ints e
      subst this
      refine cr_max hc pins s σ H _ us Q I rx ⟨a, ns, rfl, SqL.of s1, ?_, fun m h1 h2 => ?_⟩
      · cases ns with
        | nil => exact absurd rfl hne
        | cons => exact Nat.succ_pos _
      · rw [← lMax_is h1 h2]
        exact q G H _ (Grow.refl sub) (.fro (.int _))
  · rename_i i j
    cases hf
    obtain ⟨v, w, rfl, o1, o2⟩ := hx.two
    cases o1.int
    cases o2.int
    refine call_max2 hc pins s σ H _ us Q I rx ⟨i, j, rfl, ?_⟩
    rw [show (if j > i then j else i) = max i j by split <;> omega]
    exact q G H _ (Grow.refl sub) (.fro (.int _))
  · cases hf
theorem dcall_min (hc : X.calm = true) : DCall X (.builtin "min") dMin := fun pins s σ H xs us Q I rx ⟨φ, G, ds, r, sub, hx, hf, q⟩ => by
  unfold dMin at hf
  split at hf
  · obtain ⟨ns, e, hf⟩ := bind_some_iff hf
    split at hf
    · cases hf
    · rename_i hne
      cases hf
      obtain ⟨v, rfl, o⟩ := hx.one
      obtain ⟨a, vs, rfl, s1, r1⟩ := o.lst sub
      have := r1.ints e
      subst this
      refine cr_min hc pins s σ H _ us Q I rx ⟨a, ns, rfl, SqL.of s1, ?_, fun m h1 h2 => ?_⟩
      · cases ns with
        | nil => exact absurd rfl hne
        | cons => exact Nat.succ_pos _
      · rw [← lMin_is h1 h2]
        exact q G H _ (Grow.refl sub) (.fro (.int _))
  · rename_i i j
    cases hf
    obtain ⟨v, w, rfl, o1, o2⟩ := hx.two
    cases o1.int
    cases o2.int
    refine call_min2 hc pins s σ H _ us Q I rx ⟨i, j, rfl, ?_⟩
    rw [show (if j < i then j else i) = min i j by split <;> omega]
    exact q G H _ (Grow.refl sub) (.fro (.int _))
  · cases hf
def blsOf : List D → Option (List Bool)
  | [] => some []
  | .bl i :: ds => (blsOf ds).map fun r => i :: r
  | _ => none
theorem RepA.bls {K : PySem.W.Frag} {φ : List Addr} {G : Hp} : ∀ {vs : List V} {ds : List D} {ns : List Bool}, RepA K φ G vs ds → blsOf ds = some ns → vs = ns.map V.bl
  | _, _, _, .nil, h => by cases h; rfl
  | _, _, _, .cons (d := d) (ds := ds) r rs, h => by
    cases d with
    | bl i =>
      obtain ⟨m, e, h⟩ := map_some_iff (show (blsOf ds).map (fun r => i :: r) = some _ from h)
      subst h
      cases r
      rw [RepA.bls rs e]
      rfl
    | _ => cases h
def dAll : OpN := fun xs => match xs with
  | [.lst ds] => (blsOf ds).map fun ns => .fro (.bl (ns.all id))
  | _ => none
def dAny : OpN := fun xs => match xs with
  | [.lst ds] => (blsOf ds).map fun ns => .fro (.bl (ns.any id))
  | _ => none
theorem dcall_all (hc : X.calm = true) : DCall X (.builtin "all") dAll := fun pins s σ H xs us Q I rx ⟨φ, G, ds, r, sub, hx, hf, q⟩ => by
  unfold dAll at hf
  split at hf
  · obtain ⟨ns, e, hf⟩ := map_some_iff hf
    subst hf
    obtain ⟨v, rfl, o⟩ := hx.one
    obtain ⟨a, vs, rfl, s1, r1⟩ := o.lst sub
    have := r1.bls e
    subst this
    exact cr_all hc pins s σ H _ us Q I rx ⟨a, ns, rfl, SqL.of s1, q G H _ (Grow.refl sub) (.fro (.bl _))⟩
  · cases hf
theorem dcall_any (hc : X.calm = true) : DCall X (.builtin "any") dAny := fun pins s σ H xs us Q I rx ⟨φ, G, ds, r, sub, hx, hf, q⟩ => by
  unfold dAny at hf
  split at hf
  · obtain ⟨ns, e, hf⟩ := map_some_iff hf
    subst hf
    obtain ⟨v, rfl, o⟩ := hx.one
    obtain ⟨a, vs, rfl, s1, r1⟩ := o.lst sub
    have := r1.bls e
    subst this
    exact cr_any hc pins s σ H _ us Q I rx ⟨a, ns, rfl, SqL.of s1, q G H _ (Grow.refl sub) (.fro (.bl _))⟩
  · cases hf
def dInt : OpN := fun xs => match xs with
  | [.int i] => some (.fro (.int i))
  | [.bl b] => some (.fro (.int (if b then 1 else 0)))
  | _ => none
theorem dcall_int : DCall X (.type "int") dInt := fun pins s σ H xs us Q I rx ⟨φ, G, ds, r, sub, hx, hf, q⟩ => by
  unfold dInt at hf
  split at hf
  · cases hf
    obtain ⟨v, rfl, o⟩ := hx.one
    cases o.int
    exact call_int1 pins s σ H _ us Q I rx (.inl ⟨_, rfl, q G H _ (Grow.refl sub) (.fro (.int _))⟩)
  · cases hf
    obtain ⟨v, rfl, o⟩ := hx.one
    cases o.bl
    exact call_int1 pins s σ H _ us Q I rx (.inr ⟨_, rfl, q G H _ (Grow.refl sub) (.fro (.int _))⟩)
  · cases hf
def tyOf : D → Option String
  | .non => some "NoneType"
  | .bl _ => some "bool"
  | .int _ => some "int"
  | .str _ => some "str"
  | .tup _ => some "tuple"
  | .lst _ => some "list"
  | .dct false _ => some "dict"
  | .dct true _ => some "dict"
  | _ => none
/-- what isinstance asks of a value -/
theorem kit_D {φ : List Addr} {G H : Hp} {pins : List (Addr × Obj)} {σ : L2.St} {s : Shared} {v : V} {u : Value} {d : D} {t : String} (I : Inv X pins σ H s) (rv : RelV v u) (sub : Same G H) (r : OpRep X.K φ G H v d) (e : tyOf d = some t) :
    ∃ P : Heap → Prop, PySem.W.KitX X.K u (.type t) P ∧ P s.heap ∧ u ≠ .builtin "__main__.__loader__#opaque" := by
  cases d with
  | non => cases r.non; cases e; exact kit_of I rv (.base .non)
  | bl b => cases r.bl; cases e; exact kit_of I rv (.base (.bl b))
  | int b => cases r.int; cases e; exact kit_of I rv (.base (.int b))
  | str b => cases r.str; cases e; exact kit_of I rv (.base (.str b))
  | tup ds => cases e; obtain ⟨a, vs, rfl, s1, _⟩ := r.tup sub; exact kit_of I rv (.base (.tup s1))
  | lst ds => cases e; obtain ⟨a, vs, rfl, s1, _⟩ := r.lst sub; exact kit_of I rv (.base (.lst s1))
  | dct b ds =>
    cases b with
    | false =>
      cases e
      obtain ⟨a, kvs, rfl, s1, _⟩ := r.dctK sub
      rcases s1 with s1 | ⟨o, s1⟩
      · exact kit_of I rv (.base (.dK s1))
      · exact kit_of I rv (.fDict s1)
    | true =>
      cases e
      obtain ⟨a, kvs, rfl, s1, _⟩ := r.dctT sub
      cases rv
      obtain ⟨_, _, _, _, o, es, ep, h1, h2, _⟩ := (show ObjOk X.prog X.w H s.heap a (.dT kvs) from s1.ok I.hok)
      exact ⟨_, PySem.W.kitx_dict, ⟨o, h1, h2.1⟩, fun z => nomatch z⟩
  | hd n => cases e
  | scr n => cases e
def isiB (T : String) : D → Option RV := fun d => (tyOf d).bind fun t => (kitB t T).map fun b => .fro (.bl b)
def evIsi (T : String) (a : Ev Bor) : Ev RV := fun s => (a s).bind fun p => (fetch p.2 p.1).bind fun d => (isiB T d).map fun r => (r, p.2)
/-- isinstance(e, T) -/
theorem sr_isi {T : Str} {Tn : String} {e : Expr} {a : Ev Bor} {p p2 pos : Pos} (hg : Gl X "isinstance") (hm : X.mg "isinstance" = none) (hgT : Gl X T) (hmT : X.mg T = none) (hvT : bootBuiltins T = some (.type Tn)) (ha : SB X e a)
    (hnT : T ≠ "__name__" := by decide) (hdT : (T == ("__debug__" : Str)) = false := by decide) (h1 : starEach [e, .Name T p2] X.env = (false, eval e X.env) :: starEach [.Name T p2] X.env := by rfl) (h2 : starEach [.Name T p2] X.env = (false, eval (.Name T p2) X.env) :: starEach [] X.env := by rfl) (hpl : (backTo pos (starEach [.Name T p2] X.env)).any (·.1) = false := by rfl) :
    SR X (.Call (.Name "isinstance" p) [e, .Name T p2] [] pos) (evIsi Tn a) := by
  have hc : CallR X (.builtin "isinstance") (fun xs H Q => ∃ φ G v d r, xs = [v, .ty Tn] ∧ Same G H ∧ OpRep X.K φ G H v d ∧ isiB Tn d = some r ∧ OkRes X.K φ G H r Q) := fun pins s σ H xs us Q I rx ⟨φ, G, v, d, r, ex, sub, o, hr, q⟩ => by
    subst ex
    obtain ⟨u1, u2, rfl, r1, r2⟩ := rx.two
    cases (show u2 = Value.type Tn from r2)
    obtain ⟨t, e1, hr⟩ := bind_some_iff hr
    obtain ⟨b, e2, hr⟩ := map_some_iff hr
    subst hr
    obtain ⟨P, Z, pz, hx⟩ := kit_D I r1 sub o e1
    exact PySem.W.kia_one Z I.kIn pz (kit_ty e2) hx fun tk => ⟨.bl b, H, I.tok tk, rfl, q G H _ (Grow.refl sub) (.fro (.bl b))⟩
  refine pe_imp (pe_callB hc hg hm (by decide +kernel) (pa_cons ha (pa_cons (pe_bltn (v := .ty Tn) hgT hmT hvT rfl hnT hdT) pa_nil h2) h1) (by decide) (by decide) h1 hpl) fun σ H Q ⟨g, G, φ, s, r, s', hK, R, he, q⟩ => ?_
  obtain ⟨⟨b, s1⟩, e1, he⟩ := bind_some_iff he
  obtain ⟨d, e2, he⟩ := bind_some_iff he
  obtain ⟨r', e3, he⟩ := map_some_iff he
  cases he
  refine ⟨g, G, φ, s, b, s1, hK, R, e1, fun G1 φ1 H1 v R1 h1 h2 x => ?_⟩
  exact ⟨φ1, G1, v, d, r, rfl, R1.sub, hK ▸ R1.fetch x e2, e3, fun G3 H3 w gr o => q G3 φ1 H3 w (R1.grow gr) (h1.trans gr.gg) h2 (ORes.res R1 gr (hK ▸ o))⟩

def mAppend : Mut1 := fun d xs => match d, xs with
  | .lst ds, [x] => if ds.length < 1000000 then some (.lst (ds ++ [x]), .non) else none
  | _, _ => none
theorem RepA.one {K : PySem.W.Frag} {φ : List Addr} {G : Hp} {vs : List V} {d : D} (h : RepA K φ G vs [d]) : ∃ v, vs = [v] ∧ Rep K φ G v d := by
  cases h with
  | cons r rs => cases rs; exact ⟨_, rfl, r⟩
theorem RepA.two {K : PySem.W.Frag} {φ : List Addr} {G : Hp} {vs : List V} {d e : D} (h : RepA K φ G vs [d, e]) : ∃ v w, vs = [v, w] ∧ Rep K φ G v d ∧ Rep K φ G w e := by
  cases h with
  | cons r rs =>
    obtain ⟨w, rfl, r2⟩ := rs.one
    exact ⟨_, w, rfl, r, r2⟩
theorem dm_append : DMut X "list.append" mAppend := fun pins s σ H x xs v us Q I rx rxs ⟨φ, G, p, o, d, ds, d', r, ex, hp, ow, gp, sub, ra, hf, q⟩ => by
  unfold mAppend at hf
  split at hf
  · split at hf
    · rename_i hl
      cases hf
      obtain ⟨y, rfl, ry⟩ := ra.one
      cases ow with
      | lst r1 =>
        have := million
        exact mt_append pins s σ H x _ v us Q I rx rxs ⟨p, _, y, ex, rfl, hp, by rw [r1.length]; omega, q _ _ (.lst (r1.append (.cons ry .nil))) .non⟩
    · cases hf
  · cases hf
def mExtend : Mut1 := fun d xs => match d, xs with
  | .lst ds, [.lst es] => if ds.length + es.length ≤ 1000000 then some (.lst (ds ++ es), .non) else none
  | _, _ => none
theorem dm_extend : DMut X "list.extend" mExtend := fun pins s σ H x xs v us Q I rx rxs ⟨φ, G, p, o, d, ds, d', r, ex, hp, ow, gp, sub, ra, hf, q⟩ => by
  unfold mExtend at hf
  split at hf
  · split at hf
    · rename_i hl
      cases hf
      obtain ⟨y, rfl, ry⟩ := ra.one
      cases ry with
      | lst s2 r2 =>
        cases ow with
        | lst r1 =>
          have := million
          exact mt_extend pins s σ H x _ v us Q I rx rxs ⟨p, _, _, _, ex, rfl, hp, sub _ _ s2, by rw [r1.length, r2.length]; omega, q _ _ (.lst (r1.append r2)) .non⟩
    · cases hf
  · cases hf
def mInsert : Mut1 := fun d xs => match d, xs with
  | .lst ds, [.int i, x] => if ds.length < 1000000 ∧ 0 ≤ i ∧ i < 1000000 then some (.lst (ds.take i.toNat ++ [x] ++ ds.drop i.toNat), .non) else none
  | _, _ => none
theorem dm_insert : DMut X "list.insert" mInsert := fun pins s σ H x xs v us Q I rx rxs ⟨φ, G, p, o, d, ds, d', r, ex, hp, ow, gp, sub, ra, hf, q⟩ => by
  unfold mInsert at hf
  split at hf
  · split at hf
    · rename_i hl
      cases hf
      obtain ⟨y, z, rfl, ry, rz⟩ := ra.two
      cases ry
      cases ow with
      | lst r1 =>
        have := million
        exact mt_insert pins s σ H x _ v us Q I rx rxs ⟨p, _, _, z, ex, rfl, hp, by rw [r1.length]; omega, hl.2.1, by omega, q _ _ (.lst (((r1.take _).append (.cons rz .nil)).append (r1.drop _))) .non⟩
    · cases hf
  · cases hf
def mPop : Mut1 := fun d xs => match d, xs with
  | .lst ds, [] => (ds[ds.length - 1]?).map fun y => (.lst ds.dropLast, y)
  | .lst ds, [.int i] => if -1000000 ≤ i ∧ i < 1000000 then (seqIndex? i ds.length).bind fun k => (ds[k]?).map fun y => (.lst (ds.eraseIdx k), y) else none
  | _, _ => none
theorem RepA.dropLast {K : PySem.W.Frag} {φ : List Addr} {G : Hp} {vs : List V} {ds : List D} (r : RepA K φ G vs ds) : RepA K φ G vs.dropLast ds.dropLast := by
  rw [List.dropLast_eq_take, List.dropLast_eq_take, r.length]
  exact r.take _
theorem RepA.eraseIdx {K : PySem.W.Frag} {φ : List Addr} {G : Hp} : ∀ {vs ds} (n : Nat), RepA K φ G vs ds → RepA K φ G (vs.eraseIdx n) (ds.eraseIdx n)
  | _, _, n, .nil => by simp; exact .nil
  | _, _, 0, .cons _ r => r
  | _, _, n + 1, .cons a r => .cons a (r.eraseIdx n)
theorem dm_pop : DMut X "list.pop" mPop := fun pins s σ H x xs v us Q I rx rxs ⟨φ, G, p, o, d, ds, d', r, ex, hp, ow, gp, sub, ra, hf, q⟩ => by
  unfold mPop at hf
  split at hf
  · obtain ⟨y, e, hf⟩ := map_some_iff hf
    cases hf
    cases ra
    cases ow with
    | lst r1 =>
      obtain ⟨w, e1, rw'⟩ := r1.get e
      rw [← r1.length] at e1
      exact mt_pop pins s σ H x _ v us Q I rx rxs ⟨p, _, w, ex, rfl, hp, e1, q _ _ (.lst r1.dropLast) rw'⟩
  · split at hf
    · rename_i hl
      obtain ⟨k, e1, hf⟩ := bind_some_iff hf
      obtain ⟨y, e, hf⟩ := map_some_iff hf
      cases hf
      obtain ⟨z, rfl, rz⟩ := ra.one
      cases rz
      cases ow with
      | lst r1 =>
        obtain ⟨w, e2, rw'⟩ := r1.get e
        rw [← r1.length] at e1
        exact mt_popAt pins s σ H x _ v us Q I rx rxs ⟨p, _, _, k, w, ex, rfl, hp, by omega, by omega, e1, e2, q _ _ (.lst (r1.eraseIdx k)) rw'⟩
    · cases hf
  · cases hf
def mClear : Mut1 := fun d xs => match d, xs with
  | .lst _, [] => some (.lst [], .non)
  | _, _ => none
theorem dm_clear : DMut X "list.clear" mClear := fun pins s σ H x xs v us Q I rx rxs ⟨φ, G, p, o, d, ds, d', r, ex, hp, ow, gp, sub, ra, hf, q⟩ => by
  unfold mClear at hf
  split at hf
  · cases hf
    cases ra
    cases ow with
    | lst r1 => exact mt_clear pins s σ H x _ v us Q I rx rxs ⟨p, _, ex, rfl, hp, q _ _ (.lst .nil) .non⟩
  · cases hf
def putD (kvs : List (D × D)) (k : Key) (v : D) : List (D × D) := if (lookK kvs k).isSome then kvs.map (fun p => if toKey p.1 = some k then (p.1, v) else p) else kvs ++ [(kD k, v)]
def putT (kvs : List (D × D)) (k : List Key) (v : D) : List (D × D) := if (lookT kvs k).isSome then kvs.map (fun p => if tupKeys p.1 = some k then (p.1, v) else p) else kvs ++ [(.tup (k.map kD), v)]
theorem OptRep.isSome {K : PySem.W.Frag} {φ : List Addr} {G : Hp} {a : Option V} {b : Option D} (h : OptRep K φ G a b) : a.isSome = b.isSome := by cases h <;> rfl
theorem RepK.append {K : PySem.W.Frag} {φ : List Addr} {G : Hp} : ∀ {vs ds ws es}, RepK K φ G vs ds → RepK K φ G ws es → RepK K φ G (vs ++ ws) (ds ++ es)
  | _, _, _, _, .nil, r => r
  | _, _, _, _, .cons a b, r => .cons a (b.append r)
theorem RepT.append {K : PySem.W.Frag} {φ : List Addr} {G : Hp} : ∀ {vs ds ws es}, RepT K φ G vs ds → RepT K φ G ws es → RepT K φ G (vs ++ ws) (ds ++ es)
  | _, _, _, _, .nil, r => r
  | _, _, _, _, .cons a b, r => .cons a (b.append r)
theorem RepK.put {K : PySem.W.Frag} {φ : List Addr} {G : Hp} {kvs : List (Key × V)} {ds : List (D × D)} {k : Key} {v : V} {d : D} (r : RepK K φ G kvs ds) (rv : Rep K φ G v d) : RepK K φ G (putK kvs k v) (putD ds k d) := by
  unfold putK putD
  rw [valV_any, (lookK_V r).isSome]
  cases (lookK ds k).isSome with
  | false => rw [if_neg Bool.false_ne_true, if_neg Bool.false_ne_true]; exact r.append (.cons rv .nil)
  | true =>
    rw [if_pos rfl, if_pos rfl]
    have all : ∀ {kvs : List (Key × V)} {ds : List (D × D)}, RepK K φ G kvs ds → RepK K φ G (kvs.map fun kv => if kv.1 = k then (kv.1, v) else kv) (ds.map fun p => if toKey p.1 = some k then (p.1, d) else p) := by
      intro kvs ds r
      induction kvs generalizing ds with
      | nil => cases r; exact .nil
      | cons p kvs ih =>
        cases r with
        | cons ra rs =>
          rename_i j w d0 ds0
          simp only [List.map_cons, toKey_kD]
          by_cases e : j = k
          · subst e
            rw [if_pos rfl, if_pos rfl]
            exact .cons rv (ih rs)
          · rw [if_neg e, if_neg (fun z => e (Option.some.inj z))]
            exact .cons ra (ih rs)
    exact all r
theorem RepT.put {K : PySem.W.Frag} {φ : List Addr} {G : Hp} {kvs : List (List Key × V)} {ds : List (D × D)} {k : List Key} {v : V} {d : D} (r : RepT K φ G kvs ds) (rv : Rep K φ G v d) : RepT K φ G (putK kvs k v) (putT ds k d) := by
  unfold putK putT
  rw [valV_any, (lookT_V r).isSome]
  cases (lookT ds k).isSome with
  | false => rw [if_neg Bool.false_ne_true, if_neg Bool.false_ne_true]; exact r.append (.cons rv .nil)
  | true =>
    rw [if_pos rfl, if_pos rfl]
    have all : ∀ {kvs : List (List Key × V)} {ds : List (D × D)}, RepT K φ G kvs ds → RepT K φ G (kvs.map fun kv => if kv.1 = k then (kv.1, v) else kv) (ds.map fun p => if tupKeys p.1 = some k then (p.1, d) else p) := by
      intro kvs ds r
      induction kvs generalizing ds with
      | nil => cases r; exact .nil
      | cons p kvs ih =>
        cases r with
        | cons ra rs =>
          rename_i j w d0 ds0
          simp only [List.map_cons, tupKeys, toKeys_kD]
          by_cases e : j = k
          · subst e
            rw [if_pos rfl, if_pos rfl]
            exact .cons rv (ih rs)
          · rw [if_neg e, if_neg (fun z => e (Option.some.inj z))]
            exact .cons ra (ih rs)
    exact all r
theorem RepT.length {K : PySem.W.Frag} {φ : List Addr} {G : Hp} : ∀ {vs ds}, RepT K φ G vs ds → vs.length = ds.length
  | _, _, .nil => rfl
  | _, _, .cons _ r => congrArg Nat.succ r.length
theorem RepA.set {K : PySem.W.Frag} {φ : List Addr} {G : Hp} {v : V} {d : D} (rv : Rep K φ G v d) : ∀ {vs ds} (n : Nat), RepA K φ G vs ds → RepA K φ G (vs.set n v) (ds.set n d)
  | _, _, _, .nil => .nil
  | _, _, 0, .cons _ r => .cons rv r
  | _, _, n + 1, .cons a r => .cons a (RepA.set rv n r)
def dSet : D → D → D → Option D := fun c k v => match c with
  | .lst ds => match k with
    | .int i => (ixN ds.length i).map fun j => .lst (ds.set j v)
    | _ => none
  | .dct false kvs => if kvs.length < 1000000 then (toKey k).map fun k => .dct false (putD kvs k v) else none
  | .dct true kvs => if kvs.length < 1000000 then (tupKeys k).map fun k => .dct true (putT kvs k v) else none
  | _ => none
theorem dset (hu : X.A.units + 100 < cLine) : DSet X dSet := fun pins s σ H o i v ov iv u Q I ro ri rv ⟨φ, G, p, ho, d, di, dv, d', ex, hp, ow, gp, sub, oi, rp, hf, q⟩ => by
  have mil := million
  subst ex
  cases ow with
  | lst r1 =>
    cases di with
    | int k =>
      obtain ⟨j, e, hf⟩ := map_some_iff (show (ixN _ k).map _ = some d' from hf)
      subst hf
      cases oi.int
      rw [← r1.length] at e
      exact set_list pins s σ H _ _ v ov iv u Q I ro ri rv ⟨p, _, k, j, rfl, rfl, hp, e, q _ (.lst (RepA.set rp j r1))⟩
    | _ => cases hf
  | dK r1 =>
    have hf : (if _ then _ else _) = some d' := hf
    split at hf
    · rename_i hl
      obtain ⟨k, e, hf⟩ := map_some_iff hf
      subst hf
      have hi : i = kV k := by
        cases oi with
        | fro r => exact toKey_V r e
        | own _ z => cases z <;> cases e
      exact set_dict (by omega) pins s σ H _ _ v ov iv u Q I ro ri rv ⟨p, _, rfl, .inl ⟨_, k, hp, hi, by rw [r1.length]; omega, rfl⟩, q _ (.dK (r1.put rp))⟩
    · cases hf
  | dT r1 =>
    have hf : (if _ then _ else _) = some d' := hf
    split at hf
    · rename_i hl
      obtain ⟨k, e, hf⟩ := map_some_iff hf
      subst hf
      cases di with
      | tup ks =>
        have rt := oi.froT
        cases rt with
        | tup st ra =>
          have := toKeys_V ra e
          subst this
          exact set_dict (by omega) pins s σ H _ _ v ov iv u Q I ro ri rv ⟨p, _, rfl, .inr ⟨_, k, _, hp, rfl, sub _ _ st, by rw [r1.length]; omega, rfl⟩, q _ (.dT (r1.put rp))⟩
      | _ => cases e
    · cases hf
/-- {} -/
def evDNew (t : Bool) : Ev RV := fun s => some (.own (.dct t []), s)
theorem sr_dnewK {pos : Pos} : SR X (.Dict [] [] pos) (evDNew false) := pe_imp pe_dnewK fun σ H Q ⟨g, G, φ, s, r, s', hK, R, he, q⟩ => by
  cases he
  intro p hp
  have gr := Grow.aside R.sub (o := .dK []) hp
  exact q G φ _ _ (R.grow gr) (Same.refl _) (List.prefix_refl _) (.own (Fresh.of_new R gr hp upd_same (R.sub.free hp) (.dK .nil)))
theorem sr_dnewT {pos : Pos} : SR X (.Dict [] [] pos) (evDNew true) := pe_imp pe_dnewT fun σ H Q ⟨g, G, φ, s, r, s', hK, R, he, q⟩ => by
  cases he
  intro p hp
  have gr := Grow.aside R.sub (o := .dT []) hp
  exact q G φ _ _ (R.grow gr) (Same.refl _) (List.prefix_refl _) (.own (Fresh.of_new R gr hp upd_same (R.sub.free hp) (.dT .nil)))
end
end Pv

namespace Pv
open PySem PySem.Spec L2
variable [TabL]
section
variable {X : Cx}
def dle (a b : D) : Bool := PySem.W.dataLe false py a b
def isNeTup : D → Bool
  | .tup (_ :: _) => true
  | _ => false
def noTup : D → Bool
  | .tup _ => false
  | .non => false
  | .dct _ _ => false
  | .hd _ => false
  | .scr _ => false
  | _ => true
def sortOk (ds : List D) : Bool := decide (ds.length ≤ 1000000) && ds.all (eqOk 40) && ds.all (fun a => ds.all fun b => PySem.W.alike (py a) (py b)) && (ds.all isNeTup || ds.all noTup)
def dSorted : OpN := fun xs => match xs with
  | [.lst ds] => if sortOk ds then some (.own (.lst (ds.mergeSort dle))) else none
  | [.tup ds] => if sortOk ds then some (.own (.lst (ds.mergeSort dle))) else none
  | _ => none
theorem each_zip : ∀ {vs : List V} {its : List Value} {ds : List D}, Vals vs its → vs.length = ds.length → PySem.W.EachIs (fun (u : Value) (b : V × D) => RelV b.1 u) its (vs.zip ds)
  | _, _, [], .nil, _ => .nil
  | _, _, _ :: _, .nil, h => by cases h
  | _, _, [], .cons _ _, h => by cases h
  | _, _, _ :: _, .cons r rs, h => .cons r (each_zip rs (Nat.succ.inj h))
theorem each_reads {K : PySem.W.Frag} {φ : List Addr} {G H : Hp} {pins : List (Addr × Obj)} {σ : L2.St} {s : Shared} (I : Inv X pins σ H s) : ∀ {vs : List V} {its : List Value} {ds : List D}, Vals vs its → RepA X.K φ H vs ds → ds.all (eqOk 40) = true →
    PySem.W.EachIs (fun (u : Value) (b : V × D) => ∃ as, Reads s.heap u (py b.2) as) its (vs.zip ds)
  | _, _, _, .nil, .nil, _ => .nil
  | _, _, _, .cons r rs, .cons p ps, h => by
    rw [List.all_cons, Bool.and_eq_true] at h
    exact .cons (Dp.reads I _ _ _ (rep_dp 40 h.1 p) r) (each_reads (K := K) (G := G) I rs ps h.2)
theorem each_vals : ∀ {out : List Value} {bs : List (V × D)}, PySem.W.EachIs (fun (u : Value) (b : V × D) => RelV b.1 u) out bs → Vals (bs.map (·.1)) out
  | _, _, .nil => .nil
  | _, _, .cons r rs => .cons r (each_vals rs)
theorem repA_pairs {K : PySem.W.Frag} {φ : List Addr} {G : Hp} : ∀ {bs : List (V × D)}, (∀ b ∈ bs, Rep K φ G b.1 b.2) → RepA K φ G (bs.map (·.1)) (bs.map (·.2))
  | [], _ => .nil
  | b :: bs, h => .cons (h b List.mem_cons_self) (repA_pairs fun c hc => h c (List.mem_cons_of_mem _ hc))
theorem RepA.zip {K : PySem.W.Frag} {φ : List Addr} {G : Hp} : ∀ {vs : List V} {ds : List D}, RepA K φ G vs ds → ∀ b ∈ vs.zip ds, Rep K φ G b.1 b.2
  | _, _, .nil, _, h => by simp at h
  | _, _, .cons r rs, b, h => by
    rw [List.zip_cons_cons] at h
    rcases List.mem_cons.mp h with e | e
    · subst e; exact r
    · exact rs.zip b e
theorem py_tup_cons {d : D} (h : isNeTup d = true) : ∃ x r, py d = .tuple (x :: r) := by
  cases d with
  | tup xs =>
    cases xs with
    | nil => cases h
    | cons x r => exact ⟨py x, pyAll r, by rw [py, pyAll]⟩
  | _ => cases h
theorem py_noTup {d : D} (h : noTup d = true) : py d ≠ .none ∧ ∀ xs, py d ≠ .tuple xs := by
  cases d with
  | bl b => rw [py]; exact ⟨by simp, by simp⟩
  | int b => rw [py]; exact ⟨by simp, by simp⟩
  | str b => rw [py]; exact ⟨by simp, by simp⟩
  | lst b => rw [py]; exact ⟨by simp, by simp⟩
  | _ => cases h
section
open PyProof.Rows PySem.Calls PySem.W
variable {pr : Program} {wd : World} {B : Around} {Er : Value → Shared → Prop} {t : Shared}
/-- the items of a tuple, laid into a list -/
theorem collect_tup {c : Addr} {us : List Value} {R : List Value → Shared → Prop} (hc : IsTup t.heap c us.toArray) (hz : us.length ≤ sizeLine)
    (k : R us { t with heap := (t.heap.push (seqObj "list" #[] 0)).update t.heap.objs.size (Obj.mapSeq (· ++ us.toArray)) }) : wpAny (model pr wd) B (collect (.ref c)) R Er t := by
  obtain ⟨ob, h1, h2, n, h3⟩ := id hc
  have fresh0 := Heap.get?_push_size t.heap (o := seqObj "list" #[] 0) rfl
  have old0 : (t.heap.push (seqObj "list" #[] 0)).get? c = some ob := Heap.get?_push_of_some _ h1
  have e0 : ((#[] : Array Value) ++ us.toArray).toList = us := by simp
  unfold collect
  refine wpAny_bind (wpAny_runValue (codeAny_builtin entry_proto_collect' (show wpAny _ _ (newList [] >>= fun z => again (.builtin "list.__iadd__" ⟨[z, .ref c], []⟩)) _ _ t from ?_)))
  refine wpAny_bind (wpAny_newList (wpAny_pure ⟨Code.quiet_builtin _ (by decide +kernel), codeAny_builtin entry_list_iadd' ?_⟩))
  show wpAny _ _ (Builtin.List.listExtendWith _ (.ref c) _) _ _ { t with heap := t.heap.push (seqObj "list" #[] 0) }
  unfold Builtin.List.listExtendWith
  refine wpAny_bind (wpAny_typeOf (T := "tuple") ⟨ob, old0, h2⟩ ?_)
  rw [if_pos (by simp)]
  refine wpAny_bind (listItems_at old0 h3 (wpAny_bind (listItems_at (xs := #[]) (n := 0) fresh0 rfl ?_)))
  rw [if_neg (by simp)]
  have z2 : ((#[] : Array Value) ++ us.toArray).size ≤ sizeLine + 1 := by rw [Array.size_append, List.size_toArray]; simp; omega
  refine wpAny_bind (listUpdate_at (xs := #[]) (n := 0) fresh0 rfl (wpAny_pure ?_) (Nat.zero_le _) z2)
  show wpAny (model pr wd) B (load t.heap.objs.size >>= fun ob => match ob.data with
      | .seq ys _ => pure ys.toList
      | _ => unsupported "internal:collect") R Er _
  refine wpAny_bind (wpAny_load (get?_update_seq fresh0 _) ?_)
  show wpAny _ _ (pure ((#[] : Array Value) ++ us.toArray).toList) R Er _
  rw [e0]
  exact wpAny_pure k
theorem sorted_tupD {c : Addr} {β : Type} {us : List Value} {bs : List β} {enc : β → PyData} {R : Value → β → Prop} {Q : Value → Shared → Prop} (hc : IsTup t.heap c us.toArray) (e : PySem.W.EachIs R us bs) (er : PySem.W.EachIs (fun u b => ∃ as, Reads t.heap u (enc b) as) us bs)
    (hal : PySem.W.AllAlike (bs.map enc)) (hk : PySem.W.Sortable (bs.map enc)) (hL : bs.length ≤ sizeLine) (hu : ∀ b ∈ bs, B.units + 2 + (enc b).depth < cLine)
    (k : ∀ out : List Value, out.length = bs.length → PySem.W.EachIs R out (bs.mergeSort (PySem.W.dataLe false enc)) → Q (.ref (t.heap.objs.size + 1)) { t with heap := sortedAll t.heap us out.toArray }) :
    wpAny (model pr wd) B (PySem.call (.builtin "sorted") [.ref c]) Q Er t := by
  have hl : us.length ≤ sizeLine := by rw [e.length]; exact hL
  have er' : PySem.W.EachIs (fun u b => ∃ as, Reads (sortingHeap (copyHeap t.heap us) (t.heap.objs.size + 1) us) u (enc b) as) us bs := er.mono fun _ _ ⟨as, r⟩ => ⟨as, PyProof.Rows.Reads.keeps (fun _ _ => sorting_copy_old) r⟩
  have S := PySem.W.SortsAt.data (prog := pr) (w := wd) (A := B.in1.in1) (s := { t with heap := sortingHeap (copyHeap t.heap us) (t.heap.objs.size + 1) us }) (PySem.W.each_map (R := fun u d => ∃ as, Reads (sortingHeap (copyHeap t.heap us) (t.heap.objs.size + 1) us) u d as) enc er') hal hk (PySem.W.bound_map (A := B.in1.in1) hu)
  have fin := k _ (by rw [PySem.W.sortVals_length false rfl]; exact e.length) (PySem.W.sortVals_data false e er' hal)
  refine call_function_entry_kw kind_sorted plain_sorted entry_sorted (args_sorted1 _) ?_
  unfold Builtin.«sorted»
  refine wpAny_bind (m := checkCount "sorted" 1 1 _) (wpAny_pure (wpAny_bind (collect_tup hc hl (wpAny_bind (wpAny_newList ?_ hl)))))
  have sz : ((t.heap.push (seqObj "list" #[] 0)).update t.heap.objs.size (Obj.mapSeq (· ++ us.toArray))).objs.size = t.heap.objs.size + 1 := by rw [Heap.size_update, size_push']
  show wpAny _ B.in1 _ _ _ { t with heap := copyHeap t.heap us }
  rw [sz]
  refine wpAny_bind (wpAny_holding (wpAny_call_entry_kw slot_list_sort ⟨_, copyHeap_at t.heap us, rfl⟩ entry_list_sort ?go (args_list_sort _)))
  case go =>
    refine wpAny_mono (PySem.W.list_sort_vals (s := { t with heap := copyHeap t.heap us }) (P := fun f s' => f = .done (.ret .none) ∧ Q (.ref (t.heap.objs.size + 1)) s') (copyHeap_at t.heap us) S hl ⟨rfl, fin⟩) (fun f s' hf => ?_) fun _ _ z => z
    obtain ⟨rfl, hq⟩ := hf
    exact ⟨_, rfl, wpAny_pure ⟨_, rfl, hq⟩⟩
end
theorem sorted_core (hu : X.A.units + 100 < cLine) {φ : List Addr} {G H : Hp} {pins : List (Addr × Obj)} {σ : L2.St} {s : Shared} {Q : VK} {a : Addr} {vs : List V} {ds : List D} (I : Inv X pins σ H s) (sub : Same G H) (s1 : H a = some (.lst vs) ∨ H a = some (.tup vs)) (r1 : RepA X.K φ G vs ds) (hk : sortOk ds = true)
    (q : OkRes X.K φ G H (.own (.lst (ds.mergeSort dle))) Q) : wpAny (model X.prog X.w) X.A (PySem.call (.builtin "sorted") [.ref a]) (EP X pins σ Q) X.xe s := by
  have mil := million
  unfold sortOk at hk
  simp only [Bool.and_eq_true, decide_eq_true_eq] at hk
  obtain ⟨⟨⟨h1, h2⟩, h3⟩, h4⟩ := hk
  obtain ⟨its, rv, pl⟩ : ∃ its : List Value, Vals vs its ∧ (s.heap.IsList a its.toArray ∨ PyProof.Rows.IsTup s.heap a its.toArray) := by
    rcases s1 with s1 | s1
    · obtain ⟨its, rv, pl, hz⟩ := I.list (SqL.of s1)
      exact ⟨its, rv, .inl pl.isList⟩
    · obtain ⟨its, rv, pl, hz⟩ := I.tuple (SqT.of s1)
      exact ⟨its, rv, .inr pl⟩
  have hlen := r1.length
  have hsnd : (vs.zip ds).map (fun b => b.2) = ds := List.map_snd_zip (by omega)
  have hmap : (vs.zip ds).map (fun b => py b.2) = ds.map py := by
    have := congrArg (List.map py) hsnd
    rw [List.map_map] at this
    exact this
  have al : PySem.W.AllAlike ((vs.zip ds).map fun b => py b.2) := by
    rw [hmap]
    intro d hd d' hd'
    obtain ⟨x, hx, rfl⟩ := List.mem_map.mp hd
    obtain ⟨y, hy, rfl⟩ := List.mem_map.mp hd'
    exact List.all_eq_true.mp (List.all_eq_true.mp h3 x hx) y hy
  have so : PySem.W.Sortable ((vs.zip ds).map fun b => py b.2) := by
    rw [hmap]
    rw [Bool.or_eq_true] at h4
    rcases h4 with h4 | h4
    · refine .inl fun d hd => ?_
      obtain ⟨x, hx, rfl⟩ := List.mem_map.mp hd
      exact py_tup_cons (List.all_eq_true.mp h4 x hx)
    · refine .inr fun d hd => ?_
      obtain ⟨x, hx, rfl⟩ := List.mem_map.mp hd
      exact py_noTup (List.all_eq_true.mp h4 x hx)
  have hlz : (vs.zip ds).length = ds.length := by rw [List.length_zip]; omega
  have bd : ∀ b ∈ vs.zip ds, X.A.units + 2 + (py b.2).depth < cLine := fun b hb => by
    have hm : b.2 ∈ ds := (List.of_mem_zip hb).2
    have := (eqOk_py 40 b.2 (List.all_eq_true.mp h2 _ hm)).2
    omega
  suffices fin : ∀ out : List Value, out.length = (vs.zip ds).length → PySem.W.EachIs (fun (u : Value) (b : V × D) => RelV b.1 u) out ((vs.zip ds).mergeSort (PySem.W.dataLe false fun b => py b.2)) →
      EP X pins σ Q (.ref (s.heap.objs.size + 1)) { s with heap := PyProof.Rows.sortedAll s.heap its out.toArray } by
    rcases pl with pl | pl
    · exact PySem.W.sorted_data (β := V × D) (enc := fun b => py b.2) (R := fun (u : Value) (b : V × D) => RelV b.1 u) (bs := vs.zip ds) (vs := its) pl (each_zip rv hlen) (each_reads (K := X.K) (G := G) (φ := φ) I rv (r1.mono sub (List.prefix_refl _)) h2) al so (by omega) bd fin
    · exact sorted_tupD (β := V × D) (enc := fun b => py b.2) (R := fun (u : Value) (b : V × D) => RelV b.1 u) (bs := vs.zip ds) pl (each_zip rv hlen) (each_reads (K := X.K) (G := G) (φ := φ) I rv (r1.mono sub (List.prefix_refl _)) h2) al so (by omega) bd fin
  intro out ho he
  · have hsort : ((vs.zip ds).mergeSort (PySem.W.dataLe false fun b => py b.2)).map (fun b => b.2) = ds.mergeSort dle := by
      have := PySem.W.sort_maps (r := PySem.W.dataLe false fun b : V × D => py b.2) (s := dle) (fun b : V × D => b.2) (l := vs.zip ds) (fun _ _ _ _ => rfl)
      rw [this, hsnd]
    have ra : RepA X.K φ G (((vs.zip ds).mergeSort (PySem.W.dataLe false fun b => py b.2)).map (·.1)) (ds.mergeSort dle) := by
      rw [← hsort]
      exact repA_pairs fun b hb => r1.zip b (List.mem_mergeSort.mp hb)
    obtain ⟨ep, he'⟩ := PyProof.Rows.sortedAll_at s.heap its out.toArray
    have fr : H (s.heap.objs.size + 1) = none := I.hok.fresh (Nat.le_succ _)
    refine ⟨.ref _, upd H (s.heap.objs.size + 1) (.lst _), I.laid (t' := s.toks) (fun _ _ => PyProof.Rows.sortedAll_old) (Nat.le_succ _) ⟨?_, out, ep, each_vals he, he'⟩, rfl, q _ _ _ (Grow.aside sub fr) (.own fr upd_same (sub.free fr) (.lst ra))⟩
    rw [ra.length, List.length_mergeSort]
    omega
theorem dcall_sorted (hu : X.A.units + 100 < cLine) : DCall X (.builtin "sorted") dSorted := fun pins s σ H xs us Q I rx ⟨φ, G, ds, r, sub, hx, hf, q⟩ => by
  unfold dSorted at hf
  split at hf
  · split at hf
    · rename_i hk
      cases hf
      obtain ⟨v, rfl, o⟩ := hx.one
      obtain ⟨a, vs, rfl, s1, r1⟩ := o.lst sub
      obtain ⟨u, rfl, ru⟩ := rx.one
      cases ru
      exact sorted_core hu I sub (.inl s1) r1 hk q
    · cases hf
  · split at hf
    · rename_i hk
      cases hf
      obtain ⟨v, rfl, o⟩ := hx.one
      obtain ⟨a, vs, rfl, s1, r1⟩ := o.tup sub
      obtain ⟨u, rfl, ru⟩ := rx.one
      cases ru
      exact sorted_core hu I sub (.inr s1) r1 hk q
    · cases hf
  · cases hf
mutual
/-- how long a text may come of it -/
def szB : D → Nat
  | .int i => (toString i).length
  | .str x => (reprText x).length
  | .tup xs => 4 + szBs xs
  | .lst xs => 4 + szBs xs
  | _ => 5
def szBs : List D → Nat
  | [] => 0
  | x :: xs => szB x + 2 + szBs xs
end
def reprD (d : D) : Str := (py d).shown
def rpOk (d : D) : Bool := eqOk 40 d && (py d).showable && decide ((py d).shown.length ≤ 1000000)
def dRepr : OpN := fun xs => match xs with
  | [d] => if rpOk d then some (.fro (.str (reprD d))) else none
  | _ => none
theorem dcall_repr (hu : X.A.units + 100 < cLine) (hg : X.A.guards = some []) : DCall X (.builtin "repr") dRepr := fun pins s σ H xs us Q I rx ⟨φ, G, ds, r, sub, hx, hf, q⟩ => by
  have mil := million
  unfold dRepr at hf
  split at hf
  · split at hf
    · rename_i d hk
      cases hf
      unfold rpOk at hk
      simp only [Bool.and_eq_true, decide_eq_true_eq] at hk
      obtain ⟨⟨h1, h2⟩, h3⟩ := hk
      obtain ⟨v, rfl, o⟩ := hx.one
      obtain ⟨u, rfl, ru⟩ := rx.one
      obtain ⟨as, rd⟩ := Dp.reads I _ _ _ (rep_dp 40 h1 (o.rep sub)) ru
      obtain ⟨hl, hd⟩ := eqOk_py 40 d h1
      have hz : (py d).shown.length ≤ sizeLine := by omega
      have qq : ∀ (h' : Heap) (u : Tok) (tk : Nat), (∀ b o, s.heap.get? b = some o → h'.get? b = some o) → EP X pins σ Q (.str (py d).shown u) { s with heap := h', toks := tk } := fun h' u tk hk =>
        ⟨.str _, H, I.kept hk, ⟨u, rfl⟩, q G H _ (Grow.refl sub) (.fro (.str _))⟩
      have same : EP X pins σ Q (.str (py d).shown s.toks) { s with toks := s.toks + 1 } := qq s.heap _ _ fun _ _ e => e
      cases d with
      | non => cases rd; exact PySem.P.repr_of_none same
      | bl b => cases rd; exact PySem.P.repr_of_bool same
      | int i =>
        cases rd
        exact PySem.P.repr_of_int (by simpa [py, PyData.showable] using h2) same
      | str x => cases rd; exact PySem.P.repr_of_str same hz
      | tup ds =>
        obtain ⟨a, vs, rfl, s1, r1⟩ := o.tup sub
        cases ru
        exact repr_of_reads' rd h2 (PyData.noDict_hsm (PyData.hasDict_of_canLay _ hl)) hg (by omega) (fun _ _ e => e) qq hz
      | lst ds =>
        obtain ⟨a, vs, rfl, s1, r1⟩ := o.lst sub
        cases ru
        exact repr_of_reads' rd h2 (PyData.noDict_hsm (PyData.hasDict_of_canLay _ hl)) hg (by omega) (fun _ _ e => e) qq hz
      | dct t k => simp [eqOk] at h1
      | hd n => simp [eqOk] at h1
      | scr n => simp [eqOk] at h1
    · cases hf
  · cases hf

def dSeq : D → Option (List D)
  | .lst ds => some ds
  | .tup ds => some ds
  | _ => none
def evItS (a : Ev RV) : Ev (List D) := fun s => (a s).bind fun p => (dSeq p.1.d).map fun ds => (ds, p.2)
theorem si_seq {tg e : Expr} {a : Ev RV} (h : SR X e a) : SI X tg e (evItS a) := ⟨fun pins s σ H R' I ⟨g, G, φ, s0, ds, s', hK, R, he, q⟩ => by
  obtain ⟨⟨p1, p2⟩, e1, he⟩ := bind_some_iff he
  obtain ⟨ds', e2, he⟩ := map_some_iff he
  cases he
  let Q : VK := fun v H1 => ∃ G1 φ1, Rel g G1 φ1 p2 σ H1 ∧ Same G G1 ∧ φ <+: φ1 ∧ Rep g.K φ1 G1 v p1.d
  refine thn (h.run pins s σ H Q I ⟨g, G, φ, s0, p1, p2, hK, R, e1, fun G1 φ1 H1 v R1 h1 h2 x => ?_⟩) fun v s1 ⟨x, H1, I1, rv, G1, φ1, R1, h1, h2, rp⟩ => ?_
  · obtain ⟨G2, R2, h3, rp⟩ := x.froz R1
    exact ⟨G2, φ1, R2, h1.trans h3, h2, rp⟩
  · have free : ∀ b ∈ [s1.heap.objs.size], FpOk X pins H1 b := fun b hb => by
      rw [List.mem_singleton.mp hb]
      exact I1.fpOk (Nat.le_refl _) I1.fresh
    cases hd : p1.d with
    | lst ds0 =>
      rw [hd] at rp e2
      cases e2
      cases rp with
      | lst st ra =>
        cases rv
        have sq : SqL X.K H1 _ _ := SqL.of (R1.sub _ _ st)
        obtain ⟨its, _, pl, _⟩ := I1.list sq
        refine wpAny_pyIter_list pl.isList ⟨_, [s1.heap.objs.size], _, Itl X.K _, H1, rfl, I1.kept (t' := s1.toks) (fun b o z => Heap.get?_push_of_some _ z), turn_list _ _, ⟨_, Heap.get?_push_size _ rfl, rfl, rfl⟩, free, ?_⟩
        exact q _ G1 φ1 H1 R1 h1 h2 (hK ▸ itOk_list (SqL.of st) (hK ▸ ra))
    | tup ds0 =>
      rw [hd] at rp e2
      cases e2
      cases rp with
      | tup st ra =>
        cases rv
        have sq : SqT X.K H1 _ _ := SqT.of (R1.sub _ _ st)
        obtain ⟨its, _, pl, _⟩ := I1.tuple sq
        refine wpAny_pyIter_tuple (show s1.heap.IsTuple _ its.toArray from pl) ⟨_, [s1.heap.objs.size], _, Itt X.K _, H1, rfl, I1.kept (t' := s1.toks) (fun b o z => Heap.get?_push_of_some _ z), turn_tuple _ _, ⟨_, Heap.get?_push_size _ rfl, rfl, rfl⟩, free, ?_⟩
        exact q _ G1 φ1 H1 R1 h1 h2 (hK ▸ itOk_tup (SqT.of st) (hK ▸ ra))
    | _ => rw [hd] at e2; cases e2⟩
/-- pairs, each a new tuple -/
def pairUp : List D → List D → List D
  | x :: xs, y :: ys => .tup [x, y] :: pairUp xs ys
  | _, _ => []
theorem pairUp_get : ∀ {xs ys : List D} {i : Nat} {d : D}, (pairUp xs ys)[i]? = some d → ∃ x y, xs[i]? = some x ∧ ys[i]? = some y ∧ d = .tup [x, y]
  | [], _, i, d, h => by simp [pairUp] at h
  | _ :: _, [], i, d, h => by simp [pairUp] at h
  | x :: xs, y :: ys, 0, d, h => by simp [pairUp] at h; exact ⟨x, y, rfl, rfl, h.symm⟩
  | x :: xs, y :: ys, i + 1, d, h => by
    obtain ⟨a, b, e1, e2, e3⟩ := pairUp_get (xs := xs) (ys := ys) (i := i) (by simpa [pairUp] using h)
    exact ⟨a, b, by simpa using e1, by simpa using e2, e3⟩
theorem pairUp_len : ∀ xs ys : List D, (pairUp xs ys).length = min xs.length ys.length
  | [], ys => by simp [pairUp]
  | _ :: _, [] => by simp [pairUp]
  | x :: xs, y :: ys => by
    rw [pairUp, List.length_cons, pairUp_len xs ys, List.length_cons, List.length_cons]
    omega
/-- a walk that yields new pairs -/
theorem itOk_pairs {K : PySem.W.Frag} {φ : List Addr} {G : Hp} {J : It} {Gd : Hp → Prop} {xs ys : List V} {ds es : List D} (w : L2.Walk J (pairUp ds es).length Gd (YPair (fun i => xs[i]?) fun i => ys[i]?)) (gd : ∀ Gc Hc, Same G Gc → Same Gc Hc → Gd Hc) (r1 : RepA K φ G xs ds) (r2 : RepA K φ G ys es) : ItOk K φ G J (pairUp ds es) := by
  refine ⟨fun Gc φc Hc h1 h2 h3 i hi => w.goes i Hc hi (gd Gc Hc h1 h3), fun Gc φc Hc h1 h2 h3 => w.stops Hc (gd Gc Hc h1 h3), fun Gc φc Hc h1 h2 h3 i d x H' hd hy => ?_⟩
  have hi := (List.getElem?_eq_some_iff.mp hd).1
  obtain ⟨T, a, b, rfl, nT, rfl, e1, e2⟩ := w.yields i Hc x H' hi (gd Gc Hc h1 h3) hy
  obtain ⟨p, q, f1, f2, rfl⟩ := pairUp_get hd
  obtain ⟨a', g1, ra⟩ := r1.get f1
  obtain ⟨b', g2, rb⟩ := r2.get f2
  have g1 : some a' = some a := g1.symm.trans e1
  have g2 : some b' = some b := g2.symm.trans e2
  cases g1
  cases g2
  have gr := Grow.laid h3 (o := .tup [a, b]) nT
  exact ⟨_, gr, .tup upd_same (.cons (ra.mono (h1.trans gr.gg) h2) (.cons (rb.mono (h1.trans gr.gg) h2) .nil))⟩
def dZip : List D → Option (List D)
  | [.lst xs, .lst ys] => some (pairUp xs ys)
  | [.tup xs, .tup ys] => some (pairUp xs ys)
  | _ => none
def evArgs (f : List D → Option (List D)) (a : Ev (List D)) : Ev (List D) := fun s => (a s).bind fun p => (f p.1).map fun ds => (ds, p.2)
theorem si_zip {a b : Expr} {ta : Ev (List D)} {p pos tpos : Pos} {elts : List Expr} {kk : Nat} (hg : Gl X "zip") (hm : X.mg "zip" = none) (ha : SA X [a, b] ta) (hs : starEach [a, b] X.env = (false, eval a X.env) :: starEach [b] X.env := by rfl) (hpl : (backTo pos (starEach [b] X.env)).any (·.1) = false := by rfl) :
    SI X (.Tuple elts kk tpos) (.Call (.Name "zip" p) [a, b] [] pos) (evArgs dZip ta) := pi_imp (RZ.pi_zipA hg hm ha hs hpl) fun σ H R' ⟨g, G, φ, s, ds, s', hK, R, he, q⟩ => by
  obtain ⟨⟨as, s1⟩, e1, he⟩ := bind_some_iff he
  obtain ⟨ds2, e2, he⟩ := map_some_iff he
  cases he
  refine ⟨g, G, φ, s, as, s1, hK, R, e1, fun G1 φ1 H1 vs R1 h1 h2 ra => ?_⟩
  have e2 : dZip as = some _ := e2
  unfold dZip at e2
  split at e2
  · cases e2
    obtain ⟨v, w, rfl, r1, r2⟩ := ra.two
    cases r1 with
    | lst s1' a1 =>
      cases r2 with
      | lst s2' a2 =>
        refine ⟨_, _, _, _, rfl, .inl ⟨SqL.of (R1.sub _ _ s1'), SqL.of (R1.sub _ _ s2'), q _ G1 φ1 H1 R1 h1 h2 ?_⟩⟩
        exact itOk_pairs (Gd := fun H => SqL X.K H _ _ ∧ SqL X.K H _ _) (walk_zip (by rw [pairUp_len, a1.length, a2.length])) (fun Gc Hc g1 g2 => ⟨SqL.of (g2 _ _ (g1 _ _ s1')), SqL.of (g2 _ _ (g1 _ _ s2'))⟩) a1 a2
  · cases e2
    obtain ⟨v, w, rfl, r1, r2⟩ := ra.two
    cases r1 with
    | tup s1' a1 =>
      cases r2 with
      | tup s2' a2 =>
        refine ⟨_, _, _, _, rfl, .inr ⟨SqT.of (R1.sub _ _ s1'), SqT.of (R1.sub _ _ s2'), q _ G1 φ1 H1 R1 h1 h2 ?_⟩⟩
        refine itOk_pairs (Gd := fun H => SqT X.K H _ _ ∧ SqT X.K H _ _) ⟨fun i H hi q => ?_, fun H q => ⟨_, _, q.1, q.2, ?_⟩, fun i H v H' hi q y => ?_⟩ (fun Gc Hc g1 g2 => ⟨SqT.of (g2 _ _ (g1 _ _ s1')), SqT.of (g2 _ _ (g1 _ _ s2'))⟩) a1 a2
        · rw [pairUp_len, ← a1.length, ← a2.length] at hi
          exact ⟨_, _, _, _, q.1, q.2, List.getElem?_eq_getElem (by omega), List.getElem?_eq_getElem (by omega)⟩
        · rw [pairUp_len, ← a1.length, ← a2.length]; omega
        · obtain ⟨T, x, z, g1, g2, g3, g4, g5⟩ := y
          exact ⟨T, x, z, g1, g2, g3, g4 _ q.1, g5 _ q.2⟩
  · cases e2
def dEnum : List D → Option (List D)
  | [.lst xs] => some (pairUp (upTo 0 xs.length) xs)
  | _ => none
theorem repA_upTo {K : PySem.W.Frag} {φ : List Addr} {G : Hp} (n : Nat) : RepA K φ G ((List.range n).map fun i => V.int (0 + (i : Nat))) (upTo 0 n) := by
  unfold upTo
  have : ∀ l : List Nat, RepA K φ G (l.map fun i => V.int (0 + (i : Nat))) (l.map fun i => D.int (0 + (i : Nat))) := by
    intro l
    induction l with
    | nil => exact .nil
    | cons x l ih => exact .cons (.int _) ih
  exact this _
theorem dEnum_some {as r : List D} (h : dEnum as = some r) : ∃ xs, as = [.lst xs] ∧ r = pairUp (upTo 0 xs.length) xs := by
  unfold dEnum at h
  split at h
  · cases h; exact ⟨_, rfl, rfl⟩
  · cases h
theorem si_enum {a : Expr} {ta : Ev (List D)} {p pos tpos : Pos} {elts : List Expr} {kk : Nat} (hg : Gl X "enumerate") (hm : X.mg "enumerate" = none) (ha : SA X [a] ta) (hs : starEach [a] X.env = [(false, eval a X.env)] := by rfl) :
    SI X (.Tuple elts kk tpos) (.Call (.Name "enumerate" p) [a] [] pos) (evArgs dEnum ta) := pi_imp (pi_enum hg hm ha hs) fun σ H R' ⟨g, G, φ, s, ds, s', hK, R, he, q⟩ => by
  obtain ⟨⟨as, s1⟩, e1, he⟩ := bind_some_iff he
  obtain ⟨ds2, e2, he⟩ := map_some_iff he
  cases he
  refine ⟨g, G, φ, s, as, s1, hK, R, e1, fun G1 φ1 H1 vs R1 h1 h2 ra => ?_⟩
  obtain ⟨xs', rfl, rfl⟩ := dEnum_some (show dEnum as = some _ from e2)
  obtain ⟨v, rfl, r1⟩ := ra.one
  cases r1 with
  | lst s1' a1 =>
    rename_i vs0
    refine ⟨_, _, rfl, SqL.of (R1.sub _ _ s1'), q _ G1 φ1 H1 R1 h1 h2 ?_⟩
    have hl : (pairUp (upTo 0 xs'.length) xs').length = xs'.length := by rw [pairUp_len]; unfold upTo; simp
    refine itOk_pairs (Gd := fun H => SqL X.K H _ vs0) ⟨fun i H hi q => ?_, fun H q => ?_, fun i H v H' hi q y => ?_⟩ (fun Gc Hc g1 g2 => SqL.of (g2 _ _ (g1 _ _ s1'))) (repA_upTo xs'.length) a1
    · rw [hl, ← a1.length] at hi
      exact ⟨_, _, q, List.getElem?_eq_getElem hi⟩
    · exact ⟨_, q, by rw [hl, a1.length]; exact Nat.le_refl _⟩
    · obtain ⟨T, x, g1, g2, g3, g4⟩ := y
      refine ⟨T, _, x, g1, g2, g3, ?_, g4 _ q⟩
      rw [hl] at hi
      show ((List.range xs'.length).map fun i => V.int (0 + (i : Nat)))[i]? = _
      rw [List.getElem?_map, List.getElem?_range hi]
      simp
end
end Pv

namespace Pv
open PySem PySem.Spec L2
variable [TabL]
theorem bb_len : bootBuiltins "len" = some (.builtin "len") := by decide +kernel
theorem bb_sum : bootBuiltins "sum" = some (.builtin "sum") := by decide +kernel
theorem bb_max : bootBuiltins "max" = some (.builtin "max") := by decide +kernel
theorem bb_min : bootBuiltins "min" = some (.builtin "min") := by decide +kernel
theorem bb_all : bootBuiltins "all" = some (.builtin "all") := by decide +kernel
theorem bb_any : bootBuiltins "any" = some (.builtin "any") := by decide +kernel
theorem bb_sorted : bootBuiltins "sorted" = some (.builtin "sorted") := by decide +kernel
theorem bb_repr : bootBuiltins "repr" = some (.builtin "repr") := by decide +kernel
theorem bb_list : bootBuiltins "list" = some (.type "list") := by decide +kernel
theorem bb_tuple : bootBuiltins "tuple" = some (.type "tuple") := by decide +kernel
theorem bb_int : bootBuiltins "int" = some (.type "int") := by decide +kernel
theorem bb_bool : bootBuiltins "bool" = some (.type "bool") := by decide +kernel
theorem bb_str : bootBuiltins "str" = some (.type "str") := by decide +kernel
theorem bb_dict : bootBuiltins "dict" = some (.type "dict") := by decide +kernel
/-- nothing is promised -/
theorem fn_void {P : Program} {w : World} {K : PySem.W.Frag} {mg : Str → Option Value} {base : Heap} {k n : Nat} {f : Addr} {fd : FuncData} {ps : List Str} : FnG P w K mg base CX0 k f fd ps (spF K n fun _ _ => none) :=
  ⟨fun vs H Q E h => (by obtain ⟨_, _, _, _, _, _, _, _, _, _, _, h, _⟩ := h; cases h), fun A outer s H args us vs Q E _ _ _ _ h => (by obtain ⟨_, _, _, _, _, _, _, _, _, _, _, h, _⟩ := h; cases h)⟩
end Pv

namespace Pv
open PySem PySem.Spec L2
variable [TabL]
section
variable {g : Gh} {G : Hp} {φ : List Addr} {s : Sg} {σ : St} {H : Hp}
/-- a fresh thing becomes a cell -/
theorem Rel.promote {p : Addr} {o : HO} {d : D} (R : Rel g G φ s σ H) (F : Fresh g G φ s σ H p o d) : Rel g G (φ ++ [p]) { s with st := s.st ++ [.d d] } σ H ∧ Rep g.K (φ ++ [p]) G (.ref p) (.hd s.st.length) := by
  have pf : φ <+: φ ++ [p] := List.prefix_append _ _
  refine ⟨⟨R.sub, R.g0, R.new, R.old, R.use, R.zed, R.pre.trans pf, R.len, fun i x e => ?_, fun i x e => ?_, R.sep, by simp [R.clen], fun n a c a1 a2 => ?_, ?_, R.nt, R.tab⟩, .hd (by rw [R.clen, List.getElem?_append_right (Nat.le_refl _)]; simp)⟩
  · obtain ⟨v, h1, h2⟩ := R.fro i x e
    exact ⟨v, h1, h2.mono (Same.refl _) pf⟩
  · obtain ⟨q, u, b1, b2, b3, b4, b5, b6, b7⟩ := R.own i x e
    refine ⟨q, u, b1, b2, b3.mono (Same.refl _) pf, b4, b5, b6, fun hm => ?_⟩
    rcases List.mem_append.mp hm with hm | hm
    · exact b7 hm
    · rw [List.mem_singleton] at hm
      subst hm
      exact F.sl i x e b1
  · by_cases hn : n < φ.length
    · rw [List.getElem?_append_left hn] at a1
      rw [List.getElem?_append_left (by rw [R.clen]; exact hn)] at a2
      obtain ⟨u, b1, b2, b3, b4, b5⟩ := R.cell n a c a1 a2
      exact ⟨u, b1, b2.mono (Same.refl _) pf, b3, b4, b5⟩
    · have hl : n = φ.length := by
        have := (List.getElem?_eq_some_iff.mp a1).1
        simp at this
        omega
      subst hl
      rw [List.getElem?_append_right (Nat.le_refl _)] at a1
      rw [← R.clen, List.getElem?_append_right (Nat.le_refl _)] at a2
      simp at a1 a2
      subst a1 a2
      exact ⟨o, F.at_, .d (F.own.mono (Same.refl _) pf), F.gp, F.fp, .inr F.up⟩
  · refine List.nodup_append.mpr ⟨R.nd, by simp, fun a h1 b h2 e => ?_⟩
    rw [List.mem_singleton] at h2
    subst h2 e
    exact F.ph h1
end
def evSetC (i : Nat) (a : Ev RV) : Ev Out := fun s => (a s).bind fun p => match p.1 with
  | .own d => some (.nx, ⟨p.2.env.set i (.fro (.hd p.2.st.length)), p.2.st ++ [.d d]⟩)
  | .fro _ => none
theorem setC_core {K : PySem.W.Frag} {i : Nat} {va : Ev RV} {E : Ends} {σ : St} {H : Hp} (h : tS K (evSetC i va) E σ H) : tAsg (tR K va) (gName i) E σ H := by
  obtain ⟨g, G, φ, s, o, s', hK, R, he, q⟩ := h
  obtain ⟨⟨r, s1⟩, e1, he⟩ := bind_some_iff he
  cases r with
  | fro => cases he
  | own d =>
    cases he
    refine ⟨g, G, φ, s, .own d, s1, hK, R, e1, fun G' φ' H' v R' h1 h2 x => ?_⟩
    cases x with
    | own F =>
      obtain ⟨R2, rp⟩ := R'.promote F
      exact q G' _ _ H' (R2.store i (.fro rp)) h1 (h2.trans (List.prefix_append _ _))
/-- x = e, where x is to be changed by others -/
theorem ss_setC {X : Cx} {i : Nat} {x : Str} {e : Expr} {va : Ev RV} {pos pos' : Pos} (hN : X.N.Nodup) (h : SR X e va) (hi : X.N[i]? = some x := by rfl) (hx : Loc X.env.scope x := by first | exact Or.inl rfl | exact Or.inr rfl) (hs : swapsWith e (some (.Name x pos')) pos.line X.env = pure false := by rfl)
    (hf : X.fn x = true ∨ X.env.scope.names.lookup x = some .local := by first | exact .inl rfl | exact .inr rfl) : SS X (.Assign [.Name x pos'] e pos) (evSetC i va) :=
  ps_imp (ps_set hN hi hx h hs hf) fun _ _ _ h => setC_core h
def isiAny (Ts : List String) (t : String) : Option Bool := match Ts with
  | [] => some false
  | T :: Ts => (kitB t T).bind fun b => if b = true then some true else isiAny Ts t
theorem kitAny_of {K : PySem.W.Frag} {t : String} : ∀ {Ts : List String} {b : Bool}, isiAny Ts t = some b → PySem.W.kitAny K (.type t) (Ts.map Value.type) = some b
  | [], b, h => by cases h; exact kitAny_nil
  | T :: Ts, b, h => by
    unfold isiAny at h
    obtain ⟨c, e1, h⟩ := bind_some_iff h
    refine kitAny_cons (kit_ty e1) (fun hc => ?_) fun hc => ?_
    · subst hc; exact kitAny_of h
    · subst hc; cases h; rfl
def isiBs (Ts : List String) : D → Option RV := fun d => (tyOf d).bind fun t => (isiAny Ts t).map fun b => .fro (.bl b)
def evIsis (Ts : List String) (a : Ev Bor) : Ev RV := fun s => (a s).bind fun p => (fetch p.2 p.1).bind fun d => (isiBs Ts d).map fun r => (r, p.2)
section
variable {X : Cx}
theorem sr_isi2 {T1 T2 : Str} {n1 n2 : String} {e : Expr} {a : Ev Bor} {x1} {p p1 p2 p3 pos : Pos} (hg : Gl X "isinstance") (hm : X.mg "isinstance" = none) (hg1 : Gl X T1) (hm1 : X.mg T1 = none) (hv1 : bootBuiltins T1 = some (.type n1))
    (hg2 : Gl X T2) (hm2 : X.mg T2 = none) (hv2 : bootBuiltins T2 = some (.type n2)) (ha : SB X e a)
    (hn1 : T1 ≠ "__name__" := by decide) (hd1 : (T1 == ("__debug__" : Str)) = false := by decide) (hn2 : T2 ≠ "__name__" := by decide) (hd2 : (T2 == ("__debug__" : Str)) = false := by decide)
    (k1 : starEach [e, .Tuple [.Name T1 p1, .Name T2 p2] x1 p3] X.env = (false, eval e X.env) :: starEach [.Tuple [.Name T1 p1, .Name T2 p2] x1 p3] X.env := by rfl)
    (k2 : starEach [.Tuple [.Name T1 p1, .Name T2 p2] x1 p3] X.env = (false, eval (.Tuple [.Name T1 p1, .Name T2 p2] x1 p3) X.env) :: starEach [] X.env := by rfl)
    (k3 : starEach [.Name T1 p1, .Name T2 p2] X.env = (false, eval (.Name T1 p1) X.env) :: starEach [.Name T2 p2] X.env := by rfl) (k4 : starEach [.Name T2 p2] X.env = (false, eval (.Name T2 p2) X.env) :: starEach [] X.env := by rfl)
    (hpl : (backTo pos (starEach [.Tuple [.Name T1 p1, .Name T2 p2] x1 p3] X.env)).any (·.1) = false := by rfl) :
    SR X (.Call (.Name "isinstance" p) [e, .Tuple [.Name T1 p1, .Name T2 p2] x1 p3] [] pos) (evIsis [n1, n2] a) := by
  have hc : CallR X (.builtin "isinstance") (fun xs H Q => ∃ φ G v d r tp, xs = [v, .ref tp] ∧ H tp = some (.tup [.ty n1, .ty n2]) ∧ Same G H ∧ OpRep X.K φ G H v d ∧ isiBs [n1, n2] d = some r ∧ OkRes X.K φ G H r Q) := fun pins s σ H xs us Q I rx ⟨φ, G, v, d, r, tp, ex, ht, sub, o, hr, q⟩ => by
    subst ex
    obtain ⟨u1, u2, rfl, r1, r2⟩ := rx.two
    cases (show u2 = Value.ref tp from r2)
    obtain ⟨t, e1, hr⟩ := bind_some_iff hr
    obtain ⟨b, e2, hr⟩ := map_some_iff hr
    subst hr
    obtain ⟨P, Z, pz, hx⟩ := kit_D I r1 sub o e1
    obtain ⟨_, its, rv, o', h1, h2, n, h3⟩ := (show ObjOk X.prog X.w H s.heap tp (.tup [.ty n1, .ty n2]) from I.hok tp _ ht)
    obtain ⟨w1, w2, rfl, q1, q2⟩ := rv.two
    cases (show w1 = Value.type n1 from q1)
    cases (show w2 = Value.type n2 from q2)
    obtain ⟨oc, od, dt, sl⟩ := o'
    simp only at h2 h3
    subst h2 h3
    exact PySem.W.kia_tup Z I.kIn pz h1 (kitAny_of (Ts := [n1, n2]) e2) hx fun tk => ⟨.bl b, H, I.tok tk, rfl, q G H _ (Grow.refl sub) (.fro (.bl b))⟩
  refine pe_imp (pe_callB hc hg hm (by decide +kernel) (pa_cons ha (pa_cons (pe_tup (pa_cons (pe_bltn (v := .ty n1) hg1 hm1 hv1 rfl hn1 hd1) (pa_cons (pe_bltn (v := .ty n2) hg2 hm2 hv2 rfl hn2 hd2) pa_nil k4) k3)) pa_nil k2) k1) (by decide) (by decide) k1 hpl) fun σ H Q ⟨g, G, φ, s, r, s', hK, R, he, q⟩ => ?_
  obtain ⟨⟨b, s1⟩, e1, he⟩ := bind_some_iff he
  obtain ⟨d, e2, he⟩ := bind_some_iff he
  obtain ⟨r', e3, he⟩ := map_some_iff he
  cases he
  refine ⟨g, G, φ, s, b, s1, hK, R, e1, fun G1 φ1 H1 v R1 h1 h2 x => ?_⟩
  refine ⟨by simp [sizeLine], fun tp ht => ?_⟩
  have R2 := R1.grow (Grow.aside R1.sub (o := .tup [.ty n1, .ty n2]) ht)
  exact ⟨φ1, G1, v, d, r, tp, rfl, upd_same, R2.sub, hK ▸ R2.fetch x e2, e3, fun G3 H3 w gr o => q G3 φ1 H3 w (R2.grow gr) (h1.trans gr.gg) h2 (ORes.res R2 gr (hK ▸ o))⟩
end
end Pv

namespace Pv
open PySem PySem.Spec L2
/-- what is to be shown of a law's reading -/
def Keeps (m : Fm) : Prop := ∀ ns : List Int, ns.length ≤ 63 → (∀ z ∈ ns, Builtin.Int.intBits z ≤ 1048576) → ∃ st, m [.scr ns] [] = some (.fro (.bl true), st)
/-- a def that holds a lambda: its name, its code object, its table, the lambda's name -/
structure LamT where
  x : Str
  c : Addr
  P : Addr
  q : Str
abbrev lamTL (ts : List LamT) : List (Addr × Str) := ts.map fun t => (t.P, t.q)
/-- at the call of the law: the script and the tables alone are tracked -/
structure AloneT (ts : List LamT) (H : Hp) (a : Addr) (vs : List Value) (ns : List Int) : Prop where
  only : ∀ b u, H b = some u → (b = a ∧ u = .frz { cls := .type "list", data := .seq vs.toArray } (.lst (ns.map V.int))) ∨ ((∃ t ∈ ts, t.P = b) ∧ u = .tbl #[])
section
variable {P : Program} {w : World} {K : PySem.W.Frag} {mg mb : Str → Option Value} {H : Hp} {a : Addr} {vs : List Value} {ns : List Int} {s : Shared} {ts : List LamT}
theorem AloneT.hok (al : AloneT ts H a vs ns) (ha : s.heap.get? a = some { cls := .type "list", data := .seq vs.toArray }) (iv : PyProof.Rows.IntsAre vs ns) (hl : ns.length ≤ sizeLine) (hT : ∀ t ∈ ts, s.heap.get? t.P = some (PySem.W.tabObj #[])) : HOk P w H s.heap := fun b u e => by
  rcases al.only b u e with ⟨rfl, rfl⟩ | ⟨⟨t, ht, rfl⟩, rfl⟩
  · exact ⟨ha, by rw [List.length_map]; exact hl, vs, _, L2.vals_ints iv, ha⟩
  · exact hT t ht
theorem AloneT.free (al : AloneT ts H a vs ns) (ha : s.heap.get? a = some { cls := .type "list", data := .seq vs.toArray }) (hT : ∀ t ∈ ts, s.heap.get? t.P = some (PySem.W.tabObj #[])) {b : Addr} {o : Obj} (e : s.heap.get? b = some o) (d1 : ∀ n, o.data ≠ .seq vs.toArray n) (d2 : o.data ≠ .fields #[]) : H b = none := by
  cases q : H b with
  | none => rfl
  | some u =>
    rcases al.only b u q with ⟨rfl, _⟩ | ⟨⟨t, ht, rfl⟩, _⟩
    · rw [ha] at e
      cases e
      exact absurd rfl (d1 _)
    · rw [hT t ht] at e
      cases e
      exact absurd rfl d2
theorem AloneT.env (al : AloneT ts H a vs ns) (ha : s.heap.get? a = some { cls := .type "list", data := .seq vs.toArray }) (iv : PyProof.Rows.IntsAre vs ns) (hl : ns.length ≤ sizeLine) (hT : ∀ t ∈ ts, s.heap.get? t.P = some (PySem.W.tabObj #[])) (KX : K.In s.heap) (apart : ∀ o, K.lookup a = some o → H a = none) (nT : ∀ t ∈ ts, K.lookup t.P = none)
    (hns : s.heap.Ns mainGlobals mg) (hb : s.heap.Ns builtinsNs mb) (hbb : ∀ x : Str, x ≠ "__name__" → mb x = bootBuiltins x) (hlim : s.heap.NoLimit) (hg : s.gens = #[]) :
    Env0 P w K mg (hidT s.heap H) callerA [] s H ∧ HOk P w H s.heap := by
  have hok : HOk P w H s.heap := al.hok ha iv hl hT
  have dict : ∀ {b : Addr} {m : Str → Option Value}, s.heap.Ns b m → (hidT s.heap H).Ns b m := fun {b m} ⟨o, es, ep, e, d, r⟩ => ⟨o, es, ep, hidT_get e (al.free ha hT e (fun n z => by rw [d] at z; cases z) fun z => by rw [d] at z; cases z), d, r⟩
  have kin : K.In (hidT s.heap H) := fun b o e => hidT_get (KX b o e) (by
    cases q : H b with
    | none => rfl
    | some u =>
      rcases al.only b u q with ⟨rfl, _⟩ | ⟨⟨t, ht, rfl⟩, _⟩
      · rw [apart o e] at q
        cases q
      · rw [nT t ht] at e
        cases e)
  obtain ⟨mc, c1, c2⟩ := hlim
  exact ⟨⟨rfl, ⟨kin, dict hns, ⟨mb, dict hb, hbb⟩, ⟨mc, dict c1, c2⟩⟩, fun _ _ e => of_hidT e, Nat.le_of_eq (hidT_size _ _), trivial, fun b z => (by cases z), hok, PyProof.Rows.AllBare.of_eq hg⟩, hok⟩
/-- what a lambda's making asks of the base -/
theorem AloneT.tb (al : AloneT ts H a vs ns) (ha : s.heap.get? a = some { cls := .type "list", data := .seq vs.toArray }) (hT : ∀ t ∈ ts, s.heap.get? t.P = some (PySem.W.tabObj #[])) (hns : s.heap.Ns mainGlobals mg) (hC : ∀ t ∈ ts, PySem.W.CodeHd s.heap t.c t.P)
    (hbm : ∃ (bm : Addr) (ob : Obj), mg "__builtins__" = some (.ref bm) ∧ bm ≠ builtinsNs ∧ s.heap.get? bm = some ob ∧ ob.cls = .type "module" ∧ ob.dict = some builtinsNs ∧ ob.data = .plain) {t : LamT} (ht : t ∈ ts) : LamX.TabB (hidT s.heap H) mg t.c t.P := by
  have tP := hT t ht
  obtain ⟨og, eg, pg, g1, g2, _⟩ := hns
  refine ⟨?_, ?_, fun z => ?_⟩
  · obtain ⟨o, us, file, tf, flags, tg, inF, text, tt, e1, r1, r2, r3, r⟩ := hC t ht
    refine ⟨o, us, file, tf, flags, tg, inF, text, tt, hidT_get e1 (al.free ha hT e1 (fun n z => ?_) fun z => ?_), r1, r2, r3, r⟩
    · rw [r2] at z; cases z
    · rw [r2] at z; cases z; simp at r3
  · obtain ⟨bm, ob, b1, b2, b3, b4, b5, b6⟩ := hbm
    refine ⟨bm, ob, b1, b2, fun q => ?_, fun q => ?_, hidT_get b3 (al.free ha hT b3 (fun n z => ?_) fun z => ?_), b4, b5, b6⟩
    · rw [q, g1] at b3
      cases b3
      rw [g2] at b6
      cases b6
    · rw [q, tP] at b3
      cases b3
      cases b6
    · rw [b6] at z; cases z
    · rw [b6] at z; cases z
  · rw [z, tP] at g1
    cases g1
    cases g2
theorem AloneT.old {H' : Hp} {s' : Shared} (al : AloneT ts H a vs ns) (hT : ∀ t ∈ ts, s.heap.get? t.P = some (PySem.W.tabObj #[])) (hC : ∀ t ∈ ts, PySem.W.CodeHd s.heap t.c t.P) (hH : ∀ t ∈ ts, H t.P = some (.tbl #[])) (ok : HOk P w H s.heap) (ok' : HOk P w H' s'.heap) (un : Un (frs []) [] H H' s.heap s'.heap) : OldK s.heap s'.heap := by
  have grown : ∀ t ∈ ts, ∃ more : Array Value, s'.heap.get? t.P = some { cls := .none, data := .fields more } := fun t ht => by
    obtain ⟨more, z⟩ := un.tbls t.P _ (hH t ht)
    exact ⟨_, ok' t.P _ z⟩
  have stay : ∀ b o, s.heap.get? b = some o → (∃ t ∈ ts, t.P = b) ∨ s'.heap.get? b = some o := fun b o e => by
    cases q : H b with
    | none => exact .inr (un.keep b o e q (fun z => by cases z) (fun z => by cases z))
    | some u =>
      rcases al.only b u q with ⟨_, rfl⟩ | ⟨z, _⟩
      · have before := (ok b _ q).1
        have behind := (ok' b _ (un.frzs b _ _ q)).1
        rw [before] at e
        cases e
        exact .inr behind
      · exact .inl z
  refine ⟨fun b o e => ?_, fun b o e => ?_⟩
  · rcases stay b o e with ⟨t, ht, rfl⟩ | z
    · obtain ⟨more, hm⟩ := grown t ht
      have tP := hT t ht
      rw [tP] at e
      cases e
      exact .inr (.inl ⟨((hC t ht).tab tP).isCodeTable, rfl, #[], more, rfl, by rw [Array.empty_append]; exact hm⟩)
    · exact .inl z
  · rcases stay b o e with ⟨t, ht, rfl⟩ | z
    · obtain ⟨more, hm⟩ := grown t ht
      exact ⟨_, hm⟩
    · exact ⟨o, z⟩
end
/-- the tables, as the head tells them -/
structure LamOk (K : PySem.W.Frag) (t : LamT) : Prop where
  tab : PySem.W.tabIn K t.x = some (t.c, t.P)
  out : K.lookup t.P = none
theorem walk_end {l : PySem.W.OpenLaw} {k : Nat} {q : Program} {loose : List Str} {XP : (Str → Option Value) → Heap → Prop} {YP : World → Heap → Prop} {d : DefRec} {K : Params → PySem.W.Frag} {m : Fm} {x : Str} (names : List Str)
    (hn : l.most = some 63) (hdf : d.params.defaults = []) (hk : k ≤ 60) (hY : ∀ (w : World) (h : Heap), YP w h → (K w.params).In h) (hq : names.all (fun y => (PyProof.Rows.recsOf q).any fun e => e.name == y) = true)
    (F : ∀ (w : World) (mg : Str → Option Value) (fa : Addr) (h : Heap), (K w.params).In h → h.Ns mainGlobals mg → mg d.name = some (.ref fa) →
      ∃ (ts : List LamT) (fd : FuncData), (∀ t ∈ ts, t.x ∈ names ∧ LamOk (K w.params) t) ∧ (∀ (s : Shared) (u : Value), BindsTo s fd ⟨[u], []⟩ [(x, u)]) ∧ ∀ base : Heap, (∀ t ∈ ts, LamX.TabB base mg t.c t.P) → FnG l.prog w (K w.params) mg base CX0 k fa fd [x] (@spF ⟨lamTL ts⟩ (K w.params) 1 m))
    (hm : Keeps m) : PySem.W.WalkO q loose XP YP l.row.toRowW d [] (fun f vs => PySem.call f vs) := by
  refine Att.attach_callB hn hdf fun w s₀ s mg mb fa o pm cd doc a vs ns G Y ho hd hcd hmg ha iv hlen bits hg => ?_
  have KX := hY w _ Y
  have room : RoomG k callerA := ⟨(⟨rfl, by decide, by decide⟩ : Room 60 callerA).mono hk, rfl⟩
  obtain ⟨ts, fd, hts, bind, prom⟩ := F w mg fa _ KX G.T.g hmg
  have hl : ns.length ≤ sizeLine := Nat.le_trans hlen (by decide)
  have tabs : ∀ t ∈ ts, PySem.W.CodeHd s.heap t.c t.P ∧ s.heap.get? t.P = some (PySem.W.tabObj #[]) := fun t ht => by
    obtain ⟨h1, h2⟩ := hts t ht
    obtain ⟨e, he, hn⟩ := List.any_eq_true.mp (List.all_eq_true.mp hq _ h1)
    obtain ⟨r, hr⟩ : ∃ r, (PyProof.Rows.recsOf q).find? (fun e => e.name == t.x) = some r := by
      cases z : (PyProof.Rows.recsOf q).find? (fun e => e.name == t.x) with
      | some r => exact ⟨r, rfl⟩
      | none => exact absurd hn (by simpa using List.find?_eq_none.mp z e he)
    exact PySem.W.tab_of G.T KX hr h2.tab
  have hT := fun t ht => (tabs t ht).2
  have hC := fun t ht => (tabs t ht).1
  have aT : ∀ t ∈ ts, t.P ≠ a := fun t ht z => by
    have := hT t ht
    rw [z, ha] at this
    cases this
  have fin : ∀ H : Hp, AloneT ts H a vs ns → (∀ t ∈ ts, H t.P = some (.tbl #[])) → SqL (K w.params) H a (ns.map V.int) → (∀ o, (K w.params).lookup a = some o → H a = none) →
      codeAny (model l.prog w) callerA (.call (.ref fa) ⟨[.ref a], []⟩) (fun r s' => r = .ok (.ret (.bool true)) ∧ OldK s.heap s'.heap ∧ s'.os = s.os ∧ PyProof.Rows.AllBare s'.gens) s := by
    intro H al hH ex apart
    obtain ⟨e0, ok⟩ := al.env (P := l.prog) (w := w) ha iv hl hT KX apart (fun t ht => (hts t ht).2.out) G.T.g G.T.b G.T.builtins G.T.nolimit hg
    have TB : ∀ t ∈ ts, LamX.TabB (hidT s.heap H) mg t.c t.P := fun t ht => al.tb ha hT G.T.g hC G.T.bmain ht
    obtain ⟨st, em⟩ := hm ns hlen bits
    letI : TabL := ⟨lamTL ts⟩
    have tg : TabG (ntH H) H := by
      refine ⟨fun p hp => ?_, fun p hp => ?_⟩
      · obtain ⟨t, ht, rfl⟩ := List.mem_map.mp hp
        exact LamX.TabS.nil (hH t ht)
      · obtain ⟨t, ht, rfl⟩ := List.mem_map.mp hp
        have hP := hH t ht
        cases e : ntH H t.P with
        | none => rfl
        | some u =>
          obtain ⟨e1, e2⟩ := ntH_some e
          rw [hP] at e1
          exact absurd (Option.some.inj e1).symm (e2 _)
    have sub : Same (ntH H) H := fun b u e => (ntH_some e).1
    have ex' : SqL (K w.params) (ntH H) a (ns.map V.int) := by
      rcases ex with (z | ⟨o, z⟩) | z
      · exact .inl (.inl (ntH_of z fun ps e => by cases e))
      · exact .inl (.inr ⟨o, ntH_of z fun ps e => by cases e⟩)
      · exact .inr z
    have sp : spF (K w.params) 1 m [.ref a] H (fun v _ => v = .bl true) fun _ _ _ => False :=
      ⟨ntH H, [], [.scr ns], [], .fro (.bl true), st, sub, tg, ⟨rfl, List.nodup_nil, fun n a c e => by simp at e⟩, .cons (.scr ex') .nil, rfl, em, fun G' φ' H' v _ _ _ _ _ _ _ _ _ x => by
        cases x with
        | fro r => cases r; rfl⟩
    have run := (prom _ TB).run callerA [] s H ⟨[.ref a], []⟩ [.ref a] [.ref a] _ _ room e0 (bind s (.ref a)) (.cons rfl .nil) sp
    refine codeAny_mono run fun r s' h => ?_
    match r, h with
    | .error _, h => exact False.elim h
    | .ok .next, h => exact False.elim h
    | .ok .brk, h => exact False.elim h
    | .ok .cont, h => exact False.elim h
    | .ok (.ret u), ⟨v, H', os, bare, un, ok', rv, hv⟩ =>
      cases (show v = .bl true from hv)
      cases (show u = Value.bool true from rv)
      exact ⟨rfl, al.old hT hC hH ok ok' un, os, bare⟩
  have dec : ∀ b, (∃ t ∈ ts, t.P = b) ∨ ¬ ∃ t ∈ ts, t.P = b := fun b => Classical.em _
  let HT0 : Hp := fun b => if b ∈ ts.map (·.P) then some (.tbl #[]) else none
  have hHT : ∀ t ∈ ts, HT0 t.P = some (.tbl #[]) := fun t ht => if_pos (List.mem_map.mpr ⟨t, ht, rfl⟩)
  have HTo : ∀ b u, HT0 b = some u → (∃ t ∈ ts, t.P = b) ∧ u = .tbl #[] := fun b u e => by
    by_cases h : b ∈ ts.map (fun t => t.P)
    · have e2 : HT0 b = some (.tbl #[]) := if_pos h
      rw [e2] at e
      obtain ⟨t, ht, z⟩ := List.mem_map.mp h
      exact ⟨⟨t, ht, z⟩, (Option.some.inj e).symm⟩
    · have e2 : HT0 b = none := if_neg h
      rw [e2] at e; cases e
  have HTa : HT0 a = none := by
    cases e : HT0 a with
    | none => rfl
    | some u =>
      obtain ⟨⟨t, ht, z⟩, _⟩ := HTo a u e
      exact absurd z (aT t ht)
  cases hk : (K w.params).lookup a with
  | some o =>
    have e := KX a o hk
    rw [ha] at e
    cases e
    exact fin HT0 ⟨fun b u z => .inr (HTo b u z)⟩ hHT (.inr ⟨_, vs.toArray, _, hk, rfl, rfl, rfl, by rw [List.size_toArray, iv.length]; exact hl, by simpa using L2.vals_ints iv⟩) fun _ _ => HTa
  | none =>
    refine fin (upd HT0 a (.frz { cls := .type "list", data := .seq vs.toArray } (.lst (ns.map V.int)))) ⟨fun b u z => ?_⟩ (fun t ht => by rw [upd_ne (aT t ht)]; exact hHT t ht) (.inl (.inr ⟨_, upd_same⟩)) fun o z => by rw [hk] at z; cases z
    by_cases e : b = a
    · subst e; rw [upd_same] at z; cases z; exact .inl ⟨rfl, rfl⟩
    · rw [upd_ne e] at z; exact .inr (HTo b u z)
end Pv

namespace Pv
open PySem PySem.Spec L2
local instance noTabs14_1 : TabL := ⟨[]⟩
@[simp] theorem deq_int (i j : Int) : deq (.int i) (.int j) = decide (i = j) := by simp [deq, py, PyData.eqv]; rfl
@[simp] theorem deq_bl (i j : Bool) : deq (.bl i) (.bl j) = decide (i = j) := by cases i <;> cases j <;> rfl
@[simp] theorem deq_tup (xs ys : List D) : deq (.tup xs) (.tup ys) = deqAll xs ys := by
  rw [← eqvAll_py]; simp [deq, py, PyData.eqv]
@[simp] theorem deq_lst (xs ys : List D) : deq (.lst xs) (.lst ys) = deqAll xs ys := by
  rw [← eqvAll_py]; simp [deq, py, PyData.eqv]
@[simp] theorem deq_non_int (i : Int) : deq .non (.int i) = false := by simp [deq, py, PyData.eqv]
@[simp] theorem deq_int_non (i : Int) : deq (.int i) .non = false := by simp [deq, py, PyData.eqv]
@[simp] theorem deq_non_tup (i : List D) : deq .non (.tup i) = false := by simp [deq, py, PyData.eqv]
@[simp] theorem deq_tup_non (i : List D) : deq (.tup i) .non = false := by simp [deq, py, PyData.eqv]
@[simp] theorem deq_non_lst (i : List D) : deq .non (.lst i) = false := by simp [deq, py, PyData.eqv]
@[simp] theorem deq_lst_non (i : List D) : deq (.lst i) .non = false := by simp [deq, py, PyData.eqv]
@[simp] theorem deq_non : deq .non .non = true := by simp [deq, py, PyData.eqv]
theorem deqAll_ints : ∀ xs ys : List Int, deqAll (xs.map D.int) (ys.map D.int) = decide (xs = ys)
  | [], [] => rfl
  | x :: xs, [] => by simp [deqAll]
  | [], y :: ys => by simp [deqAll]
  | x :: xs, y :: ys => by simp [deqAll, deqAll_ints xs ys]
/-- no cell, no dict, no script, of depth n -/
def good : Nat → D → Bool := eqOk
mutual
theorem deq_self : ∀ (n : Nat) (d : D), eqOk n d = true → deq d d = true
  | n, .non, _ => by simp
  | n, .bl b, _ => by simp
  | n, .int b, _ => by simp
  | n, .str x, _ => by simp [deq, py, PyData.eqv]
  | 0, .tup xs, h => by simp [eqOk] at h
  | 0, .lst xs, h => by simp [eqOk] at h
  | n + 1, .tup xs, h => by rw [deq_tup]; exact deqAll_self n xs h
  | n + 1, .lst xs, h => by rw [deq_lst]; exact deqAll_self n xs h
  | n, .dct _ _, h => by cases n <;> simp [eqOk] at h
  | n, .hd _, h => by cases n <;> simp [eqOk] at h
  | n, .scr _, h => by cases n <;> simp [eqOk] at h
theorem deqAll_self : ∀ (n : Nat) (ds : List D), ds.all (eqOk n) = true → deqAll ds ds = true
  | n, [], _ => rfl
  | n, d :: ds, h => by
    rw [List.all_cons, Bool.and_eq_true] at h
    rw [deqAll, deq_self n d h.1, deqAll_self n ds h.2]
    rfl
end
theorem eqOk_ints (n : Nat) (xs : List Int) : (xs.map D.int).all (eqOk n) = true := by
  rw [List.all_eq_true]
  intro d hd
  obtain ⟨i, _, rfl⟩ := List.mem_map.mp hd
  cases n <;> rfl
theorem any_int (x : Int) (ys : List Int) : (ys.map D.int).any (fun z => deq z (.int x)) = decide (x ∈ ys) := by
  rw [Bool.eq_iff_iff]; simp [List.any_eq_true, List.mem_map]
/-- x in ints -/
theorem dIn_ints (x : Int) (ys : List Int) : dIn (.int x) (.tup (ys.map D.int)) = some (.fro (.bl (decide (x ∈ ys)))) := by
  have : eqOk 49 (.int x) = true := rfl
  simp only [dIn, isIn, eqOk_ints, this, any_int, Bool.and_self, if_true, Option.map_some]
theorem dIn_intsL (x : Int) (ys : List Int) : dIn (.int x) (.lst (ys.map D.int)) = some (.fro (.bl (decide (x ∈ ys)))) := by
  have : eqOk 49 (.int x) = true := rfl
  simp only [dIn, isIn, eqOk_ints, this, any_int, Bool.and_self, if_true, Option.map_some]
theorem dNotIn_ints (x : Int) (ys : List Int) : dNotIn (.int x) (.tup (ys.map D.int)) = some (.fro (.bl (!decide (x ∈ ys)))) := by
  have : eqOk 49 (.int x) = true := rfl
  simp only [dNotIn, isIn, eqOk_ints, this, any_int, Bool.and_self, if_true, Option.map_some]
theorem dNotIn_intsL (x : Int) (ys : List Int) : dNotIn (.int x) (.lst (ys.map D.int)) = some (.fro (.bl (!decide (x ∈ ys)))) := by
  have : eqOk 49 (.int x) = true := rfl
  simp only [dNotIn, isIn, eqOk_ints, this, any_int, Bool.and_self, if_true, Option.map_some]
@[simp] theorem dEq_int (i j : Int) : dEq (.int i) (.int j) = some (.fro (.bl (decide (i = j)))) := by
  have h : ∀ i, eqOk 50 (.int i) = true := fun i => rfl
  simp [dEq, h]
@[simp] theorem dNe_int (i j : Int) : dNe (.int i) (.int j) = some (.fro (.bl (!decide (i = j)))) := by
  have h : ∀ i, eqOk 50 (.int i) = true := fun i => rfl
  simp [dNe, h]
@[simp] theorem dEq_bl (i j : Bool) : dEq (.bl i) (.bl j) = some (.fro (.bl (decide (i = j)))) := by
  have h : ∀ i, eqOk 50 (.bl i) = true := fun i => rfl
  simp [dEq, h]
@[simp] theorem dNe_bl (i j : Bool) : dNe (.bl i) (.bl j) = some (.fro (.bl (!decide (i = j)))) := by
  have h : ∀ i, eqOk 50 (.bl i) = true := fun i => rfl
  simp [dNe, h]
theorem dIx_tup {ds : List D} {i : Nat} {d : D} (h : ds[i]? = some d) : dIx (.tup ds) (.int (i : Int)) = some (.fro d) := by
  have hl : i < ds.length := (List.getElem?_eq_some_iff.mp h).1
  have : ixN ds.length (i : Int) = some i := by
    unfold ixN
    rw [if_pos (by omega), if_pos (by omega), Int.toNat_natCast]
  simp only [dIx, atI, this, Option.bind_some, h, Option.map_some]
theorem dIx_lst {ds : List D} {i : Nat} {d : D} (h : ds[i]? = some d) : dIx (.lst ds) (.int (i : Int)) = some (.fro d) := dIx_tup h
theorem keyToksAll_ints : ∀ xs ys : List Int, PySem.W.keyToksAll (pyAll (xs.map D.int)) = PySem.W.keyToksAll (pyAll (ys.map D.int)) → xs = ys
  | [], [], _ => rfl
  | x :: xs, [], h => by simp [pyAll, py, PySem.W.keyToksAll] at h
  | [], y :: ys, h => by simp [pyAll, py, PySem.W.keyToksAll] at h
  | x :: xs, y :: ys, h => by
    simp [pyAll, py, PySem.W.keyToksAll, PySem.W.keyToks] at h
    rw [h.1, keyToksAll_ints xs ys h.2]
def tN (xs : List Int) : D := .tup (xs.map D.int)
theorem dle_total : PySem.W.TotalLe dle := PySem.W.sortLe_total (PyProof.Rows.listOrd PyProof.Rows.itemOrd) false fun b => PySem.W.keyToks (py b)
theorem dle_anti {xs ys : List Int} (h1 : dle (tN xs) (tN ys) = true) (h2 : dle (tN ys) (tN xs) = true) : xs = ys := by
  have e1 : dle (tN xs) (tN ys) = !(PyProof.Rows.listOrd PyProof.Rows.itemOrd).blt (PySem.W.keyToks (py (tN ys))) (PySem.W.keyToks (py (tN xs))) := rfl
  have e2 : dle (tN ys) (tN xs) = !(PyProof.Rows.listOrd PyProof.Rows.itemOrd).blt (PySem.W.keyToks (py (tN xs))) (PySem.W.keyToks (py (tN ys))) := rfl
  rw [e1, Bool.not_eq_true'] at h1
  rw [e2, Bool.not_eq_true'] at h2
  have := (PyProof.Rows.listOrd PyProof.Rows.itemOrd).total _ _ h2 h1
  exact keyToksAll_ints xs ys (by simpa [tN, py, PySem.W.keyToks] using this)
theorem sort_eq {xs ys : List (List Int)} (h : xs.Perm ys) : (xs.map tN).mergeSort dle = (ys.map tN).mergeSort dle := by
  have tr : ∀ a b c : D, dle a b = true → dle b c = true → dle a c = true := fun a b c => dle_total.trans a b c
  have to : ∀ a b : D, (dle a b || dle b a) = true := fun a b => by
    rw [Bool.or_eq_true]; exact dle_total.total a b
  refine List.Perm.eq_of_pairwise (le := fun a b => dle a b = true) (fun a b ha hb h1 h2 => ?_) (List.pairwise_mergeSort tr to _) (List.pairwise_mergeSort tr to _) (((List.mergeSort_perm _ _).trans (h.map _)).trans (List.mergeSort_perm _ _).symm)
  rw [List.mem_mergeSort] at ha hb
  obtain ⟨x, _, rfl⟩ := List.mem_map.mp ha
  obtain ⟨y, _, rfl⟩ := List.mem_map.mp hb
  rw [dle_anti h1 h2]
theorem isNeTup_tN {x : List Int} (h : x ≠ []) : isNeTup (tN x) = true := by
  cases x with
  | nil => exact absurd rfl h
  | cons => rfl
theorem alike_ints : ∀ xs ys : List Int, PySem.W.alikeAll (pyAll (xs.map D.int)) (pyAll (ys.map D.int)) = true
  | [], _ => by simp [pyAll, PySem.W.alikeAll]
  | _ :: _, [] => by simp [pyAll, PySem.W.alikeAll]
  | x :: xs, y :: ys => by simp [pyAll, py, PySem.W.alikeAll, PySem.W.alike, alike_ints xs ys]
theorem sortOk_tN {xs : List (List Int)} (hl : xs.length ≤ 1000000) (h : ∀ x ∈ xs, x ≠ []) : sortOk (xs.map tN) = true := by
  unfold sortOk
  simp only [Bool.and_eq_true, Bool.or_eq_true, decide_eq_true_eq, List.length_map, List.all_eq_true, List.mem_map]
  refine ⟨⟨⟨hl, ?_⟩, ?_⟩, .inl ?_⟩
  · rintro _ ⟨x, _, rfl⟩
    exact eqOk_ints 39 x
  · rintro _ ⟨x, _, rfl⟩ _ ⟨y, _, rfl⟩
    simp [tN, py, PySem.W.alike, alike_ints]
  · rintro _ ⟨x, hx, rfl⟩
    exact isNeTup_tN (h x hx)
theorem dSorted_tN {xs : List (List Int)} (hl : xs.length ≤ 1000000) (h : ∀ x ∈ xs, x ≠ []) : dSorted [.lst (xs.map tN)] = some (.own (.lst ((xs.map tN).mergeSort dle))) := by
  simp only [dSorted, sortOk_tN hl h, if_true]
theorem lcGo_map {α : Type} (inj : α → D) (p : α → Bool) (v : α → D) {t : Tgt} {c : Ev Bool} {e : Ev RV} {env : List Slot} {st : List Cell} : ∀ xs : List α,
    (∀ x ∈ xs, ∃ s1 s2, t (inj x) ⟨env, st⟩ = some s1 ∧ c s1 = some (p x, s2) ∧ s2.st = st ∧ (p x = true → ∃ r s3, e s2 = some (r, s3) ∧ r.d = v x ∧ s3.st = st)) →
    evLcGo t c e env (xs.map inj) st = some ((xs.filter p).map v, st)
  | [], _ => rfl
  | x :: xs, h => by
    obtain ⟨s1, s2, h1, h2, h3, h4⟩ := h x (.head _)
    have ih := lcGo_map inj p v xs fun y hy => h y (.tail _ hy)
    show (t (inj x) ⟨env, st⟩).bind _ = _
    rw [h1, Option.bind_some, h2, Option.bind_some]
    cases hp : p x with
    | false =>
      rw [if_neg (by simp), h3, ih, List.filter_cons_of_neg (by simp [hp])]
    | true =>
      obtain ⟨r, s3, h5, h6, h7⟩ := h4 hp
      rw [if_pos rfl, h5, Option.bind_some, h7, ih, List.filter_cons_of_pos (by simp [hp])]
      simp [h6]
/-- a comprehension whose parts change no cell -/
theorem lc_map {α : Type} (inj : α → D) (p : α → Bool) (v : α → D) (xs : List α) {it : Ev (List D)} {cap vs : List Nat} {t : Tgt} {c : Ev Bool} {e : Ev RV} {s s' : Sg}
    (hi : it s = some (xs.map inj, s')) (hl : xs.length ≤ 1000000)
    (h : ∀ x ∈ xs, ∃ s1 s2, t (inj x) ⟨blkEnv vs (freezeCap cap s').env, s'.st⟩ = some s1 ∧ c s1 = some (p x, s2) ∧ s2.st = s'.st ∧ (p x = true → ∃ r s3, e s2 = some (r, s3) ∧ r.d = v x ∧ s3.st = s'.st)) :
    evLc it cap vs t c e s = some (.own (.lst ((xs.filter p).map v)), ⟨(freezeCap cap s').env, s'.st⟩) := by
  unfold evLc
  rw [hi, Option.bind_some, if_pos (by simpa using hl), lcGo_map inj p v xs h]
  rfl
/-- a comprehension whose parts change the cells -/
theorem lcGo_st {α β : Type} (inj : α → D) (out : β → D) (R : α → β → Prop) (J : Nat → List Cell → Prop) {t : Tgt} {c : Ev Bool} {e : Ev RV} {env : List Slot} : ∀ (xs : List α) (k : Nat) (st : List Cell), J k st →
    (∀ (i : Nat) (x : α) st, xs[i]? = some x → J (k + i) st → ∃ s1 s2 r s3 y, t (inj x) ⟨env, st⟩ = some s1 ∧ c s1 = some (true, s2) ∧ e s2 = some (r, s3) ∧ r.d = out y ∧ R x y ∧ J (k + i + 1) s3.st) →
    ∃ (ys : List β) (st' : List Cell), evLcGo t c e env (xs.map inj) st = some (ys.map out, st') ∧ ys.length = xs.length ∧ (∀ (i : Nat) (x : α) (y : β), xs[i]? = some x → ys[i]? = some y → R x y) ∧ J (k + xs.length) st'
  | [], k, st, h0, _ => ⟨[], st, rfl, rfl, fun i x y h => by simp at h, h0⟩
  | x :: xs, k, st, h0, h => by
    obtain ⟨s1, s2, r, s3, y, h1, h2, h3, h4, h5, h6⟩ := h 0 x st rfl h0
    obtain ⟨ys, st', g1, g2, g3, g4⟩ := lcGo_st inj out R J xs (k + 1) s3.st h6 fun i z st hz hj => by
      rw [show k + 1 + i = k + (i + 1) by omega] at hj ⊢
      exact h (i + 1) z st hz hj
    refine ⟨y :: ys, st', ?_, by simp [g2], fun i a b ha hb => ?_, by rw [List.length_cons, show k + (xs.length + 1) = k + 1 + xs.length by omega]; exact g4⟩
    · show (t (inj x) ⟨env, st⟩).bind _ = _
      rw [h1, Option.bind_some, h2, Option.bind_some, if_pos rfl, h3, Option.bind_some, g1]
      simp [h4]
    · cases i with
      | zero => simp at ha hb; subst ha hb; exact h5
      | succ i => exact g3 i a b (by simpa using ha) (by simpa using hb)
theorem lc_st {α β : Type} (inj : α → D) (out : β → D) (R : α → β → Prop) (J : Nat → List Cell → Prop) (xs : List α) {it : Ev (List D)} {cap vs : List Nat} {t : Tgt} {c : Ev Bool} {e : Ev RV} {s s' : Sg}
    (hi : it s = some (xs.map inj, s')) (hl : xs.length ≤ 1000000) (h0 : J 0 s'.st)
    (h : ∀ (i : Nat) (x : α) st, xs[i]? = some x → J i st → ∃ s1 s2 r s3 y, t (inj x) ⟨blkEnv vs (freezeCap cap s').env, st⟩ = some s1 ∧ c s1 = some (true, s2) ∧ e s2 = some (r, s3) ∧ r.d = out y ∧ R x y ∧ J (i + 1) s3.st) :
    ∃ (ys : List β) (st' : List Cell), evLc it cap vs t c e s = some (.own (.lst (ys.map out)), ⟨(freezeCap cap s').env, st'⟩) ∧ ys.length = xs.length ∧ (∀ (i : Nat) (x : α) (y : β), xs[i]? = some x → ys[i]? = some y → R x y) ∧ J xs.length st' := by
  obtain ⟨ys, st', g1, g2, g3, g4⟩ := lcGo_st inj out R J xs 0 s'.st h0 fun i x st hx hj => by
    rw [Nat.zero_add] at hj ⊢
    exact h i x st hx hj
  refine ⟨ys, st', ?_, g2, g3, by simpa using g4⟩
  unfold evLc
  rw [hi, Option.bind_some, if_pos (by simpa using hl), g1]
  rfl
/-- a loop that runs through -/
theorem for_inv {t : Tgt} {b : Ev Out} (I : Nat → Sg → Prop) (ds : List D) : ∀ (k : Nat) (es : List D) (s : Sg), ds.drop k = es → I k s →
    (∀ i d s, ds[i]? = some d → I i s → ∃ s1 o s2, t d s = some s1 ∧ b s1 = some (o, s2) ∧ (o = .nx ∨ o = .ct) ∧ I (i + 1) s2) → ∃ s', evFor t b es s = some (.nx, s') ∧ I (k + es.length) s'
  | k, [], s, hd, h0, hs => ⟨s, rfl, h0⟩
  | k, e :: es, s, hd, h0, hs => by
    have hk : ds[k]? = some e := by
      rw [← List.head?_drop, hd]; rfl
    obtain ⟨s1, o, s2, h1, h2, h3, h4⟩ := hs k e s hk h0
    have hd' : ds.drop (k + 1) = es := by rw [← List.tail_drop, hd]; rfl
    obtain ⟨s', h5, h6⟩ := for_inv I ds (k + 1) es s2 hd' h4 hs
    refine ⟨s', ?_, by rw [List.length_cons]; rw [show k + (es.length + 1) = k + 1 + es.length by omega]; exact h6⟩
    show (t e s).bind _ = _
    rw [h1, Option.bind_some, h2, Option.bind_some]
    rcases h3 with rfl | rfl <;> exact h5
theorem forS_inv {it : Ev (List D)} {t : Tgt} {b : Ev Out} (I : Nat → Sg → Prop) {ds : List D} {s s0 : Sg} (hi : it s = some (ds, s0)) (h0 : I 0 s0)
    (hs : ∀ i d s, ds[i]? = some d → I i s → ∃ s1 o s2, t d s = some s1 ∧ b s1 = some (o, s2) ∧ (o = .nx ∨ o = .ct) ∧ I (i + 1) s2) : ∃ s', evForS it t b s = some (.nx, s') ∧ I ds.length s' := by
  obtain ⟨s', h1, h2⟩ := for_inv I ds 0 ds s0 rfl h0 hs
  refine ⟨s', ?_, by simpa using h2⟩
  unfold evForS
  rw [hi, Option.bind_some]
  exact h1
end Pv

namespace Pv
open PySem PySem.Spec L2
local instance noTabs15_1 : TabL := ⟨[]⟩
def kPair {α : Type} (s : Sg) (x : α) : α × Sg := (x, s)
@[simp] theorem kPair_ap {α : Type} (s : Sg) (x : α) : kPair s x = (x, s) := rfl
def kVal (p : RV × Sg) : Bor × Sg := (.val p.1.d, p.2)
@[simp] theorem kVal_fro (d : D) (s : Sg) : kVal (.fro d, s) = (.val d, s) := rfl
@[simp] theorem kVal_own (d : D) (s : Sg) : kVal (.own d, s) = (.val d, s) := rfl
@[simp] theorem evV_ap (a : Ev RV) (s : Sg) : evV a s = (a s).map kVal := rfl
@[simp] theorem evC_ap (d : D) (s : Sg) : evC d s = some (.fro d, s) := rfl
def kSlot (i : Nat) (s : Sg) : Option Slot → Option (Bor × Sg)
  | some .non => none
  | some _ => some (.slot i, s)
  | none => none
@[simp] theorem kSlot_fro (i : Nat) (s : Sg) (d : D) : kSlot i s (some (.fro d)) = some (.slot i, s) := rfl
@[simp] theorem kSlot_own (i : Nat) (s : Sg) (d : D) : kSlot i s (some (.own d)) = some (.slot i, s) := rfl
@[simp] theorem evSlot_ap (i : Nat) (s : Sg) : evSlot i s = kSlot i s (s.env[i]?) := rfl
def kName (i : Nat) (s : Sg) : Option Slot → Option (RV × Sg)
  | some (.fro d) => some (.fro d, s)
  | some (.own d) => some (.fro d, { s with env := s.env.set i (.fro d) })
  | _ => none
@[simp] theorem kName_fro (i : Nat) (s : Sg) (d : D) : kName i s (some (.fro d)) = some (.fro d, s) := rfl
@[simp] theorem kName_own (i : Nat) (s : Sg) (d : D) : kName i s (some (.own d)) = some (.fro d, { s with env := s.env.set i (.fro d) }) := rfl
@[simp] theorem evName_ap (i : Nat) (s : Sg) : evName i s = kName i s (s.env[i]?) := rfl
def kRetOwn (i : Nat) (s : Sg) : Option Slot → Option (Out × Sg)
  | some (.own d) => some (.rt (.own d), { s with env := s.env.set i .non })
  | some (.fro d) => some (.rt (.fro d), s)
  | _ => none
@[simp] theorem kRetOwn_fro (i : Nat) (s : Sg) (d : D) : kRetOwn i s (some (.fro d)) = some (.rt (.fro d), s) := rfl
@[simp] theorem kRetOwn_own (i : Nat) (s : Sg) (d : D) : kRetOwn i s (some (.own d)) = some (.rt (.own d), { s with env := s.env.set i .non }) := rfl
@[simp] theorem evRetOwn_ap (i : Nat) (s : Sg) : evRetOwn i s = kRetOwn i s (s.env[i]?) := rfl
def kFetch (s : Sg) : Option Slot → Option D
  | some (.fro d) => some (deref s d)
  | some (.own d) => some d
  | _ => none
@[simp] theorem kFetch_fro (s : Sg) (d : D) : kFetch s (some (.fro d)) = some (deref s d) := rfl
@[simp] theorem kFetch_own (s : Sg) (d : D) : kFetch s (some (.own d)) = some d := rfl
@[simp] theorem fetch_val (s : Sg) (d : D) : fetch s (.val d) = some (deref s d) := rfl
@[simp] theorem fetch_slot (s : Sg) (i : Nat) : fetch s (.slot i) = kFetch s (s.env[i]?) := rfl
def k2d (f : Op2) (s : Sg) (dx dy : D) : Option (RV × Sg) := (f dx dy).map (kPair s)
@[simp] theorem k2d_ap (f : Op2) (s : Sg) (dx dy : D) : k2d f s dx dy = (f dx dy).map (kPair s) := rfl
def k2c (f : Op2) (s : Sg) (y : Bor) (dx : D) : Option (RV × Sg) := (fetch s y).bind (k2d f s dx)
@[simp] theorem k2c_ap (f : Op2) (s : Sg) (y : Bor) (dx : D) : k2c f s y dx = (fetch s y).bind (k2d f s dx) := rfl
def k2b (f : Op2) (x : Bor) (q : Bor × Sg) : Option (RV × Sg) := (fetch q.2 x).bind (k2c f q.2 q.1)
@[simp] theorem k2b_ap (f : Op2) (x y : Bor) (s : Sg) : k2b f x (y, s) = (fetch s x).bind (k2c f s y) := rfl
def k2a (f : Op2) (b : Ev Bor) (p : Bor × Sg) : Option (RV × Sg) := (b p.2).bind (k2b f p.1)
@[simp] theorem k2a_ap (f : Op2) (b : Ev Bor) (x : Bor) (s : Sg) : k2a f b (x, s) = (b s).bind (k2b f x) := rfl
@[simp] theorem ev2_ap (f : Op2) (a b : Ev Bor) (s : Sg) : ev2 f a b s = (a s).bind (k2a f b) := rfl
def kFs (s : Sg) (bs : List Bor) (d : D) : Option (List D) := (fetchAll s bs).map (List.cons d)
@[simp] theorem kFs_ap (s : Sg) (bs : List Bor) (d : D) : kFs s bs d = (fetchAll s bs).map (List.cons d) := rfl
@[simp] theorem fetchAll_nil (s : Sg) : fetchAll s [] = some [] := rfl
@[simp] theorem fetchAll_cons (s : Sg) (b : Bor) (bs : List Bor) : fetchAll s (b :: bs) = (fetch s b).bind (kFs s bs) := rfl
def kNb (f : OpN) (s : Sg) (ds : List D) : Option (RV × Sg) := (f ds).map (kPair s)
@[simp] theorem kNb_ap (f : OpN) (s : Sg) (ds : List D) : kNb f s ds = (f ds).map (kPair s) := rfl
def kNa (f : OpN) (p : List Bor × Sg) : Option (RV × Sg) := (fetchAll p.2 p.1).bind (kNb f p.2)
@[simp] theorem kNa_ap (f : OpN) (x : List Bor) (s : Sg) : kNa f (x, s) = (fetchAll s x).bind (kNb f s) := rfl
@[simp] theorem evN_ap (f : OpN) (a : Ev (List Bor)) (s : Sg) : evN f a s = (a s).bind (kNa f) := rfl
def kCons2 (x : RV) (q : List D × Sg) : List D × Sg := (x.d :: q.1, q.2)
@[simp] theorem kCons2_ap (x : RV) (q : List D) (s : Sg) : kCons2 x (q, s) = (x.d :: q, s) := rfl
def kCons (b : Ev (List D)) (p : RV × Sg) : Option (List D × Sg) := (b p.2).map (kCons2 p.1)
@[simp] theorem kCons_ap (b : Ev (List D)) (x : RV) (s : Sg) : kCons b (x, s) = (b s).map (kCons2 x) := rfl
@[simp] theorem evCons_ap (a : Ev RV) (b : Ev (List D)) (s : Sg) : evCons a b s = (a s).bind (kCons b) := rfl
@[simp] theorem evNil_ap (s : Sg) : evNil s = some ([], s) := rfl
def kConsB2 (x : Bor) (q : List Bor × Sg) : List Bor × Sg := (x :: q.1, q.2)
@[simp] theorem kConsB2_ap (x : Bor) (q : List Bor) (s : Sg) : kConsB2 x (q, s) = (x :: q, s) := rfl
def kConsB (b : Ev (List Bor)) (p : Bor × Sg) : Option (List Bor × Sg) := (b p.2).map (kConsB2 p.1)
@[simp] theorem kConsB_ap (b : Ev (List Bor)) (x : Bor) (s : Sg) : kConsB b (x, s) = (b s).map (kConsB2 x) := rfl
@[simp] theorem evConsB_ap (a : Ev Bor) (b : Ev (List Bor)) (s : Sg) : evConsB a b s = (a s).bind (kConsB b) := rfl
@[simp] theorem evNilB_ap (s : Sg) : evNilB s = some ([], s) := rfl
def kTup (p : List D × Sg) : Option (RV × Sg) := if p.1.length ≤ 1000 then some (.fro (.tup p.1), p.2) else none
@[simp] theorem kTup_ap (x : List D) (s : Sg) : kTup (x, s) = if x.length ≤ 1000 then some (.fro (.tup x), s) else none := rfl
@[simp] theorem evTup_ap (a : Ev (List D)) (s : Sg) : evTup a s = (a s).bind kTup := rfl
def kLst (p : List D × Sg) : Option (RV × Sg) := if p.1.length ≤ 1000 then some (.own (.lst p.1), p.2) else none
@[simp] theorem kLst_ap (x : List D) (s : Sg) : kLst (x, s) = if x.length ≤ 1000 then some (.own (.lst x), s) else none := rfl
@[simp] theorem evLst_ap (a : Ev (List D)) (s : Sg) : evLst a s = (a s).bind kLst := rfl
def kCall2 (s : Sg) (q : RV × List Cell) : RV × Sg := (q.1, { s with st := q.2 })
@[simp] theorem kCall2_ap (s : Sg) (r : RV) (st : List Cell) : kCall2 s (r, st) = (r, { s with st := st }) := rfl
def kCall (m : Fm) (p : List D × Sg) : Option (RV × Sg) := (m p.1 p.2.st).map (kCall2 p.2)
@[simp] theorem kCall_ap (m : Fm) (x : List D) (s : Sg) : kCall m (x, s) = (m x s.st).map (kCall2 s) := rfl
@[simp] theorem evCall_ap (m : Fm) (a : Ev (List D)) (s : Sg) : evCall m a s = (a s).bind (kCall m) := rfl
def kSeq (b : Ev Out) (p : Out × Sg) : Option (Out × Sg) := match p.1 with
  | .nx => b p.2
  | o => some (o, p.2)
@[simp] theorem kSeq_nx (b : Ev Out) (s : Sg) : kSeq b (.nx, s) = b s := rfl
@[simp] theorem kSeq_rt (b : Ev Out) (s : Sg) (r : RV) : kSeq b (.rt r, s) = some (.rt r, s) := rfl
@[simp] theorem kSeq_bk (b : Ev Out) (s : Sg) : kSeq b (.bk, s) = some (.bk, s) := rfl
@[simp] theorem kSeq_ct (b : Ev Out) (s : Sg) : kSeq b (.ct, s) = some (.ct, s) := rfl
@[simp] theorem evSeq_ap (a b : Ev Out) (s : Sg) : evSeq a b s = (a s).bind (kSeq b) := rfl
def kSet (i : Nat) (p : RV × Sg) : Out × Sg := (.nx, { p.2 with env := p.2.env.set i p.1.slot })
@[simp] theorem kSet_fro (i : Nat) (d : D) (s : Sg) : kSet i (.fro d, s) = (.nx, { s with env := s.env.set i (.fro d) }) := rfl
@[simp] theorem kSet_own (i : Nat) (d : D) (s : Sg) : kSet i (.own d, s) = (.nx, { s with env := s.env.set i (.own d) }) := rfl
@[simp] theorem evSet_ap (i : Nat) (a : Ev RV) (s : Sg) : evSet i a s = (a s).map (kSet i) := rfl
def kSetC (i : Nat) (p : RV × Sg) : Option (Out × Sg) := match p.1 with
  | .own d => some (.nx, ⟨p.2.env.set i (.fro (.hd p.2.st.length)), p.2.st ++ [.d d]⟩)
  | .fro _ => none
@[simp] theorem kSetC_own (i : Nat) (d : D) (s : Sg) : kSetC i (.own d, s) = some (.nx, ⟨s.env.set i (.fro (.hd s.st.length)), s.st ++ [.d d]⟩) := rfl
@[simp] theorem evSetC_ap (i : Nat) (a : Ev RV) (s : Sg) : evSetC i a s = (a s).bind (kSetC i) := rfl
def kAsg2 (s : Sg) : Out × Sg := (.nx, s)
@[simp] theorem kAsg2_ap (s : Sg) : kAsg2 s = (.nx, s) := rfl
def kAsg (t : Tgt) (p : RV × Sg) : Option (Out × Sg) := (t p.1.d p.2).map kAsg2
@[simp] theorem kAsg_ap (t : Tgt) (x : RV) (s : Sg) : kAsg t (x, s) = (t x.d s).map kAsg2 := rfl
@[simp] theorem evAsg_ap (t : Tgt) (a : Ev RV) (s : Sg) : evAsg t a s = (a s).bind (kAsg t) := rfl
def kPar2 (i j : Nat) (x : RV) (q : RV × Sg) : Out × Sg := (.nx, { q.2 with env := (q.2.env.set i x.slot).set j q.1.slot })
@[simp] theorem kPar2_ap (i j : Nat) (x y : RV) (s : Sg) : kPar2 i j x (y, s) = (.nx, { s with env := (s.env.set i x.slot).set j y.slot }) := rfl
def kPar (i j : Nat) (b : Ev RV) (p : RV × Sg) : Option (Out × Sg) := (b p.2).map (kPar2 i j p.1)
@[simp] theorem kPar_ap (i j : Nat) (b : Ev RV) (x : RV) (s : Sg) : kPar i j b (x, s) = (b s).map (kPar2 i j x) := rfl
@[simp] theorem evPar_ap (i j : Nat) (a b : Ev RV) (s : Sg) : evPar i j a b s = (a s).bind (kPar i j b) := rfl
def kIf {α : Type} (a b : Ev α) (p : Bool × Sg) : Option (α × Sg) := if p.1 then a p.2 else b p.2
@[simp] theorem kIf_t {α : Type} (a b : Ev α) (s : Sg) : kIf a b (true, s) = a s := rfl
@[simp] theorem kIf_f {α : Type} (a b : Ev α) (s : Sg) : kIf a b (false, s) = b s := rfl
@[simp] theorem evIf_ap (c : Ev Bool) (a b : Ev Out) (s : Sg) : evIf c a b s = (c s).bind (kIf a b) := rfl
@[simp] theorem evIte_ap (c : Ev Bool) (a b : Ev RV) (s : Sg) : evIte c a b s = (c s).bind (kIf a b) := rfl
def kB (p : RV × Sg) : Option (Bool × Sg) := match p.1 with
  | .fro (.bl b) => some (b, p.2)
  | _ => none
@[simp] theorem kB_ap (b : Bool) (s : Sg) : kB (.fro (.bl b), s) = some (b, s) := rfl
@[simp] theorem evB_ap (a : Ev RV) (s : Sg) : evB a s = (a s).bind kB := rfl
def kTru2 (s : Sg) (d : D) : Option (Bool × Sg) := (tru d).map (kPair s)
@[simp] theorem kTru2_ap (s : Sg) (d : D) : kTru2 s d = (tru d).map (kPair s) := rfl
def kTru (p : Bor × Sg) : Option (Bool × Sg) := (fetch p.2 p.1).bind (kTru2 p.2)
@[simp] theorem kTru_ap (x : Bor) (s : Sg) : kTru (x, s) = (fetch s x).bind (kTru2 s) := rfl
@[simp] theorem evTru_ap (a : Ev Bor) (s : Sg) : evTru a s = (a s).bind kTru := rfl
@[simp] theorem evNo_ap (s : Sg) : evNo s = some (none, s) := rfl
def kPt2 (s : Sg) : Option D → Option (Option Int × Sg)
  | some (.int i) => some (some i, s)
  | _ => none
@[simp] theorem kPt2_ap (s : Sg) (i : Int) : kPt2 s (some (.int i)) = some (some i, s) := rfl
def kPt (p : Bor × Sg) : Option (Option Int × Sg) := kPt2 p.2 (fetch p.2 p.1)
@[simp] theorem kPt_ap (x : Bor) (s : Sg) : kPt (x, s) = kPt2 s (fetch s x) := rfl
@[simp] theorem evPt_ap (a : Ev Bor) (s : Sg) : evPt a s = (a s).bind kPt := rfl
def kSl3 (f : Sl) (l h : Option Int) (s : Sg) (d : D) : Option (RV × Sg) := (f d l h).map (kPair s)
@[simp] theorem kSl3_ap (f : Sl) (l h : Option Int) (s : Sg) (d : D) : kSl3 f l h s d = (f d l h).map (kPair s) := rfl
def kSl2 (f : Sl) (x : Bor) (l : Option Int) (p : Option Int × Sg) : Option (RV × Sg) := (fetch p.2 x).bind (kSl3 f l p.1 p.2)
@[simp] theorem kSl2_ap (f : Sl) (x : Bor) (l h : Option Int) (s : Sg) : kSl2 f x l (h, s) = (fetch s x).bind (kSl3 f l h s) := rfl
def kSl1 (f : Sl) (x : Bor) (h : Ev (Option Int)) (p : Option Int × Sg) : Option (RV × Sg) := (h p.2).bind (kSl2 f x p.1)
@[simp] theorem kSl1_ap (f : Sl) (x : Bor) (h : Ev (Option Int)) (l : Option Int) (s : Sg) : kSl1 f x h (l, s) = (h s).bind (kSl2 f x l) := rfl
def kSl0 (f : Sl) (l h : Ev (Option Int)) (p : Bor × Sg) : Option (RV × Sg) := (l p.2).bind (kSl1 f p.1 h)
@[simp] theorem kSl0_ap (f : Sl) (l h : Ev (Option Int)) (x : Bor) (s : Sg) : kSl0 f l h (x, s) = (l s).bind (kSl1 f x h) := rfl
@[simp] theorem evSl_ap (f : Sl) (a : Ev Bor) (l h : Ev (Option Int)) (s : Sg) : evSl f a l h s = (a s).bind (kSl0 f l h) := rfl
def kRng1 (p : List D × Sg) : Option (List D × Sg) := match p.1 with
  | [.int j] => if small62 j then some (upTo 0 j.toNat, p.2) else none
  | _ => none
@[simp] theorem kRng1_ap (j : Int) (s : Sg) : kRng1 ([.int j], s) = if small62 j then some (upTo 0 j.toNat, s) else none := rfl
@[simp] theorem evRng1_ap (a : Ev (List D)) (s : Sg) : evRng1 a s = (a s).bind kRng1 := rfl
def kRng2 (p : List D × Sg) : Option (List D × Sg) := match p.1 with
  | [.int i, .int j] => if small62 i && small62 j then some (upTo i (j - i).toNat, p.2) else none
  | _ => none
@[simp] theorem kRng2_ap (i j : Int) (s : Sg) : kRng2 ([.int i, .int j], s) = if small62 i && small62 j then some (upTo i (j - i).toNat, s) else none := rfl
@[simp] theorem evRng2_ap (a : Ev (List D)) (s : Sg) : evRng2 a s = (a s).bind kRng2 := rfl
def kItS (p : RV × Sg) : Option (List D × Sg) := (dSeq p.1.d).map (kPair p.2)
@[simp] theorem kItS_ap (x : RV) (s : Sg) : kItS (x, s) = (dSeq x.d).map (kPair s) := rfl
@[simp] theorem evItS_ap (a : Ev RV) (s : Sg) : evItS a s = (a s).bind kItS := rfl
def kArgs (f : List D → Option (List D)) (p : List D × Sg) : Option (List D × Sg) := (f p.1).map (kPair p.2)
@[simp] theorem kArgs_ap (f : List D → Option (List D)) (x : List D) (s : Sg) : kArgs f (x, s) = (f x).map (kPair s) := rfl
@[simp] theorem evArgs_ap (f : List D → Option (List D)) (a : Ev (List D)) (s : Sg) : evArgs f a s = (a s).bind (kArgs f) := rfl
def kDrop (p : RV × Sg) : Out × Sg := (.nx, p.2)
@[simp] theorem kDrop_ap (x : RV) (s : Sg) : kDrop (x, s) = (.nx, s) := rfl
@[simp] theorem evDrop_ap (a : Ev RV) (s : Sg) : evDrop a s = (a s).map kDrop := rfl
def kRet (p : RV × Sg) : Out × Sg := (.rt p.1, p.2)
@[simp] theorem kRet_ap (x : RV) (s : Sg) : kRet (x, s) = (.rt x, s) := rfl
@[simp] theorem evRet_ap (a : Ev RV) (s : Sg) : evRet a s = (a s).map kRet := rfl
@[simp] theorem evRetN_ap (s : Sg) : evRetN s = some (.rt (.fro .non), s) := rfl
@[simp] theorem evPass_ap (s : Sg) : evPass s = some (.nx, s) := rfl
@[simp] theorem evBreak_ap (s : Sg) : evBreak s = some (.bk, s) := rfl
@[simp] theorem evCont_ap (s : Sg) : evCont s = some (.ct, s) := rfl
@[simp] theorem evYes_ap (s : Sg) : evYes s = some (true, s) := rfl
@[simp] theorem evDNew_ap (t : Bool) (s : Sg) : evDNew t s = some (.own (.dct t []), s) := rfl
def kAnd (b : Ev Bool) (p : Bool × Sg) : Option (Bool × Sg) := if p.1 then b p.2 else some (false, p.2)
@[simp] theorem kAnd_t (b : Ev Bool) (s : Sg) : kAnd b (true, s) = b s := rfl
@[simp] theorem kAnd_f (b : Ev Bool) (s : Sg) : kAnd b (false, s) = some (false, s) := rfl
@[simp] theorem evAnd_ap (a b : Ev Bool) (s : Sg) : evAnd a b s = (a s).bind (kAnd b) := rfl
def kOr (b : Ev Bool) (p : Bool × Sg) : Option (Bool × Sg) := if p.1 then some (true, p.2) else b p.2
@[simp] theorem kOr_t (b : Ev Bool) (s : Sg) : kOr b (true, s) = some (true, s) := rfl
@[simp] theorem kOr_f (b : Ev Bool) (s : Sg) : kOr b (false, s) = b s := rfl
@[simp] theorem evOr_ap (a b : Ev Bool) (s : Sg) : evOr a b s = (a s).bind (kOr b) := rfl
def kNot (p : Bool × Sg) : Bool × Sg := (!p.1, p.2)
@[simp] theorem kNot_ap (b : Bool) (s : Sg) : kNot (b, s) = (!b, s) := rfl
@[simp] theorem evNot_ap (a : Ev Bool) (s : Sg) : evNot a s = (a s).map kNot := rfl
def kVand (b : Ev RV) (p : RV × Sg) : Option (RV × Sg) := match p.1 with
  | .fro (.bl true) => b p.2
  | .fro (.bl false) => some (.fro (.bl false), p.2)
  | _ => none
@[simp] theorem kVand_t (b : Ev RV) (s : Sg) : kVand b (.fro (.bl true), s) = b s := rfl
@[simp] theorem kVand_f (b : Ev RV) (s : Sg) : kVand b (.fro (.bl false), s) = some (.fro (.bl false), s) := rfl
@[simp] theorem evVand_ap (a b : Ev RV) (s : Sg) : evVand a b s = (a s).bind (kVand b) := rfl
def kVor (b : Ev RV) (p : RV × Sg) : Option (RV × Sg) := match p.1 with
  | .fro (.bl false) => b p.2
  | .fro (.bl true) => some (.fro (.bl true), p.2)
  | _ => none
@[simp] theorem kVor_t (b : Ev RV) (s : Sg) : kVor b (.fro (.bl true), s) = some (.fro (.bl true), s) := rfl
@[simp] theorem kVor_f (b : Ev RV) (s : Sg) : kVor b (.fro (.bl false), s) = b s := rfl
@[simp] theorem evVor_ap (a b : Ev RV) (s : Sg) : evVor a b s = (a s).bind (kVor b) := rfl
def kVnot (p : RV × Sg) : Option (RV × Sg) := match p.1 with
  | .fro (.bl b) => some (.fro (.bl (!b)), p.2)
  | _ => none
@[simp] theorem kVnot_ap (b : Bool) (s : Sg) : kVnot (.fro (.bl b), s) = some (.fro (.bl (!b)), s) := rfl
@[simp] theorem evVnot_ap (a : Ev RV) (s : Sg) : evVnot a s = (a s).bind kVnot := rfl
def kNeg2 (s : Sg) : Option D → Option (RV × Sg)
  | some (.int i) => some (.fro (.int (-i)), s)
  | _ => none
@[simp] theorem kNeg2_ap (s : Sg) (i : Int) : kNeg2 s (some (.int i)) = some (.fro (.int (-i)), s) := rfl
def kNeg (p : Bor × Sg) : Option (RV × Sg) := kNeg2 p.2 (fetch p.2 p.1)
@[simp] theorem kNeg_ap (x : Bor) (s : Sg) : kNeg (x, s) = kNeg2 s (fetch s x) := rfl
@[simp] theorem evNeg_ap (a : Ev Bor) (s : Sg) : evNeg a s = (a s).bind kNeg := rfl
def kIsi2 (T : String) (s : Sg) (d : D) : Option (RV × Sg) := (isiB T d).map (kPair s)
@[simp] theorem kIsi2_ap (T : String) (s : Sg) (d : D) : kIsi2 T s d = (isiB T d).map (kPair s) := rfl
def kIsi (T : String) (p : Bor × Sg) : Option (RV × Sg) := (fetch p.2 p.1).bind (kIsi2 T p.2)
@[simp] theorem kIsi_ap (T : String) (x : Bor) (s : Sg) : kIsi T (x, s) = (fetch s x).bind (kIsi2 T s) := rfl
@[simp] theorem evIsi_ap (T : String) (a : Ev Bor) (s : Sg) : evIsi T a s = (a s).bind (kIsi T) := rfl
def kIsis2 (T : List String) (s : Sg) (d : D) : Option (RV × Sg) := (isiBs T d).map (kPair s)
@[simp] theorem kIsis2_ap (T : List String) (s : Sg) (d : D) : kIsis2 T s d = (isiBs T d).map (kPair s) := rfl
def kIsis (T : List String) (p : Bor × Sg) : Option (RV × Sg) := (fetch p.2 p.1).bind (kIsis2 T p.2)
@[simp] theorem kIsis_ap (T : List String) (x : Bor) (s : Sg) : kIsis T (x, s) = (fetch s x).bind (kIsis2 T s) := rfl
@[simp] theorem evIsis_ap (T : List String) (a : Ev Bor) (s : Sg) : evIsis T a s = (a s).bind (kIsis T) := rfl
def kOwn (st : List Cell) : Option Slot → Option D
  | some (.own d) => some d
  | some (.fro (.hd n)) => match st[n]? with
    | some (.d d) => some d
    | _ => none
  | _ => none
def kCell : Option Cell → Option D
  | some (.d d) => some d
  | _ => none
@[simp] theorem kCell_ap (d : D) : kCell (some (.d d)) = some d := rfl
@[simp] theorem kOwn_own (st : List Cell) (d : D) : kOwn st (some (.own d)) = some d := rfl
@[simp] theorem kOwn_hd (st : List Cell) (n : Nat) : kOwn st (some (.fro (.hd n))) = kCell (st[n]?) := by
  show (match st[n]? with
    | some (.d d) => some d
    | _ => none) = _
  cases st[n]? with
  | none => rfl
  | some c => cases c <;> rfl
@[simp] theorem ownAt_ap (s : Sg) (i : Nat) : ownAt s i = kOwn s.st (s.env[i]?) := rfl
def kPut (s : Sg) (i : Nat) (d : D) : Option Slot → Sg
  | some (.own _) => { s with env := s.env.set i (.own d) }
  | some (.fro (.hd n)) => { s with st := s.st.set n (.d d) }
  | _ => s
@[simp] theorem kPut_own (s : Sg) (i : Nat) (d e : D) : kPut s i d (some (.own e)) = { s with env := s.env.set i (.own d) } := rfl
@[simp] theorem kPut_hd (s : Sg) (i : Nat) (d : D) (n : Nat) : kPut s i d (some (.fro (.hd n))) = { s with st := s.st.set n (.d d) } := rfl
@[simp] theorem setAt_ap (s : Sg) (i : Nat) (d : D) : setAt s i d = kPut s i d (s.env[i]?) := rfl
def kMut3 (s : Sg) (i : Nat) (r : D × D) : RV × Sg := (.fro r.2, setAt s i r.1)
@[simp] theorem kMut3_ap (s : Sg) (i : Nat) (d r : D) : kMut3 s i (d, r) = (.fro r, setAt s i d) := rfl
def kMut2 (f : Mut1) (i : Nat) (s : Sg) (ds : List D) (d : D) : Option (RV × Sg) := (f d ds).map (kMut3 s i)
@[simp] theorem kMut2_ap (f : Mut1) (i : Nat) (s : Sg) (ds : List D) (d : D) : kMut2 f i s ds d = (f d ds).map (kMut3 s i) := rfl
def kMut1 (f : Mut1) (i : Nat) (p : List D × Sg) : Option (RV × Sg) := (ownAt p.2 i).bind (kMut2 f i p.2 p.1)
@[simp] theorem kMut1_ap (f : Mut1) (i : Nat) (x : List D) (s : Sg) : kMut1 f i (x, s) = (ownAt s i).bind (kMut2 f i s x) := rfl
def kMut (T : String) (i : Nat) (f : Mut1) (a : Ev (List D)) (s : Sg) (d0 : D) : Option (RV × Sg) := if tyD T d0 = true then (a s).bind (kMut1 f i) else none
@[simp] theorem kMut_lst (i : Nat) (f : Mut1) (a : Ev (List D)) (s : Sg) (d : List D) : kMut "list" i f a s (.lst d) = (a s).bind (kMut1 f i) := by simp [kMut, tyD]
@[simp] theorem kMut_dct (i : Nat) (f : Mut1) (a : Ev (List D)) (s : Sg) (t : Bool) (d : List (D × D)) : kMut "dict" i f a s (.dct t d) = (a s).bind (kMut1 f i) := by simp [kMut, tyD]
@[simp] theorem evMut_ap (T : String) (i : Nat) (f : Mut1) (a : Ev (List D)) (s : Sg) : evMut T i f a s = (ownAt s i).bind (kMut T i f a s) := rfl
def kSI4 (s : Sg) (i : Nat) (d : D) : Out × Sg := (.nx, setAt s i d)
@[simp] theorem kSI4_ap (s : Sg) (i : Nat) (d : D) : kSI4 s i d = (.nx, setAt s i d) := rfl
def kSI3 (i : Nat) (f : D → D → D → Option D) (v : D) (s : Sg) (di d : D) : Option (Out × Sg) := (f d di v).map (kSI4 s i)
@[simp] theorem kSI3_ap (i : Nat) (f : D → D → D → Option D) (v : D) (s : Sg) (di d : D) : kSI3 i f v s di d = (f d di v).map (kSI4 s i) := rfl
def kSI2 (i : Nat) (f : D → D → D → Option D) (v : D) (s : Sg) (di : D) : Option (Out × Sg) := (ownAt s i).bind (kSI3 i f v s di)
@[simp] theorem kSI2_ap (i : Nat) (f : D → D → D → Option D) (v : D) (s : Sg) (di : D) : kSI2 i f v s di = (ownAt s i).bind (kSI3 i f v s di) := rfl
def kSI1 (i : Nat) (f : D → D → D → Option D) (v : D) (q : Bor × Sg) : Option (Out × Sg) := (fetch q.2 q.1).bind (kSI2 i f v q.2)
@[simp] theorem kSI1_ap (i : Nat) (f : D → D → D → Option D) (v : D) (x : Bor) (s : Sg) : kSI1 i f v (x, s) = (fetch s x).bind (kSI2 i f v s) := rfl
def kSI0 (i : Nat) (f : D → D → D → Option D) (ti : Ev Bor) (v : D) (s : Sg) (z : Bor × Sg) : Option (Out × Sg) := (ti s).bind (kSI1 i f v)
@[simp] theorem kSI0_ap (i : Nat) (f : D → D → D → Option D) (ti : Ev Bor) (v : D) (s : Sg) (z : Bor × Sg) : kSI0 i f ti v s z = (ti s).bind (kSI1 i f v) := rfl
def kSI (i : Nat) (f : D → D → D → Option D) (ti : Ev Bor) (p : RV × Sg) : Option (Out × Sg) := (evSlot i p.2).bind (kSI0 i f ti p.1.d p.2)
@[simp] theorem kSI_ap (i : Nat) (f : D → D → D → Option D) (ti : Ev Bor) (x : RV) (s : Sg) : kSI i f ti (x, s) = (evSlot i s).bind (kSI0 i f ti x.d s) := rfl
@[simp] theorem evSetI_ap (i : Nat) (f : D → D → D → Option D) (ti : Ev Bor) (tv : Ev RV) (s : Sg) : evSetI i f ti tv s = (tv s).bind (kSI i f ti) := rfl
def kCh3 (f' : Op2) (s : Sg) (dy dz : D) : Option (RV × Sg) := (f' dy dz).map (kPair s)
@[simp] theorem kCh3_ap (f' : Op2) (s : Sg) (dy dz : D) : kCh3 f' s dy dz = (f' dy dz).map (kPair s) := rfl
def kCh2 (f' : Op2) (y : Bor) (r : Bor × Sg) : Option (RV × Sg) := (fetch r.2 y).bind fun dy => (fetch r.2 r.1).bind (kCh3 f' r.2 dy)
@[simp] theorem kCh2_ap (f' : Op2) (y z : Bor) (s : Sg) : kCh2 f' y (z, s) = ((fetch s y).bind fun dy => (fetch s z).bind (kCh3 f' s dy)) := rfl
def kCh1 (f' : Op2) (c : Ev Bor) (y : Bor) (s : Sg) : Option RV → Option (RV × Sg)
  | some (.fro (.bl true)) => (c s).bind (kCh2 f' y)
  | some (.fro (.bl false)) => some (.fro (.bl false), s)
  | _ => none
@[simp] theorem kCh1_t (f' : Op2) (c : Ev Bor) (y : Bor) (s : Sg) : kCh1 f' c y s (some (.fro (.bl true))) = (c s).bind (kCh2 f' y) := rfl
@[simp] theorem kCh1_f (f' : Op2) (c : Ev Bor) (y : Bor) (s : Sg) : kCh1 f' c y s (some (.fro (.bl false))) = some (.fro (.bl false), s) := rfl
def kCh0 (f f' : Op2) (c : Ev Bor) (x : Bor) (q : Bor × Sg) : Option (RV × Sg) := (fetch q.2 x).bind fun dx => (fetch q.2 q.1).bind fun dy => kCh1 f' c q.1 q.2 (f dx dy)
@[simp] theorem kCh0_ap (f f' : Op2) (c : Ev Bor) (x y : Bor) (s : Sg) : kCh0 f f' c x (y, s) = ((fetch s x).bind fun dx => (fetch s y).bind fun dy => kCh1 f' c y s (f dx dy)) := rfl
def kCh (f f' : Op2) (b c : Ev Bor) (p : Bor × Sg) : Option (RV × Sg) := (b p.2).bind (kCh0 f f' c p.1)
@[simp] theorem kCh_ap (f f' : Op2) (b c : Ev Bor) (x : Bor) (s : Sg) : kCh f f' b c (x, s) = (b s).bind (kCh0 f f' c x) := rfl
@[simp] theorem evCh_ap (f f' : Op2) (a b c : Ev Bor) (s : Sg) : evCh f f' a b c s = (a s).bind (kCh f f' b c) := rfl
def kFn (p : Out × Sg) : Option (RV × List Cell) := match p with
  | (.rt r, s) => some (r, s.st)
  | (.nx, s) => some (.fro .non, s.st)
  | _ => none
@[simp] theorem kFn_rt (r : RV) (s : Sg) : kFn (.rt r, s) = some (r, s.st) := rfl
@[simp] theorem kFn_nx (s : Sg) : kFn (.nx, s) = some (.fro .non, s.st) := rfl
@[simp] theorem fnM_ap (N P : Nat) (ev : Ev Out) (ds : List D) (st : List Cell) : fnM N P ev ds st = if ds.length = P then (ev ⟨ds.map Slot.fro ++ List.replicate (N - ds.length) Slot.non, st⟩).bind kFn else none := by
  unfold fnM
  split
  · cases ev ⟨ds.map Slot.fro ++ List.replicate (N - ds.length) Slot.non, st⟩ with
    | none => rfl
    | some p =>
      obtain ⟨o, s⟩ := p
      cases o <;> rfl
  · rfl
@[simp] theorem tgName_ap (i : Nat) (d : D) (s : Sg) : tgName i d s = some { s with env := s.env.set i (.fro d) } := rfl
def kTg (b : Tgts) (ds : List D) (s : Sg) : Option Sg := b ds s
@[simp] theorem kTg_ap (b : Tgts) (ds : List D) (s : Sg) : kTg b ds s = b ds s := rfl
@[simp] theorem tgNil_ap (s : Sg) : tgNil [] s = some s := rfl
@[simp] theorem tgCons_ap (a : Tgt) (b : Tgts) (d : D) (ds : List D) (s : Sg) : tgCons a b (d :: ds) s = (a d s).bind (kTg b ds) := rfl
@[simp] theorem tgTup_ap (n : Nat) (b : Tgts) (ds : List D) (s : Sg) : tgTup n b (.tup ds) s = if ds.length = n then b ds s else none := rfl
def kLeak (s : Sg) (i : Nat) : Option Slot → Sg
  | some (.own d) => { s with env := s.env.set i (.fro d) }
  | _ => s
@[simp] theorem kLeak_own (s : Sg) (i : Nat) (d : D) : kLeak s i (some (.own d)) = { s with env := s.env.set i (.fro d) } := rfl
@[simp] theorem kLeak_fro (s : Sg) (i : Nat) (d : D) : kLeak s i (some (.fro d)) = s := rfl
@[simp] theorem kLeak_non (s : Sg) (i : Nat) : kLeak s i (some .non) = s := rfl
@[simp] theorem leak_ap (s : Sg) (i : Nat) : leakSlot s i = kLeak s i (s.env[i]?) := rfl
@[simp] theorem deref_int (s : Sg) (i : Int) : deref s (.int i) = .int i := rfl
@[simp] theorem deref_bl (s : Sg) (i : Bool) : deref s (.bl i) = .bl i := rfl
@[simp] theorem deref_str (s : Sg) (i : Str) : deref s (.str i) = .str i := rfl
@[simp] theorem deref_non (s : Sg) : deref s .non = .non := rfl
@[simp] theorem deref_tup (s : Sg) (i : List D) : deref s (.tup i) = .tup i := rfl
@[simp] theorem deref_scr (s : Sg) (ns : List Int) : deref s (.scr ns) = .scr ns := rfl
@[simp] theorem deref_dct (s : Sg) (t : Bool) (ns : List (D × D)) : deref s (.dct t ns) = .dct t ns := rfl
@[simp] theorem deref_lst (s : Sg) (i : List D) : deref s (.lst i) = .lst i := rfl
@[simp] theorem d_fro (d : D) : (RV.fro d).d = d := rfl
@[simp] theorem d_own (d : D) : (RV.own d).d = d := rfl
@[simp] theorem slot_fro (d : D) : (RV.fro d).slot = .fro d := rfl
@[simp] theorem slot_own (d : D) : (RV.own d).slot = .own d := rfl
@[simp] theorem dSeq_lst (d : List D) : dSeq (.lst d) = some d := rfl
@[simp] theorem dSeq_tup (d : List D) : dSeq (.tup d) = some d := rfl
@[simp] theorem dLen_lst (d : List D) : dLen [.lst d] = some (.fro (.int d.length)) := rfl
@[simp] theorem dLen_tup (d : List D) : dLen [.tup d] = some (.fro (.int d.length)) := rfl
@[simp] theorem dAdd_int (a b : Int) : dAdd (.int a) (.int b) = some (.fro (.int (a + b))) := rfl
@[simp] theorem dSub_int (a b : Int) : dSub (.int a) (.int b) = some (.fro (.int (a - b))) := rfl
theorem dAdd_tup (a b : List D) : dAdd (.tup a) (.tup b) = if a.length + b.length ≤ 1000000 then some (.fro (.tup (a ++ b))) else none := rfl
theorem dAdd_lst (a b : List D) : dAdd (.lst a) (.lst b) = if a.length + b.length ≤ 1000000 then some (.own (.lst (a ++ b))) else none := rfl
@[simp] theorem dMul_int (a b : Int) : dMul (.int a) (.int b) = if smallI a || smallI b then some (.fro (.int (a * b))) else none := rfl
@[simp] theorem dMod_int (a b : Int) : dMod (.int a) (.int b) = if 0 < b then some (.fro (.int (a % b))) else none := rfl
@[simp] theorem dFdiv_int (a b : Int) : dFdiv (.int a) (.int b) = if 0 < b ∧ b < 2 ^ 64 then some (.fro (.int (a / b))) else none := rfl
@[simp] theorem dPow_int (a b : Int) : dPow (.int a) (.int b) = if smallI a && decide (0 ≤ b) && decide (b ≤ 1000) then some (.fro (.int (a ^ b.toNat))) else none := rfl
@[simp] theorem dLt_int (a b : Int) : dLt (.int a) (.int b) = some (.fro (.bl (decide (a < b)))) := rfl
@[simp] theorem dLe_int (a b : Int) : dLe (.int a) (.int b) = some (.fro (.bl (decide (a ≤ b)))) := rfl
@[simp] theorem dGt_int (a b : Int) : dGt (.int a) (.int b) = some (.fro (.bl (decide (b < a)))) := rfl
@[simp] theorem dGe_int (a b : Int) : dGe (.int a) (.int b) = some (.fro (.bl (decide (b ≤ a)))) := rfl
@[simp] theorem dIs_non : dIs .non .non = some (.fro (.bl true)) := rfl
@[simp] theorem blk_ap (vs : List Nat) (env : List Slot) : blkEnv vs env = wipeE (env.map hideSlot) vs := rfl
@[simp] theorem hide_own (d : D) : hideSlot (.own d) = .non := rfl
@[simp] theorem hide_fro (d : D) : hideSlot (.fro d) = .fro d := rfl
@[simp] theorem hide_non : hideSlot .non = .non := rfl
@[simp] theorem wipe_nil (env : List Slot) : wipeE env [] = env := rfl
@[simp] theorem wipe_cons (env : List Slot) (v : Nat) (vs : List Nat) : wipeE env (v :: vs) = (wipeE env vs).set v .non := rfl
@[simp] theorem freeze_nil (s : Sg) : freezeCap [] s = s := rfl
@[simp] theorem freeze_cons (i : Nat) (is : List Nat) (s : Sg) : freezeCap (i :: is) s = freezeCap is (leakSlot s i) := rfl
def kDeref (n : Nat) : Option Cell → D
  | some (.d x) => x
  | _ => .hd n
@[simp] theorem kDeref_ap (n : Nat) (x : D) : kDeref n (some (.d x)) = x := rfl
@[simp] theorem deref_hd (s : Sg) (n : Nat) : deref s (.hd n) = kDeref n (s.st[n]?) := by
  show (match s.st[n]? with
    | some (.d x) => x
    | _ => .hd n) = _
  cases s.st[n]? with
  | none => rfl
  | some c => cases c <;> rfl
theorem ixN_nat {n i : Nat} (h : i < n) : ixN n (i : Int) = some i := by
  unfold ixN
  rw [if_pos (by omega), if_pos (by omega), Int.toNat_natCast]
@[simp] theorem ix_l0 (a : D) (l : List D) : dIx (.lst (a :: l)) (.int 0) = some (.fro a) := dIx_lst (i := 0) rfl
@[simp] theorem ix_l1 (a b : D) (l : List D) : dIx (.lst (a :: b :: l)) (.int 1) = some (.fro b) := dIx_lst (i := 1) rfl
@[simp] theorem ix_l2 (a b c : D) (l : List D) : dIx (.lst (a :: b :: c :: l)) (.int 2) = some (.fro c) := dIx_lst (i := 2) rfl
@[simp] theorem ix_t0 (a : D) (l : List D) : dIx (.tup (a :: l)) (.int 0) = some (.fro a) := dIx_tup (i := 0) rfl
@[simp] theorem ix_t1 (a b : D) (l : List D) : dIx (.tup (a :: b :: l)) (.int 1) = some (.fro b) := dIx_tup (i := 1) rfl
@[simp] theorem ix_t2 (a b c : D) (l : List D) : dIx (.tup (a :: b :: c :: l)) (.int 2) = some (.fro c) := dIx_tup (i := 2) rfl
theorem dSet_lst {ds : List D} {i : Nat} (v : D) (h : i < ds.length) : dSet (.lst ds) (.int (i : Int)) v = some (.lst (ds.set i v)) := by
  simp only [dSet, ixN_nat h, Option.map_some]
@[simp] theorem st_l0 (a v : D) (l : List D) : dSet (.lst (a :: l)) (.int 0) v = some (.lst (v :: l)) := dSet_lst (i := 0) v (by simp)
@[simp] theorem st_l1 (a b v : D) (l : List D) : dSet (.lst (a :: b :: l)) (.int 1) v = some (.lst (a :: v :: l)) := dSet_lst (i := 1) v (by simp)
@[simp] theorem st_l2 (a b c v : D) (l : List D) : dSet (.lst (a :: b :: c :: l)) (.int 2) v = some (.lst (a :: b :: v :: l)) := dSet_lst (i := 2) v (by simp)
theorem upTo_map (lo : Nat) (n : Nat) : upTo (lo : Int) n = (List.range' lo n).map fun k : Nat => D.int (k : Int) := by
  rw [List.range'_eq_map_range]
  simp [upTo, Function.comp_def]
theorem upTo0 (n : Nat) : upTo 0 n = (List.range n).map fun k : Nat => D.int (k : Int) := by
  simp [upTo]
@[simp] theorem small62_nat {n : Nat} (h : n ≤ 1000000) : small62 (n : Int) = true := by simp [small62]; omega
theorem cut_take {α : Type} (xs : List α) (k : Nat) : cutL xs none (some (k : Int)) = xs.take k := by
  unfold cutL
  rw [HT.sIx_none, HT.sIx_nat, List.drop_zero, Nat.sub_zero, List.take_eq_take_iff]
  omega
theorem cut_drop {α : Type} (xs : List α) (k : Nat) : cutL xs (some (k : Int)) none = xs.drop k := by
  unfold cutL
  rw [HT.sIx_none, HT.sIx_nat]
  by_cases h : k ≤ xs.length
  · rw [Nat.min_eq_left h, List.take_of_length_le (by simp)]
  · rw [Nat.min_eq_right (by omega), List.drop_eq_nil_of_le (by omega), List.drop_eq_nil_of_le (by omega)]; simp
theorem insert_ok {ds : List D} {i : Nat} {x : D} (h : ds.length < 1000000) (hi : i < 1000000) : mInsert (.lst ds) [.int (i : Int), x] = some (.lst (ds.take i ++ [x] ++ ds.drop i), .non) := by
  show (if ds.length < 1000000 ∧ 0 ≤ (i : Int) ∧ (i : Int) < 1000000 then some (D.lst (ds.take (i : Int).toNat ++ [x] ++ ds.drop (i : Int).toNat), D.non) else none) = _
  rw [if_pos ⟨h, by omega, by omega⟩, Int.toNat_natCast]
theorem append_ok {ds : List D} {x : D} (h : ds.length < 1000000) : mAppend (.lst ds) [x] = some (.lst (ds ++ [x]), .non) := if_pos h
theorem extend_ok {ds es : List D} (h : ds.length + es.length ≤ 1000000) : mExtend (.lst ds) [.lst es] = some (.lst (ds ++ es), .non) := if_pos h
theorem addL_ok {a b : List D} (h : a.length + b.length ≤ 1000000) : dAdd (.lst a) (.lst b) = some (.own (.lst (a ++ b))) := if_pos h
theorem addT_ok {a b : List D} (h : a.length + b.length ≤ 1000000) : dAdd (.tup a) (.tup b) = some (.fro (.tup (a ++ b))) := if_pos h
structure Rd where
  a : Nat
  b : Nat
  lo : Nat
  hi : Nat
def rdD (r : Rd) : D := .tup [.int r.a, .int r.b, .int r.lo, .int r.hi]
structure Web where
  n : Nat
  rs : List Rd
def webD (w : Web) : D := .tup [.int w.n, .tup (w.rs.map rdD)]
structure WebOk (w : Web) (hn mx : Nat) : Prop where
  n1 : 1 ≤ w.n
  nh : w.n ≤ hn
  rm : w.rs.length ≤ mx
  ab : ∀ r ∈ w.rs, r.a < r.b ∧ r.b < w.n
  lh : ∀ r ∈ w.rs, r.lo ≤ r.hi ∧ r.hi ≤ 99
  /-- all houses are joined: by a numbering in which each but the first has a road to an earlier one -/
  cn : ∃ nm : List Nat, nm.length = w.n ∧ nm.Nodup ∧ (∀ x ∈ nm, x < w.n) ∧ ∀ h, 1 ≤ h → h < w.n → ∃ a r, a < h ∧ r ∈ w.rs ∧ ((nm[a]? = some r.a ∧ nm[h]? = some r.b) ∨ (nm[a]? = some r.b ∧ nm[h]? = some r.a))
@[simp] theorem ix_web0 (w : Web) : dIx (webD w) (.int 0) = some (.fro (.int w.n)) := rfl
@[simp] theorem ix_web1 (w : Web) : dIx (webD w) (.int 1) = some (.fro (.tup (w.rs.map rdD))) := rfl
@[simp] theorem deref_web (s : Sg) (w : Web) : deref s (webD w) = webD w := rfl
@[simp] theorem deref_rd (s : Sg) (w : Rd) : deref s (rdD w) = rdD w := rfl
@[simp] theorem sl_rd2 (r : Rd) : dSl (rdD r) none (some 2) = some (.fro (.tup [.int r.a, .int r.b])) := rfl
@[simp] theorem ix_rd0 (r : Rd) : dIx (rdD r) (.int 0) = some (.fro (.int r.a)) := rfl
@[simp] theorem ix_rd1 (r : Rd) : dIx (rdD r) (.int 1) = some (.fro (.int r.b)) := rfl
@[simp] theorem ix_rd2 (r : Rd) : dIx (rdD r) (.int 2) = some (.fro (.int r.lo)) := rfl
@[simp] theorem ix_rd3 (r : Rd) : dIx (rdD r) (.int 3) = some (.fro (.int r.hi)) := rfl
theorem ix_roads {w : Web} {i : Nat} {r : Rd} (h : w.rs[i]? = some r) : dIx (.tup (w.rs.map rdD)) (.int (i : Int)) = some (.fro (rdD r)) := dIx_tup (by simp [h])
end Pv

namespace Pv
open PySem PySem.Spec L2
local instance noTabs16_1 : TabL := ⟨[]⟩
@[simp] theorem isi_bool_NoneType : isiB "bool" .non = some (.fro (.bl false)) := by show (kitB "NoneType" "bool").map (fun b => RV.fro (.bl b)) = _; rw [show kitB "NoneType" "bool" = some false by decide +kernel]; rfl
@[simp] theorem isi_bool_bool (x : Bool) : isiB "bool" (.bl x) = some (.fro (.bl true)) := by show (kitB "bool" "bool").map (fun b => RV.fro (.bl b)) = _; rw [show kitB "bool" "bool" = some true by decide +kernel]; rfl
@[simp] theorem isi_bool_int (x : Int) : isiB "bool" (.int x) = some (.fro (.bl false)) := by show (kitB "int" "bool").map (fun b => RV.fro (.bl b)) = _; rw [show kitB "int" "bool" = some false by decide +kernel]; rfl
@[simp] theorem isi_bool_str (x : Str) : isiB "bool" (.str x) = some (.fro (.bl false)) := by show (kitB "str" "bool").map (fun b => RV.fro (.bl b)) = _; rw [show kitB "str" "bool" = some false by decide +kernel]; rfl
@[simp] theorem isi_bool_tuple (x : List D) : isiB "bool" (.tup x) = some (.fro (.bl false)) := by show (kitB "tuple" "bool").map (fun b => RV.fro (.bl b)) = _; rw [show kitB "tuple" "bool" = some false by decide +kernel]; rfl
@[simp] theorem isi_bool_list (x : List D) : isiB "bool" (.lst x) = some (.fro (.bl false)) := by show (kitB "list" "bool").map (fun b => RV.fro (.bl b)) = _; rw [show kitB "list" "bool" = some false by decide +kernel]; rfl
@[simp] theorem isi_bool_dict (t : Bool) (x : List (D × D)) : isiB "bool" (.dct t x) = some (.fro (.bl false)) := by cases t <;> (show (kitB "dict" "bool").map (fun b => RV.fro (.bl b)) = _; rw [show kitB "dict" "bool" = some false by decide +kernel]; rfl)
@[simp] theorem isi_int_NoneType : isiB "int" .non = some (.fro (.bl false)) := by show (kitB "NoneType" "int").map (fun b => RV.fro (.bl b)) = _; rw [show kitB "NoneType" "int" = some false by decide +kernel]; rfl
@[simp] theorem isi_int_bool (x : Bool) : isiB "int" (.bl x) = some (.fro (.bl true)) := by show (kitB "bool" "int").map (fun b => RV.fro (.bl b)) = _; rw [show kitB "bool" "int" = some true by decide +kernel]; rfl
@[simp] theorem isi_int_int (x : Int) : isiB "int" (.int x) = some (.fro (.bl true)) := by show (kitB "int" "int").map (fun b => RV.fro (.bl b)) = _; rw [show kitB "int" "int" = some true by decide +kernel]; rfl
@[simp] theorem isi_int_str (x : Str) : isiB "int" (.str x) = some (.fro (.bl false)) := by show (kitB "str" "int").map (fun b => RV.fro (.bl b)) = _; rw [show kitB "str" "int" = some false by decide +kernel]; rfl
@[simp] theorem isi_int_tuple (x : List D) : isiB "int" (.tup x) = some (.fro (.bl false)) := by show (kitB "tuple" "int").map (fun b => RV.fro (.bl b)) = _; rw [show kitB "tuple" "int" = some false by decide +kernel]; rfl
@[simp] theorem isi_int_list (x : List D) : isiB "int" (.lst x) = some (.fro (.bl false)) := by show (kitB "list" "int").map (fun b => RV.fro (.bl b)) = _; rw [show kitB "list" "int" = some false by decide +kernel]; rfl
@[simp] theorem isi_int_dict (t : Bool) (x : List (D × D)) : isiB "int" (.dct t x) = some (.fro (.bl false)) := by cases t <;> (show (kitB "dict" "int").map (fun b => RV.fro (.bl b)) = _; rw [show kitB "dict" "int" = some false by decide +kernel]; rfl)
@[simp] theorem isi_str_NoneType : isiB "str" .non = some (.fro (.bl false)) := by show (kitB "NoneType" "str").map (fun b => RV.fro (.bl b)) = _; rw [show kitB "NoneType" "str" = some false by decide +kernel]; rfl
@[simp] theorem isi_str_bool (x : Bool) : isiB "str" (.bl x) = some (.fro (.bl false)) := by show (kitB "bool" "str").map (fun b => RV.fro (.bl b)) = _; rw [show kitB "bool" "str" = some false by decide +kernel]; rfl
@[simp] theorem isi_str_int (x : Int) : isiB "str" (.int x) = some (.fro (.bl false)) := by show (kitB "int" "str").map (fun b => RV.fro (.bl b)) = _; rw [show kitB "int" "str" = some false by decide +kernel]; rfl
@[simp] theorem isi_str_str (x : Str) : isiB "str" (.str x) = some (.fro (.bl true)) := by show (kitB "str" "str").map (fun b => RV.fro (.bl b)) = _; rw [show kitB "str" "str" = some true by decide +kernel]; rfl
@[simp] theorem isi_str_tuple (x : List D) : isiB "str" (.tup x) = some (.fro (.bl false)) := by show (kitB "tuple" "str").map (fun b => RV.fro (.bl b)) = _; rw [show kitB "tuple" "str" = some false by decide +kernel]; rfl
@[simp] theorem isi_str_list (x : List D) : isiB "str" (.lst x) = some (.fro (.bl false)) := by show (kitB "list" "str").map (fun b => RV.fro (.bl b)) = _; rw [show kitB "list" "str" = some false by decide +kernel]; rfl
@[simp] theorem isi_str_dict (t : Bool) (x : List (D × D)) : isiB "str" (.dct t x) = some (.fro (.bl false)) := by cases t <;> (show (kitB "dict" "str").map (fun b => RV.fro (.bl b)) = _; rw [show kitB "dict" "str" = some false by decide +kernel]; rfl)
@[simp] theorem isi_tuple_NoneType : isiB "tuple" .non = some (.fro (.bl false)) := by show (kitB "NoneType" "tuple").map (fun b => RV.fro (.bl b)) = _; rw [show kitB "NoneType" "tuple" = some false by decide +kernel]; rfl
@[simp] theorem isi_tuple_bool (x : Bool) : isiB "tuple" (.bl x) = some (.fro (.bl false)) := by show (kitB "bool" "tuple").map (fun b => RV.fro (.bl b)) = _; rw [show kitB "bool" "tuple" = some false by decide +kernel]; rfl
@[simp] theorem isi_tuple_int (x : Int) : isiB "tuple" (.int x) = some (.fro (.bl false)) := by show (kitB "int" "tuple").map (fun b => RV.fro (.bl b)) = _; rw [show kitB "int" "tuple" = some false by decide +kernel]; rfl
@[simp] theorem isi_tuple_str (x : Str) : isiB "tuple" (.str x) = some (.fro (.bl false)) := by show (kitB "str" "tuple").map (fun b => RV.fro (.bl b)) = _; rw [show kitB "str" "tuple" = some false by decide +kernel]; rfl
@[simp] theorem isi_tuple_tuple (x : List D) : isiB "tuple" (.tup x) = some (.fro (.bl true)) := by show (kitB "tuple" "tuple").map (fun b => RV.fro (.bl b)) = _; rw [show kitB "tuple" "tuple" = some true by decide +kernel]; rfl
@[simp] theorem isi_tuple_list (x : List D) : isiB "tuple" (.lst x) = some (.fro (.bl false)) := by show (kitB "list" "tuple").map (fun b => RV.fro (.bl b)) = _; rw [show kitB "list" "tuple" = some false by decide +kernel]; rfl
@[simp] theorem isi_tuple_dict (t : Bool) (x : List (D × D)) : isiB "tuple" (.dct t x) = some (.fro (.bl false)) := by cases t <;> (show (kitB "dict" "tuple").map (fun b => RV.fro (.bl b)) = _; rw [show kitB "dict" "tuple" = some false by decide +kernel]; rfl)
@[simp] theorem isi_list_NoneType : isiB "list" .non = some (.fro (.bl false)) := by show (kitB "NoneType" "list").map (fun b => RV.fro (.bl b)) = _; rw [show kitB "NoneType" "list" = some false by decide +kernel]; rfl
@[simp] theorem isi_list_bool (x : Bool) : isiB "list" (.bl x) = some (.fro (.bl false)) := by show (kitB "bool" "list").map (fun b => RV.fro (.bl b)) = _; rw [show kitB "bool" "list" = some false by decide +kernel]; rfl
@[simp] theorem isi_list_int (x : Int) : isiB "list" (.int x) = some (.fro (.bl false)) := by show (kitB "int" "list").map (fun b => RV.fro (.bl b)) = _; rw [show kitB "int" "list" = some false by decide +kernel]; rfl
@[simp] theorem isi_list_str (x : Str) : isiB "list" (.str x) = some (.fro (.bl false)) := by show (kitB "str" "list").map (fun b => RV.fro (.bl b)) = _; rw [show kitB "str" "list" = some false by decide +kernel]; rfl
@[simp] theorem isi_list_tuple (x : List D) : isiB "list" (.tup x) = some (.fro (.bl false)) := by show (kitB "tuple" "list").map (fun b => RV.fro (.bl b)) = _; rw [show kitB "tuple" "list" = some false by decide +kernel]; rfl
@[simp] theorem isi_list_list (x : List D) : isiB "list" (.lst x) = some (.fro (.bl true)) := by show (kitB "list" "list").map (fun b => RV.fro (.bl b)) = _; rw [show kitB "list" "list" = some true by decide +kernel]; rfl
@[simp] theorem isi_list_dict (t : Bool) (x : List (D × D)) : isiB "list" (.dct t x) = some (.fro (.bl false)) := by cases t <;> (show (kitB "dict" "list").map (fun b => RV.fro (.bl b)) = _; rw [show kitB "dict" "list" = some false by decide +kernel]; rfl)
@[simp] theorem isi_dict_NoneType : isiB "dict" .non = some (.fro (.bl false)) := by show (kitB "NoneType" "dict").map (fun b => RV.fro (.bl b)) = _; rw [show kitB "NoneType" "dict" = some false by decide +kernel]; rfl
@[simp] theorem isi_dict_bool (x : Bool) : isiB "dict" (.bl x) = some (.fro (.bl false)) := by show (kitB "bool" "dict").map (fun b => RV.fro (.bl b)) = _; rw [show kitB "bool" "dict" = some false by decide +kernel]; rfl
@[simp] theorem isi_dict_int (x : Int) : isiB "dict" (.int x) = some (.fro (.bl false)) := by show (kitB "int" "dict").map (fun b => RV.fro (.bl b)) = _; rw [show kitB "int" "dict" = some false by decide +kernel]; rfl
@[simp] theorem isi_dict_str (x : Str) : isiB "dict" (.str x) = some (.fro (.bl false)) := by show (kitB "str" "dict").map (fun b => RV.fro (.bl b)) = _; rw [show kitB "str" "dict" = some false by decide +kernel]; rfl
@[simp] theorem isi_dict_tuple (x : List D) : isiB "dict" (.tup x) = some (.fro (.bl false)) := by show (kitB "tuple" "dict").map (fun b => RV.fro (.bl b)) = _; rw [show kitB "tuple" "dict" = some false by decide +kernel]; rfl
@[simp] theorem isi_dict_list (x : List D) : isiB "dict" (.lst x) = some (.fro (.bl false)) := by show (kitB "list" "dict").map (fun b => RV.fro (.bl b)) = _; rw [show kitB "list" "dict" = some false by decide +kernel]; rfl
@[simp] theorem isi_dict_dict (t : Bool) (x : List (D × D)) : isiB "dict" (.dct t x) = some (.fro (.bl true)) := by cases t <;> (show (kitB "dict" "dict").map (fun b => RV.fro (.bl b)) = _; rw [show kitB "dict" "dict" = some true by decide +kernel]; rfl)
@[simp] theorem isis_int_str_NoneType : isiBs ["int", "str"] .non = some (.fro (.bl false)) := by (show (isiAny ["int", "str"] "NoneType").map (fun b => RV.fro (.bl b)) = _; rw [show isiAny ["int", "str"] "NoneType" = some false by decide +kernel]; rfl)
@[simp] theorem isis_int_str_bool (x : Bool) : isiBs ["int", "str"] (.bl x) = some (.fro (.bl true)) := by (show (isiAny ["int", "str"] "bool").map (fun b => RV.fro (.bl b)) = _; rw [show isiAny ["int", "str"] "bool" = some true by decide +kernel]; rfl)
@[simp] theorem isis_int_str_int (x : Int) : isiBs ["int", "str"] (.int x) = some (.fro (.bl true)) := by (show (isiAny ["int", "str"] "int").map (fun b => RV.fro (.bl b)) = _; rw [show isiAny ["int", "str"] "int" = some true by decide +kernel]; rfl)
@[simp] theorem isis_int_str_str (x : Str) : isiBs ["int", "str"] (.str x) = some (.fro (.bl true)) := by (show (isiAny ["int", "str"] "str").map (fun b => RV.fro (.bl b)) = _; rw [show isiAny ["int", "str"] "str" = some true by decide +kernel]; rfl)
@[simp] theorem isis_int_str_tuple (x : List D) : isiBs ["int", "str"] (.tup x) = some (.fro (.bl false)) := by (show (isiAny ["int", "str"] "tuple").map (fun b => RV.fro (.bl b)) = _; rw [show isiAny ["int", "str"] "tuple" = some false by decide +kernel]; rfl)
@[simp] theorem isis_int_str_list (x : List D) : isiBs ["int", "str"] (.lst x) = some (.fro (.bl false)) := by (show (isiAny ["int", "str"] "list").map (fun b => RV.fro (.bl b)) = _; rw [show isiAny ["int", "str"] "list" = some false by decide +kernel]; rfl)
@[simp] theorem isis_int_str_dict (t : Bool) (x : List (D × D)) : isiBs ["int", "str"] (.dct t x) = some (.fro (.bl false)) := by cases t <;> (show (isiAny ["int", "str"] "dict").map (fun b => RV.fro (.bl b)) = _; rw [show isiAny ["int", "str"] "dict" = some false by decide +kernel]; rfl)
@[simp] theorem isis_tuple_list_NoneType : isiBs ["tuple", "list"] .non = some (.fro (.bl false)) := by (show (isiAny ["tuple", "list"] "NoneType").map (fun b => RV.fro (.bl b)) = _; rw [show isiAny ["tuple", "list"] "NoneType" = some false by decide +kernel]; rfl)
@[simp] theorem isis_tuple_list_bool (x : Bool) : isiBs ["tuple", "list"] (.bl x) = some (.fro (.bl false)) := by (show (isiAny ["tuple", "list"] "bool").map (fun b => RV.fro (.bl b)) = _; rw [show isiAny ["tuple", "list"] "bool" = some false by decide +kernel]; rfl)
@[simp] theorem isis_tuple_list_int (x : Int) : isiBs ["tuple", "list"] (.int x) = some (.fro (.bl false)) := by (show (isiAny ["tuple", "list"] "int").map (fun b => RV.fro (.bl b)) = _; rw [show isiAny ["tuple", "list"] "int" = some false by decide +kernel]; rfl)
@[simp] theorem isis_tuple_list_str (x : Str) : isiBs ["tuple", "list"] (.str x) = some (.fro (.bl false)) := by (show (isiAny ["tuple", "list"] "str").map (fun b => RV.fro (.bl b)) = _; rw [show isiAny ["tuple", "list"] "str" = some false by decide +kernel]; rfl)
@[simp] theorem isis_tuple_list_tuple (x : List D) : isiBs ["tuple", "list"] (.tup x) = some (.fro (.bl true)) := by (show (isiAny ["tuple", "list"] "tuple").map (fun b => RV.fro (.bl b)) = _; rw [show isiAny ["tuple", "list"] "tuple" = some true by decide +kernel]; rfl)
@[simp] theorem isis_tuple_list_list (x : List D) : isiBs ["tuple", "list"] (.lst x) = some (.fro (.bl true)) := by (show (isiAny ["tuple", "list"] "list").map (fun b => RV.fro (.bl b)) = _; rw [show isiAny ["tuple", "list"] "list" = some true by decide +kernel]; rfl)
@[simp] theorem isis_tuple_list_dict (t : Bool) (x : List (D × D)) : isiBs ["tuple", "list"] (.dct t x) = some (.fro (.bl false)) := by cases t <;> (show (isiAny ["tuple", "list"] "dict").map (fun b => RV.fro (.bl b)) = _; rw [show isiAny ["tuple", "list"] "dict" = some false by decide +kernel]; rfl)
@[simp] theorem isis_list_tuple_NoneType : isiBs ["list", "tuple"] .non = some (.fro (.bl false)) := by (show (isiAny ["list", "tuple"] "NoneType").map (fun b => RV.fro (.bl b)) = _; rw [show isiAny ["list", "tuple"] "NoneType" = some false by decide +kernel]; rfl)
@[simp] theorem isis_list_tuple_bool (x : Bool) : isiBs ["list", "tuple"] (.bl x) = some (.fro (.bl false)) := by (show (isiAny ["list", "tuple"] "bool").map (fun b => RV.fro (.bl b)) = _; rw [show isiAny ["list", "tuple"] "bool" = some false by decide +kernel]; rfl)
@[simp] theorem isis_list_tuple_int (x : Int) : isiBs ["list", "tuple"] (.int x) = some (.fro (.bl false)) := by (show (isiAny ["list", "tuple"] "int").map (fun b => RV.fro (.bl b)) = _; rw [show isiAny ["list", "tuple"] "int" = some false by decide +kernel]; rfl)
@[simp] theorem isis_list_tuple_str (x : Str) : isiBs ["list", "tuple"] (.str x) = some (.fro (.bl false)) := by (show (isiAny ["list", "tuple"] "str").map (fun b => RV.fro (.bl b)) = _; rw [show isiAny ["list", "tuple"] "str" = some false by decide +kernel]; rfl)
@[simp] theorem isis_list_tuple_tuple (x : List D) : isiBs ["list", "tuple"] (.tup x) = some (.fro (.bl true)) := by (show (isiAny ["list", "tuple"] "tuple").map (fun b => RV.fro (.bl b)) = _; rw [show isiAny ["list", "tuple"] "tuple" = some true by decide +kernel]; rfl)
@[simp] theorem isis_list_tuple_list (x : List D) : isiBs ["list", "tuple"] (.lst x) = some (.fro (.bl true)) := by (show (isiAny ["list", "tuple"] "list").map (fun b => RV.fro (.bl b)) = _; rw [show isiAny ["list", "tuple"] "list" = some true by decide +kernel]; rfl)
@[simp] theorem isis_list_tuple_dict (t : Bool) (x : List (D × D)) : isiBs ["list", "tuple"] (.dct t x) = some (.fro (.bl false)) := by cases t <;> (show (isiAny ["list", "tuple"] "dict").map (fun b => RV.fro (.bl b)) = _; rw [show isiAny ["list", "tuple"] "dict" = some false by decide +kernel]; rfl)
@[simp] theorem isis_int_bool_NoneType : isiBs ["int", "bool"] .non = some (.fro (.bl false)) := by (show (isiAny ["int", "bool"] "NoneType").map (fun b => RV.fro (.bl b)) = _; rw [show isiAny ["int", "bool"] "NoneType" = some false by decide +kernel]; rfl)
@[simp] theorem isis_int_bool_bool (x : Bool) : isiBs ["int", "bool"] (.bl x) = some (.fro (.bl true)) := by (show (isiAny ["int", "bool"] "bool").map (fun b => RV.fro (.bl b)) = _; rw [show isiAny ["int", "bool"] "bool" = some true by decide +kernel]; rfl)
@[simp] theorem isis_int_bool_int (x : Int) : isiBs ["int", "bool"] (.int x) = some (.fro (.bl true)) := by (show (isiAny ["int", "bool"] "int").map (fun b => RV.fro (.bl b)) = _; rw [show isiAny ["int", "bool"] "int" = some true by decide +kernel]; rfl)
@[simp] theorem isis_int_bool_str (x : Str) : isiBs ["int", "bool"] (.str x) = some (.fro (.bl false)) := by (show (isiAny ["int", "bool"] "str").map (fun b => RV.fro (.bl b)) = _; rw [show isiAny ["int", "bool"] "str" = some false by decide +kernel]; rfl)
@[simp] theorem isis_int_bool_tuple (x : List D) : isiBs ["int", "bool"] (.tup x) = some (.fro (.bl false)) := by (show (isiAny ["int", "bool"] "tuple").map (fun b => RV.fro (.bl b)) = _; rw [show isiAny ["int", "bool"] "tuple" = some false by decide +kernel]; rfl)
@[simp] theorem isis_int_bool_list (x : List D) : isiBs ["int", "bool"] (.lst x) = some (.fro (.bl false)) := by (show (isiAny ["int", "bool"] "list").map (fun b => RV.fro (.bl b)) = _; rw [show isiAny ["int", "bool"] "list" = some false by decide +kernel]; rfl)
@[simp] theorem isis_int_bool_dict (t : Bool) (x : List (D × D)) : isiBs ["int", "bool"] (.dct t x) = some (.fro (.bl false)) := by cases t <;> (show (isiAny ["int", "bool"] "dict").map (fun b => RV.fro (.bl b)) = _; rw [show isiAny ["int", "bool"] "dict" = some false by decide +kernel]; rfl)
@[simp] theorem isis_bool_int_NoneType : isiBs ["bool", "int"] .non = some (.fro (.bl false)) := by (show (isiAny ["bool", "int"] "NoneType").map (fun b => RV.fro (.bl b)) = _; rw [show isiAny ["bool", "int"] "NoneType" = some false by decide +kernel]; rfl)
@[simp] theorem isis_bool_int_bool (x : Bool) : isiBs ["bool", "int"] (.bl x) = some (.fro (.bl true)) := by (show (isiAny ["bool", "int"] "bool").map (fun b => RV.fro (.bl b)) = _; rw [show isiAny ["bool", "int"] "bool" = some true by decide +kernel]; rfl)
@[simp] theorem isis_bool_int_int (x : Int) : isiBs ["bool", "int"] (.int x) = some (.fro (.bl true)) := by (show (isiAny ["bool", "int"] "int").map (fun b => RV.fro (.bl b)) = _; rw [show isiAny ["bool", "int"] "int" = some true by decide +kernel]; rfl)
@[simp] theorem isis_bool_int_str (x : Str) : isiBs ["bool", "int"] (.str x) = some (.fro (.bl false)) := by (show (isiAny ["bool", "int"] "str").map (fun b => RV.fro (.bl b)) = _; rw [show isiAny ["bool", "int"] "str" = some false by decide +kernel]; rfl)
@[simp] theorem isis_bool_int_tuple (x : List D) : isiBs ["bool", "int"] (.tup x) = some (.fro (.bl false)) := by (show (isiAny ["bool", "int"] "tuple").map (fun b => RV.fro (.bl b)) = _; rw [show isiAny ["bool", "int"] "tuple" = some false by decide +kernel]; rfl)
@[simp] theorem isis_bool_int_list (x : List D) : isiBs ["bool", "int"] (.lst x) = some (.fro (.bl false)) := by (show (isiAny ["bool", "int"] "list").map (fun b => RV.fro (.bl b)) = _; rw [show isiAny ["bool", "int"] "list" = some false by decide +kernel]; rfl)
@[simp] theorem isis_bool_int_dict (t : Bool) (x : List (D × D)) : isiBs ["bool", "int"] (.dct t x) = some (.fro (.bl false)) := by cases t <;> (show (isiAny ["bool", "int"] "dict").map (fun b => RV.fro (.bl b)) = _; rw [show isiAny ["bool", "int"] "dict" = some false by decide +kernel]; rfl)
@[simp] theorem is_non_bool (x : Bool) : dIs (.bl x) .non = some (.fro (.bl false)) := rfl
@[simp] theorem isnot_non_bool (x : Bool) : dIsNot (.bl x) .non = some (.fro (.bl true)) := rfl
@[simp] theorem is_non_int (x : Int) : dIs (.int x) .non = some (.fro (.bl false)) := rfl
@[simp] theorem isnot_non_int (x : Int) : dIsNot (.int x) .non = some (.fro (.bl true)) := rfl
@[simp] theorem is_non_str (x : Str) : dIs (.str x) .non = some (.fro (.bl false)) := rfl
@[simp] theorem isnot_non_str (x : Str) : dIsNot (.str x) .non = some (.fro (.bl true)) := rfl
@[simp] theorem is_non_tuple (x : List D) : dIs (.tup x) .non = some (.fro (.bl false)) := rfl
@[simp] theorem isnot_non_tuple (x : List D) : dIsNot (.tup x) .non = some (.fro (.bl true)) := rfl
@[simp] theorem is_non_list (x : List D) : dIs (.lst x) .non = some (.fro (.bl false)) := rfl
@[simp] theorem isnot_non_list (x : List D) : dIsNot (.lst x) .non = some (.fro (.bl true)) := rfl
@[simp] theorem is_non_dict (t : Bool) (x : List (D × D)) : dIs (.dct t x) .non = some (.fro (.bl false)) := rfl
@[simp] theorem isnot_non_dict (t : Bool) (x : List (D × D)) : dIsNot (.dct t x) .non = some (.fro (.bl true)) := rfl
@[simp] theorem isnot_non : dIsNot .non .non = some (.fro (.bl false)) := rfl
@[simp] theorem tru_bl (b : Bool) : tru (.bl b) = some b := rfl
@[simp] theorem tru_int (i : Int) : tru (.int i) = some (i != 0) := rfl
@[simp] theorem tru_lst (i : List D) : tru (.lst i) = some (!i.isEmpty) := rfl
@[simp] theorem tru_tup (i : List D) : tru (.tup i) = some (!i.isEmpty) := rfl
/-- numbers -/
def nD (k : Nat) : D := .int (k : Int)
theorem upToN (n : Nat) : upTo 0 n = (List.range n).map nD := upTo0 n
def tU (xs : List Nat) : D := .tup (xs.map nD)
theorem nD_ints (xs : List Nat) : xs.map nD = (xs.map fun k : Nat => (k : Int)).map D.int := by
  rw [List.map_map]; rfl
theorem mem_cast {x : Nat} {xs : List Nat} : ((x : Int) ∈ xs.map fun k : Nat => (k : Int)) ↔ x ∈ xs := by
  rw [List.mem_map]
  constructor
  · rintro ⟨y, h, e⟩
    have : y = x := by omega
    rwa [← this]
  · exact fun h => ⟨x, h, rfl⟩
theorem dIn_nat (x : Nat) (ys : List Nat) : dIn (.int (x : Int)) (.tup (ys.map nD)) = some (.fro (.bl (decide (x ∈ ys)))) := by
  rw [nD_ints, dIn_ints]; simp only [mem_cast]
theorem dIn_natL (x : Nat) (ys : List Nat) : dIn (.int (x : Int)) (.lst (ys.map nD)) = some (.fro (.bl (decide (x ∈ ys)))) := by
  rw [nD_ints, dIn_intsL]; simp only [mem_cast]
theorem dNotIn_nat (x : Nat) (ys : List Nat) : dNotIn (.int (x : Int)) (.tup (ys.map nD)) = some (.fro (.bl (!decide (x ∈ ys)))) := by
  rw [nD_ints, dNotIn_ints]; simp only [mem_cast]
theorem dNotIn_natL (x : Nat) (ys : List Nat) : dNotIn (.int (x : Int)) (.lst (ys.map nD)) = some (.fro (.bl (!decide (x ∈ ys)))) := by
  rw [nD_ints, dNotIn_intsL]; simp only [mem_cast]
@[simp] theorem deref_tU (s : Sg) (xs : List Nat) : deref s (tU xs) = tU xs := rfl
@[simp] theorem deref_nD (s : Sg) (k : Nat) : deref s (nD k) = nD k := rfl
theorem sort_tU {xs ys : List (List Nat)} (h : xs.Perm ys) : (xs.map tU).mergeSort dle = (ys.map tU).mergeSort dle := by
  have e : tU = fun xs : List Nat => tN (xs.map fun k : Nat => (k : Int)) := by
    funext xs
    rw [tU, tN, nD_ints]
  have e2 : ∀ zs : List (List Nat), zs.map tU = (zs.map fun xs => xs.map fun k : Nat => (k : Int)).map tN := fun zs => by rw [e, List.map_map]; rfl
  rw [e2, e2]
  exact sort_eq (h.map _)
theorem dSorted_tU {xs : List (List Nat)} (hl : xs.length ≤ 1000000) (h : ∀ x ∈ xs, x ≠ []) : dSorted [.lst (xs.map tU)] = some (.own (.lst ((xs.map tU).mergeSort dle))) := by
  have e : tU = fun xs : List Nat => tN (xs.map fun k : Nat => (k : Int)) := by
    funext xs
    rw [tU, tN, nD_ints]
  have e2 : xs.map tU = (xs.map fun xs => xs.map fun k : Nat => (k : Int)).map tN := by rw [e, List.map_map]; rfl
  rw [e2]
  refine dSorted_tN (by rw [List.length_map]; exact hl) fun x hx => ?_
  obtain ⟨y, hy, rfl⟩ := List.mem_map.mp hx
  exact fun z => h y hy (List.map_eq_nil_iff.mp z)
theorem rng_len {w : Web} (h : w.rs.length ≤ 1000000) : small62 (w.rs.length : Int) = true := small62_nat h
end Pv

namespace Pv
open PySem PySem.Spec L2
variable [TabL]
mutual
/-- no cell within -/
def hdFree : D → Bool
  | .hd _ => false
  | .tup xs => hdFreeAll xs
  | .lst xs => hdFreeAll xs
  | .dct _ kvs => hdFreeKv kvs
  | _ => true
def hdFreeAll : List D → Bool
  | [] => true
  | x :: xs => hdFree x && hdFreeAll xs
def hdFreeKv : List (D × D) → Bool
  | [] => true
  | (_, x) :: xs => hdFree x && hdFreeKv xs
end
section
variable {K : PySem.W.Frag} {φ : List Addr} {G : Hp}
mutual
theorem Rep.noHd : ∀ {v : V} {d : D}, hdFree d = true → Rep K φ G v d → Rep K [] G v d
  | _, _, _, .non => .non
  | _, _, _, .bl b => .bl b
  | _, _, _, .int b => .int b
  | _, _, _, .str b => .str b
  | _, _, h, .tup s a => .tup s (RepA.noHd (by rw [hdFree] at h; exact h) a)
  | _, _, h, .lst s a => .lst s (RepA.noHd (by rw [hdFree] at h; exact h) a)
  | _, _, h, .dK s a => .dK s (RepK.noHd (by rw [hdFree] at h; exact h) a)
  | _, _, h, .dT s a => .dT s (RepT.noHd (by rw [hdFree] at h; exact h) a)
  | _, _, h, .hd e => by rw [hdFree] at h; cases h
  | _, _, _, .scr e => .scr e
theorem RepA.noHd : ∀ {v : List V} {d : List D}, hdFreeAll d = true → RepA K φ G v d → RepA K [] G v d
  | _, _, _, .nil => .nil
  | _, _, h, .cons a b => by
    rw [hdFreeAll, Bool.and_eq_true] at h
    exact .cons (Rep.noHd h.1 a) (RepA.noHd h.2 b)
theorem RepK.noHd : ∀ {v : List (Key × V)} {d : List (D × D)}, hdFreeKv d = true → RepK K φ G v d → RepK K [] G v d
  | _, _, _, .nil => .nil
  | _, _, h, .cons a b => by
    rw [hdFreeKv, Bool.and_eq_true] at h
    exact .cons (Rep.noHd h.1 a) (RepK.noHd h.2 b)
theorem RepT.noHd : ∀ {v : List (List Key × V)} {d : List (D × D)}, hdFreeKv d = true → RepT K φ G v d → RepT K [] G v d
  | _, _, _, .nil => .nil
  | _, _, h, .cons a b => by
    rw [hdFreeKv, Bool.and_eq_true] at h
    exact .cons (Rep.noHd h.1 a) (RepT.noHd h.2 b)
end
theorem Own.noHd {o : HO} {d : D} (h : hdFree d = true) (w : Own K φ G o d) : Own K [] G o d := by
  cases w with
  | lst r => exact .lst (RepA.noHd (by rw [hdFree] at h; exact h) r)
  | dK r => exact .dK (RepK.noHd (by rw [hdFree] at h; exact h) r)
  | dT r => exact .dT (RepT.noHd (by rw [hdFree] at h; exact h) r)
end
def quietSlot : Slot → Slot
  | .own d => if hdFree d then .fro d else .non
  | .fro d => if hdFree d then .fro d else .non
  | .non => .non
def scalarD : D → Bool
  | .non => true
  | .bl _ => true
  | .int _ => true
  | .str _ => true
  | _ => false
theorem scalar_any {K : PySem.W.Frag} {φ φ' : List Addr} {G G' : Hp} {v : V} {d : D} (h : scalarD d = true) (r : Rep K φ G v d) : Rep K φ' G' v d := by
  cases r with
  | non => exact .non
  | bl b => exact .bl b
  | int b => exact .int b
  | str b => exact .str b
  | _ => cases h
def kQuiet (s : Sg) (p : RV × Sg) : Option (RV × Sg) := match p.1 with
  | .fro d => if scalarD d then some (.fro d, s) else none
  | .own _ => none
def evQuiet (ev : Ev RV) : Ev RV := fun s => (ev ⟨s.env.map quietSlot, []⟩).bind (kQuiet s)
theorem quietSlot_fro {sl : Slot} {d : D} (h : quietSlot sl = .fro d) : (sl = .fro d ∨ sl = .own d) ∧ hdFree d = true := by
  cases sl with
  | non => cases h
  | fro x =>
    by_cases hf : hdFree x = true
    · have e : quietSlot (.fro x) = .fro x := if_pos hf
      rw [e] at h; cases h
      exact ⟨.inl rfl, hf⟩
    · have e : quietSlot (.fro x) = .non := if_neg hf
      rw [e] at h; cases h
  | own x =>
    by_cases hf : hdFree x = true
    · have e : quietSlot (.own x) = .fro x := if_pos hf
      rw [e] at h; cases h
      exact ⟨.inr rfl, hf⟩
    · have e : quietSlot (.own x) = .non := if_neg hf
      rw [e] at h; cases h
theorem quietSlot_own {sl : Slot} {d : D} (h : quietSlot sl = .own d) : False := by
  cases sl with
  | non => cases h
  | fro x =>
    by_cases hf : hdFree x = true
    · have e : quietSlot (.fro x) = .fro x := if_pos hf
      rw [e] at h; cases h
    · have e : quietSlot (.fro x) = .non := if_neg hf
      rw [e] at h; cases h
  | own x =>
    by_cases hf : hdFree x = true
    · have e : quietSlot (.own x) = .fro x := if_pos hf
      rw [e] at h; cases h
    · have e : quietSlot (.own x) = .non := if_neg hf
      rw [e] at h; cases h
theorem sm_over {g : Gh} {G : Hp} {φ : List Addr} {s : Sg} {σ : St} {H : Hp} (R : Rel g G φ s σ H) : Same G (over (ownW s.env σ H) G) := fun a o e => by
  unfold over
  cases e2 : ownW s.env σ H a with
  | none => exact e
  | some x =>
    have h1 := (ownW_some e2).1
    have h2 := R.sub a o e
    rw [h1] at h2
    exact h2
theorem quiet_rel {g : Gh} {G : Hp} {φ : List Addr} {s : Sg} {σ : St} {H : Hp} (R : Rel g G φ s σ H) :
    Rel ⟨g.K, ntH H, fun a => H a ≠ none, fun _ => False, over (ownW s.env σ H) G, []⟩ (over (ownW s.env σ H) G) [] ⟨s.env.map quietSlot, []⟩ σ H := by
  have sm : Same G (over (ownW s.env σ H) G) := fun a o e => by
    unfold over
    cases e2 : ownW s.env σ H a with
    | none => exact e
    | some x =>
      have h1 := (ownW_some e2).1
      have h2 := R.sub a o e
      rw [h1] at h2
      exact h2
  have sh : Same (over (ownW s.env σ H) G) H := fun a o e => by
    rcases over_some e with e | ⟨_, e⟩
    · exact (ownW_some e).1
    · exact R.sub a o e
  refine ⟨sh, Same.refl _, fun a o e => .inl e, fun a o e => (ntH_some e).1, fun a u => u, fun a z => z.elim, List.prefix_refl _, by simpa using R.len, fun i d e => ?_, fun i d e => ?_, fun i j d e p _ h => ?_, rfl, fun n a c e => by simp at e, List.nodup_nil, fun b o e => (ntH_some e).2, R.tab.1, fun q hq => ?tb⟩
  case tb =>
    cases e : over (ownW s.env σ H) G q.1 with
    | none => rfl
    | some o =>
      rcases over_some e with e | ⟨_, e⟩
      · obtain ⟨e1, i, d, e2, e3⟩ := ownW_some e
        obtain ⟨p, o', b1, b2, b3, _⟩ := R.own i d e2
        rw [e3] at b1
        cases b1
        obtain ⟨ps, y, _⟩ := R.tab.1 q hq
        rw [b2] at y
        exact absurd (Option.some.inj y) (b3.nt ps)
      · rw [R.tab.2 q hq] at e; cases e
  · rw [List.getElem?_map] at e
    obtain ⟨sl, e1, e2⟩ := map_some_iff e
    obtain ⟨h | h, hf⟩ := quietSlot_fro e2
    · subst h
      obtain ⟨v, h1, h2⟩ := R.fro i _ e1
      exact ⟨v, h1, Rep.noHd hf (h2.mono sm (List.prefix_refl _))⟩
    · subst h
      obtain ⟨p, o, h1, h2, h3, h4, _⟩ := R.own i _ e1
      refine ⟨.ref p, h1, ?_⟩
      have hw : over (ownW s.env σ H) G p = some o := by
        have : ownW s.env σ H p = some o := by
          unfold ownW
          rw [if_pos ⟨i, _, e1, h1⟩]
          exact h2
        unfold over
        rw [this]
      exact Own.rep sm hw (Own.noHd hf h3)
  · rw [List.getElem?_map] at e
    obtain ⟨sl, e1, e2⟩ := map_some_iff e
    exact (quietSlot_own e2).elim
  · rw [List.getElem?_map] at h
    obtain ⟨sl, e1, e2⟩ := map_some_iff h
    exact (quietSlot_own e2).elim
theorem sr_quiet {X : Cx} {e : Expr} {ev : Ev RV} (h : SR X e ev) : SR X e (evQuiet ev) := pe_imp h fun σ H Q ⟨g, G, φ, s, r, s', hK, R, he, q⟩ => by
  obtain ⟨⟨r1, s1⟩, e1, he⟩ := bind_some_iff he
  cases r1 with
  | own d => cases he
  | fro d =>
    have he : (if scalarD d then some (RV.fro d, s) else none) = some (r, s') := he
    split at he
    · rename_i hs
      cases he
      refine ⟨⟨g.K, ntH H, fun a => H a ≠ none, fun _ => False, over (ownW s.env σ H) G, []⟩, over (ownW s.env σ H) G, [], ⟨s.env.map quietSlot, []⟩, .fro d, s1, hK, quiet_rel R, e1, fun G' φ' H' v R' h1 h2 x => ?_⟩
      have gr : Grow G H G H' := ⟨⟨fun b o e n => R'.old b o (ntH_of e n), fun b e => Classical.byContradiction fun z => R'.use b z e, fun _ => R'.tab.1⟩, Same.refl _, (sm_over R).trans (h1.trans R'.sub), fun _ _ e => .inl e⟩
      refine q G φ H' v (R.grow gr) (Same.refl _) (List.prefix_refl _) (.fro ?_)
      cases x with
      | fro rp => exact scalar_any hs rp
    · cases he
@[simp] theorem kQuiet_bl (s s1 : Sg) (b : Bool) : kQuiet s (.fro (.bl b), s1) = some (.fro (.bl b), s) := rfl
@[simp] theorem evQuiet_ap (ev : Ev RV) (s : Sg) : evQuiet ev s = (ev ⟨s.env.map quietSlot, []⟩).bind (kQuiet s) := rfl
end Pv

namespace Pv
open PySem PySem.Spec L2
variable [TabL]
theorem repA_rg {K : PySem.W.Frag} {φ : List Addr} {G : Hp} (a b : Int) : RepA K φ G (rgV a b) (upTo a (b - a).toNat) := by
  have : ∀ l : List Nat, RepA K φ G (l.map fun i => V.int (a + (i : Nat))) (l.map fun i => D.int (a + (i : Nat))) := by
    intro l
    induction l with
    | nil => exact .nil
    | cons x l ih => exact .cons (.int _) ih
  exact this _
def kRgL (p : RV × Sg) : Option (RV × Sg) := match p.1 with
  | .fro (.int j) => if small62 j then some (.own (.lst (upTo 0 j.toNat)), p.2) else none
  | _ => none
def kRgT (p : RV × Sg) : Option (RV × Sg) := match p.1 with
  | .fro (.int j) => if small62 j then some (.fro (.tup (upTo 0 j.toNat)), p.2) else none
  | _ => none
def evRgL (a : Ev RV) : Ev RV := fun s => (a s).bind kRgL
def evRgT (a : Ev RV) : Ev RV := fun s => (a s).bind kRgT
@[simp] theorem evRgL_ap (a : Ev RV) (s : Sg) : evRgL a s = (a s).bind kRgL := rfl
@[simp] theorem evRgT_ap (a : Ev RV) (s : Sg) : evRgT a s = (a s).bind kRgT := rfl
@[simp] theorem kRgL_ap (j : Int) (s : Sg) : kRgL (.fro (.int j), s) = if small62 j then some (.own (.lst (upTo 0 j.toNat)), s) else none := rfl
@[simp] theorem kRgT_ap (j : Int) (s : Sg) : kRgT (.fro (.int j), s) = if small62 j then some (.fro (.tup (upTo 0 j.toNat)), s) else none := rfl
theorem rgOk_small {j : Int} (h : small62 j = true) : RgOk 0 j := by
  unfold small62 at h
  rw [Bool.and_eq_true, decide_eq_true_eq, decide_eq_true_eq] at h
  exact ⟨by omega, by omega, by omega, by omega, by omega⟩
section
variable {X : Cx} {e : Expr} {a : Ev RV} {p p2 pos pos2 : Pos}
/-- list(range(e)) -/
theorem sr_rgL (hc : X.calm = true) (hg : Gl X "list") (hm : X.mg "list" = none) (hg2 : Gl X "range") (hm2 : X.mg "range" = none) (ha : SR X e a) (n1 : starEach [e] X.env = (false, eval e X.env) :: starEach [] X.env := by rfl)
    (n2 : starEach [.Call (.Name "range" p2) [e] [] pos2] X.env = (false, eval (.Call (.Name "range" p2) [e] [] pos2) X.env) :: starEach [] X.env := by rfl) : SR X (.Call (.Name "list" p) [.Call (.Name "range" p2) [e] [] pos2] [] pos) (evRgL a) :=
  pe_imp (pe_listRg hc hg hm (prg_1 hg2 hm2 ha n1) n2) fun σ H Q ⟨g, G, φ, s, r, s', hK, R, he, q⟩ => by
    obtain ⟨⟨x, s1⟩, e1, he⟩ := bind_some_iff he
    cases x with
    | own d => cases he
    | fro d =>
      cases d with
      | int j =>
        have he : (if small62 j then some (RV.own (.lst (upTo 0 j.toNat)), s1) else none) = some (r, s') := he
        split at he
        · rename_i hj
          cases he
          refine ⟨g, G, φ, s, .fro (.int j), _, hK, R, e1, fun G1 φ1 H1 v R1 h1 h2 x => ?_⟩
          cases x with
          | fro rp =>
            cases rp
            refine ⟨j, rfl, rgOk_small hj, fun b hb => ?_⟩
            have gr := Grow.aside R1.sub (o := .lst (rgV 0 j)) hb
            have ra := repA_rg (K := g.K) (φ := φ1) (G := G1) 0 j
            rw [Int.sub_zero] at ra
            exact q G1 φ1 _ _ (R1.grow gr) h1 h2 (.own (Fresh.of_new R1 gr hb upd_same (R1.sub.free hb) (.lst ra)))
        · cases he
      | _ => cases he
/-- tuple(range(e)) -/
theorem sr_rgT (hc : X.calm = true) (hg : Gl X "tuple") (hm : X.mg "tuple" = none) (hg2 : Gl X "range") (hm2 : X.mg "range" = none) (ha : SR X e a) (n1 : starEach [e] X.env = (false, eval e X.env) :: starEach [] X.env := by rfl)
    (n2 : starEach [.Call (.Name "range" p2) [e] [] pos2] X.env = (false, eval (.Call (.Name "range" p2) [e] [] pos2) X.env) :: starEach [] X.env := by rfl) : SR X (.Call (.Name "tuple" p) [.Call (.Name "range" p2) [e] [] pos2] [] pos) (evRgT a) :=
  pe_imp (pe_tupRg hc hg hm (prg_1 hg2 hm2 ha n1) n2) fun σ H Q ⟨g, G, φ, s, r, s', hK, R, he, q⟩ => by
    obtain ⟨⟨x, s1⟩, e1, he⟩ := bind_some_iff he
    cases x with
    | own d => cases he
    | fro d =>
      cases d with
      | int j =>
        have he : (if small62 j then some (RV.fro (.tup (upTo 0 j.toNat)), s1) else none) = some (r, s') := he
        split at he
        · rename_i hj
          cases he
          refine ⟨g, G, φ, s, .fro (.int j), _, hK, R, e1, fun G1 φ1 H1 v R1 h1 h2 x => ?_⟩
          cases x with
          | fro rp =>
            cases rp
            refine ⟨j, rfl, rgOk_small hj, fun b hb => ?_⟩
            have gr := Grow.laid R1.sub (o := .tup (rgV 0 j)) hb
            have ra := repA_rg (K := g.K) (φ := φ1) (G := upd G1 b (.tup (rgV 0 j))) 0 j
            rw [Int.sub_zero] at ra
            exact q _ φ1 _ _ (R1.grow gr) (h1.trans gr.gg) h2 (.fro (.tup upd_same ra))
        · cases he
      | _ => cases he
end
end Pv

namespace Pv
open PySem PySem.Spec L2
variable [TabL]
/-- put in, where it is not yet -/
def insU (x : Int) : List Int → List Int
  | [] => [x]
  | y :: ys => if x < y then x :: y :: ys else if x = y then y :: ys else y :: insU x ys
def sortU : List Int → List Int
  | [] => []
  | x :: xs => insU x (sortU xs)
theorem insU_mem {x k : Int} : ∀ {ys : List Int}, k ∈ insU x ys ↔ k = x ∨ k ∈ ys
  | [] => by simp [insU]
  | y :: ys => by
    unfold insU
    split
    · simp
    · split
      · rename_i h; subst h; simp
      · rw [List.mem_cons, insU_mem, List.mem_cons]
        constructor
        · rintro (h | h | h)
          · exact .inr (.inl h)
          · exact .inl h
          · exact .inr (.inr h)
        · rintro (h | h | h)
          · exact .inr (.inl h)
          · exact .inl h
          · exact .inr (.inr h)
theorem insU_pair {x : Int} : ∀ {ys : List Int}, ys.Pairwise (· < ·) → (insU x ys).Pairwise (· < ·)
  | [], _ => by simp [insU]
  | y :: ys, h => by
    rw [List.pairwise_cons] at h
    unfold insU
    split
    · rename_i hxy
      rw [List.pairwise_cons]
      refine ⟨fun z hz => ?_, List.pairwise_cons.mpr h⟩
      rcases List.mem_cons.mp hz with rfl | hz
      · exact hxy
      · have := h.1 z hz; omega
    · split
      · exact List.pairwise_cons.mpr h
      · rename_i h1 h2
        rw [List.pairwise_cons]
        refine ⟨fun z hz => ?_, insU_pair h.2⟩
        rcases insU_mem.mp hz with rfl | hz
        · omega
        · exact h.1 z hz
theorem sortU_pair : ∀ xs : List Int, (sortU xs).Pairwise (· < ·)
  | [] => List.Pairwise.nil
  | x :: xs => insU_pair (sortU_pair xs)
theorem sortU_mem {k : Int} : ∀ {xs : List Int}, k ∈ sortU xs ↔ k ∈ xs
  | [] => by simp [sortU]
  | x :: xs => by rw [sortU, insU_mem, sortU_mem, List.mem_cons]
theorem strict_eq : ∀ {xs ys : List Int}, xs.Pairwise (· < ·) → ys.Pairwise (· < ·) → (∀ k, k ∈ xs ↔ k ∈ ys) → xs = ys
  | [], [], _, _, _ => rfl
  | [], y :: ys, _, _, h => absurd ((h y).mpr (.head _)) (by simp)
  | x :: xs, [], _, _, h => absurd ((h x).mp (.head _)) (by simp)
  | x :: xs, y :: ys, h1, h2, h => by
    rw [List.pairwise_cons] at h1 h2
    have e : x = y := by
      have a := (h x).mp (.head _)
      have b := (h y).mpr (.head _)
      rcases List.mem_cons.mp a with a | a
      · exact a
      · rcases List.mem_cons.mp b with b | b
        · exact b.symm
        · have := h2.1 x a
          have := h1.1 y b
          omega
    subst e
    rw [strict_eq h1.2 h2.2 fun k => ?_]
    have hk := h k
    rw [List.mem_cons, List.mem_cons] at hk
    constructor
    · intro m
      rcases hk.mp (.inr m) with e | m'
      · subst e; have := h1.1 k m; omega
      · exact m'
    · intro m
      rcases hk.mpr (.inr m) with e | m'
      · subst e; have := h2.1 k m; omega
      · exact m'
def dSortSet : D → Option RV := fun d => match d with
  | .tup ds => (intsOf ds).bind fun ns => if ns.length ≤ 60 then some (.own (.lst ((sortU ns).map .int))) else none
  | _ => none
def kSSet (p : Bor × Sg) : Option (RV × Sg) := ((fetch p.2 p.1).bind dSortSet).map (kPair p.2)
def evSSet (a : Ev Bor) : Ev RV := fun s => (a s).bind kSSet
@[simp] theorem evSSet_ap (a : Ev Bor) (s : Sg) : evSSet a s = (a s).bind kSSet := rfl
@[simp] theorem kSSet_ap (x : Bor) (s : Sg) : kSSet (x, s) = ((fetch s x).bind dSortSet).map (kPair s) := rfl
/-- sorted(set(e)) -/
theorem sr_sortSet {X : Cx} {e : Expr} {a : Ev Bor} {p p2 q pos : Pos} (hc : X.calm = true) (hg : Gl X "sorted") (hm : X.mg "sorted" = none) (hg2 : Gl X "set") (hm2 : X.mg "set" = none) (ha : SB X e a)
    (na : starEach [e] X.env = (false, eval e X.env) :: starEach [] X.env := by rfl) : SR X (.Call (.Name "sorted" p) [.Call (.Name "set" p2) [e] [] q] [] pos) (evSSet a) := by
  refine ⟨fun pins s σ H Q I h => ?_⟩
  obtain ⟨g, G, φ, s0, r, s', hK, R, he, qq⟩ := h
  obtain ⟨⟨b, s1⟩, e1, he⟩ := bind_some_iff he
  obtain ⟨r2, e2, he⟩ := map_some_iff he
  obtain ⟨d, e3, e4⟩ := bind_some_iff e2
  cases he
  unfold dSortSet at e4
  split at e4
  · rename_i ds
    obtain ⟨ns, e5, e6⟩ := bind_some_iff e4
    split at e6
    · rename_i hl
      cases e6
      refine PyProof.Rows.Call_ (ld_blt I hg hm PyProof.Rows.boot_sorted ?_)
      refine PyProof.Rows.callWith_builtin1 (PyProof.Rows.args_cons ?_ rfl) rfl rfl
      refine PyProof.Rows.Call_ (ld_blt I hg2 hm2 PyProof.Rows.boot_set ?_)
      refine PyProof.Rows.callWith_type1 (PyProof.Rows.args_cons (thn (ha.run pins s σ H (fun v H1 => ∃ G1 φ1, Rel g G1 φ1 s1 σ H1 ∧ Same G G1 ∧ φ <+: φ1 ∧ BorRep g.K φ1 G1 σ v b) I ⟨g, G, φ, s0, b, s1, hK, R, e1, fun G1 φ1 H1 v R1 h1 h2 x => ⟨G1, φ1, R1, h1, h2, x⟩⟩) fun v t1 ⟨x, H1, I1, r1, q1⟩ => PyProof.Rows.args_nil ?_) na) na rfl
      obtain ⟨G1, φ1, R1, h1, h2, br⟩ := q1
      have o := R1.fetch br e3
      obtain ⟨l, vs, rfl, st, ra⟩ := o.tup R1.sub
      cases r1
      have hv := ra.ints e5
      subst hv
      obtain ⟨its, rv, pt, hz⟩ := I1.tuple (SqT.of st)
      have hi : PyProof.Rows.IntsAre its.toArray.toList ns := ints_of_vals rv
      refine call_set_tupI (P := X.prog) (w := X.w) ns (I1.ok.hd hc) (show t1.heap.IsTuple l its.toArray from pt) hi (by unfold scanBound; omega) fun h' tk c RS hcn k => ?_
      have I2 : Inv X pins σ H1 { t1 with heap := h', toks := tk } := I1.kept k
      have RS2 : SetR X.w ({ t1 with heap := h', toks := tk } : Shared).heap t1.heap.objs.size (fun j => decide (j ∈ ns)) c := RS
      refine PyProof.Rows.args_nil ?_
      generalize ({ t1 with heap := h', toks := tk } : Shared) = t3 at RS2 I2 ⊢
      refine sorted_set RS2 (I2.ok.hd hc) (by omega) fun t2 q2 out c2 ms k2 gg oo hp hget hints hpair hmem hlen => ?_
      have em : ms = sortU ns := strict_eq hpair (sortU_pair ns) fun j => by rw [hmem j, sortU_mem]; simp
      have hz2 : (ms.map V.int).length ≤ sizeLine := by rw [List.length_map, hlen, sizeLine_eq]; omega
      have hn : H1 q2 = none := I2.hok.fresh hp
      have J : Inv X pins σ (upd H1 q2 (.lst (ms.map V.int))) { t3 with heap := t2.heap, gens := t2.gens, drawn := t2.drawn, toks := t2.toks } :=
        I2.call (ch := []) (Un.laid k2 hp hn) (I2.hok.laid k2 hp ⟨hz2, out.toList, c2, vals_of_ints hints, hget⟩) (by rw [gg]; exact I2.bare) (fun _ z => nomatch z)
      have e : t2 = { t3 with heap := t2.heap, gens := t2.gens, drawn := t2.drawn, toks := t2.toks } := by
        cases t2
        cases t3
        cases oo
        rfl
      rw [e]
      refine ⟨.ref q2, _, J, rfl, ?_⟩
      have gr := Grow.aside R1.sub (o := .lst (ms.map V.int)) hn
      subst em
      exact qq G1 φ1 _ _ (R1.grow gr) h1 h2 (.own (Fresh.of_new R1 gr hn upd_same (R1.sub.free hn) (.lst (RepA.ofInts _))))
    · cases e6
  · cases e4
end Pv

namespace Pv
open PySem PySem.Spec L2 PyProof.Rows
variable [TabL]
/-- the tuple at a, its items in new pairs with their numbers -/
def IteT (K : PySem.W.Frag) (a : Addr) : It where
  go := fun i H => ∃ (xs : List V) (x : V), SqT K H a xs ∧ xs[i]? = some x
  yld := fun i H v H' => ∃ T x, v = .ref T ∧ H T = none ∧ H' = upd H T (.tup [.int (i : Nat), x]) ∧ ∀ xs, SqT K H a xs → xs[i]? = some x
  stop := fun i H => ∃ xs : List V, SqT K H a xs ∧ xs.length ≤ i
theorem turn_enumT {P : Program} {w : World} {K : PySem.W.Frag} {es : List Expr} {k0 : Nat} {tp : Pos} (a e it : Addr) :
    Turn P w K (.Tuple es k0 tp) (IteT K a) [e, it] e (fun i h => (∃ v0, IsEnum h e it ((i : Nat) : Int) v0) ∧ h.IsTupleIter it a i ∧ e ≠ it ∧ a ≠ it ∧ e ≠ a) where
  mem := List.mem_cons_self
  obj := fun i h st b hb => by
    obtain ⟨⟨v0, h1⟩, ⟨o, h2, h3, h4⟩, _⟩ := st
    rcases List.mem_cons.mp hb with z | z
    · rw [z]
      exact ⟨_, h1, fun v q => nomatch q⟩
    · rw [List.mem_singleton] at z
      exact ⟨o, z ▸ h2, fun v q => by rw [h4] at q; cases q⟩
  keep := fun i h h' st k => by
    obtain ⟨⟨v0, h1⟩, h2, h3⟩ := st
    exact ⟨⟨v0, k e List.mem_cons_self _ h1⟩, h2.at fun o q => k it (List.mem_cons_of_mem _ List.mem_cons_self) o q, h3⟩
  item := by
    intro X hP hw hK hc i pins s σ H E I hf st hg
    subst hP hw hK
    obtain ⟨⟨v0, h1⟩, h2, n1, n2, n3⟩ := st
    obtain ⟨xs, x, hq, hx⟩ := hg
    obtain ⟨its, rv, pt, hz⟩ := I.tuple hq
    obtain ⟨u, hu, ru⟩ := rv.get hx
    have le : e < s.heap.objs.size := Heap.lt_size h1
    have li : it < s.heap.objs.size := by obtain ⟨_, q, _⟩ := h2; exact Heap.lt_size q
    have D := Draws.tuple (prog := X.prog) (w := X.w) (A := X.A.in1) (I.ok.hd hc) it a n2 its.toArray
    have il : i < its.toArray.size := by
      rw [List.size_toArray]
      exact (List.getElem?_eq_some_iff.mp hu).1
    refine wpAny_pyNext_enum_itemD D h1 ⟨h2, pt⟩ il n1 (fun hm => ?_) fun y h' tk hy ho hst hT hsz hk => ?_
    · rcases List.mem_cons.mp hm with z | z
      · exact n1 z
      · exact n3 (List.mem_singleton.mp z)
    have ey : y = u := by
      rw [List.getElem?_toArray, hu] at hy
      cases hy; rfl
    subst ey
    refine ⟨_, rfl, wpAny_letOwnedTupleGo_enum (s := { s with heap := h', toks := tk + 1 }) ho fun h2' he' sb => ?_⟩
    have hT2 : h2'.get? s.heap.objs.size = some { cls := .type "tuple", data := .seq #[.int i tk, y] } := (sb.2 _ (Nat.ne_of_gt le)).trans hT
    have new : ObjOk X.prog X.w (upd H s.heap.objs.size (.tup [.int (i : Nat), x])) h2' s.heap.objs.size (.tup [.int (i : Nat), x]) :=
      ⟨by show 2 ≤ sizeLine; decide, [.int i tk, y], .cons ⟨_, rfl⟩ (.cons ru .nil), ⟨_, hT2, rfl, _, rfl⟩⟩
    have J : Inv X pins σ (upd H s.heap.objs.size (.tup [.int (i : Nat), x])) { s with heap := h2', toks := tk + 1 } :=
      I.turnedNew (ch := [e, it]) (fun b ob hb q => (sb.2 b (fun z => hb (z ▸ List.mem_cons_self))).trans (hk b ob (fun z => hb (z ▸ List.mem_cons_self)) (fun z => hb (z ▸ List.mem_cons_of_mem _ List.mem_cons_self)) q)) hf (Nat.le_refl _) new
    refine ⟨.ref s.heap.objs.size, _, J, rfl, ⟨_, x, rfl, I.hok.fresh (Nat.le_refl _), rfl, fun ys hy => by rw [I.tuple_inj hy hq]; exact hx⟩, ⟨⟨y, ?_⟩, hst.1.at fun o q => (sb.2 it (Ne.symm n1)).trans q, n1, n2, n3⟩, fun b hb => ?_⟩
    · rw [show ((i + 1 : Nat) : Int) = (i : Int) + 1 from by omega]
      exact he'
    · have lb : b < s.heap.objs.size := by
        rcases List.mem_cons.mp hb with z | z
        · rw [z]; exact le
        · rw [List.mem_singleton.mp z]; exact li
      rw [upd_ne (Nat.ne_of_lt lb)]
      exact (hf b hb).1
  done := by
    intro X hP hw hK hc i pins s σ H E I hf st hg
    subst hP hw hK
    obtain ⟨⟨v0, h1⟩, h2, n1, n2, n3⟩ := st
    obtain ⟨xs, hq, hx⟩ := hg
    obtain ⟨its, rv, pt, hz⟩ := I.tuple hq
    obtain ⟨f0, f1, f2, f3, f4, f5⟩ := hf it (List.mem_cons_of_mem _ List.mem_cons_self)
    have hl := rv.length
    have none_ : its.toArray[i]? = none := by rw [List.getElem?_toArray]; exact List.getElem?_eq_none (by omega)
    have D : Draws X.prog X.w X.A.in1 it [it, a] i (fun _ _ => True) (fun j h => j = i ∧ h.IsTupleIter it a i ∧ h.IsTuple a its.toArray) :=
      { live := fun j h st => by obtain ⟨_, ⟨o, ho, _⟩, _⟩ := st; exact ⟨o, ho⟩
        frame := fun j h h' st hk => ⟨st.1, st.2.1.at fun o q => hk it List.mem_cons_self o q, st.2.2.at fun o q => hk a (List.mem_cons_of_mem _ List.mem_cons_self) o q⟩
        item := fun j s Q E hj st hQ => absurd st.1 (Nat.ne_of_lt hj)
        done := fun s Q E st hE => wpAny_nextOf_tuple_end (I.ok.hd hc) st.2.1 st.2.2 none_ hE }
    exact wpAny_pyNext_enum_endD D h1 ⟨rfl, h2, pt⟩ fun h' eb => ⟨rfl, I.turned (t' := s.toks) (fun b o hb q => eb b o hb q) f0 f1 f3 f4 f5⟩
  self := fun A i s Q E st q => by
    obtain ⟨⟨_, h1⟩, _⟩ := st
    exact wpAny_pyIter_enum h1 q
set_option maxHeartbeats 1000000 in
theorem meets_enum1 {v : Value} {o : Obj} {H : Heap → Prop} (B : Begins v o H) :
    Meets (Builtin.«enumerate.__new__» ⟨[.type "enumerate", v], []⟩) (fun _ R s => H s.heap ∧
      R (.ok (.ret (.ref (s.heap.push o).objs.size))) { s with heap := (s.heap.push o).push { cls := .type "enumerate", data := .fields #[.none, .bool false, .ref s.heap.objs.size, rawInt 0, .none, .none] } }) := by
  refine .of_wp fun prog w A R s h => ?_
  obtain ⟨hp, g, d, tk, os⟩ := s
  obtain ⟨h1, h⟩ := h
  have hsub := sub_enumerate
  have q1 : ∀ {A' : Around} {E Q : Value → Shared → Prop}, Q (.ref hp.objs.size) ⟨hp.push o, g, d, tk, os⟩ → wpAny (model prog w) A' (pyIter v) Q E ⟨hp, g, d, tk, os⟩ := fun q => B.iter prog w _ _ ⟨hp, g, d, tk, os⟩ _ h1 q
  wp_walk using q1
  refine wpAny_stack_any fun st => wpAny_pure ?_
  split
  · rename_i c _ _ _ _ _
    cases (c == Value.type "enumerate")
    · wp_walk using q1
      exact ⟨_, rfl, h⟩
    · wp_walk using q1
      exact ⟨_, rfl, h⟩
  · wp_walk using q1
    exact ⟨_, rfl, h⟩
theorem call_enumT {pr : Program} {wd : World} {A : Around} {E Q : Value → Shared → Prop} {s : Shared} {t : Addr} {items : Array Value} (ht : s.heap.IsTuple t items)
    (h : ∀ h', IsEnum h' (s.heap.objs.size + 1) s.heap.objs.size 0 .none → h'.IsTupleIter s.heap.objs.size t 0 → (∀ b o, s.heap.get? b = some o → h'.get? b = some o) → Q (.ref (s.heap.objs.size + 1)) { s with heap := h' }) :
    wpAny (model pr wd) A (PySem.call (.type "enumerate") [.ref t]) Q E s := by
  have B := begins_tuple t items
  refine callType_new F.called_enumerate (by decide) (F.typeCall_enumerate_1 _) (F.newCall_enumerate_1 _) (fun obj => F.args_object_init_2 obj _) F.entry_enumerate_new (meets_enum1 B) ⟨ht, ?_⟩
  have hz : (s.heap.push { cls := .type "tuple_iterator", data := .fields #[.ref t, .int 0 0] }).objs.size = s.heap.objs.size + 1 := Heap.size_push ..
  show _ ∧ _
  rw [hz]
  have he : IsEnum ((s.heap.push { cls := .type "tuple_iterator", data := .fields #[.ref t, .int 0 0] }).push { cls := .type "enumerate", data := .fields #[.none, .bool false, .ref s.heap.objs.size, rawInt 0, .none, .none] }) (s.heap.objs.size + 1) s.heap.objs.size 0 .none := by
    have := Heap.get?_push_size (s.heap.push { cls := .type "tuple_iterator", data := .fields #[.ref t, .int 0 0] }) (o := { cls := .type "enumerate", data := .fields #[.none, .bool false, .ref s.heap.objs.size, rawInt 0, .none, .none] }) rfl
    rw [hz] at this
    exact this
  exact ⟨⟨_, he, rfl⟩, h _ he ⟨_, Heap.get?_push_of_some _ (Heap.get?_push_size _ rfl), rfl, rfl⟩ fun b o x => Heap.get?_push_of_some _ (Heap.get?_push_of_some _ x)⟩
/-- enumerate(e), e a list or a tuple -/
def iEnumLT (K : PySem.W.Frag) (ta : TA) : TI := fun σ H R => ta σ H fun vs H1 => ∃ a xs, vs = [.ref a] ∧ ((SqL K H1 a xs ∧ R (Ite K a) H1) ∨ (SqT K H1 a xs ∧ R (IteT K a) H1))
theorem pi_enumLT {X : Cx} {e : Expr} {ta : TA} {p pos tp : Pos} {es : List Expr} {k0 : Nat} (hg : Gl X "enumerate") (hm : X.mg "enumerate" = none) (ha : PA X [e] ta) (hs : starEach [e] X.env = [(false, eval e X.env)] := by rfl) :
    PI X (.Tuple es k0 tp) (.Call (.Name "enumerate" p) [e] [] pos) (iEnumLT X.K ta) := by
  refine ⟨fun pins s σ H R I h => ?_⟩
  refine Call_ (ld_blt I hg hm boot_enumerate (PyProof.Rows.callWith_type1 (thn (ha.run pos pins s σ H _ I h) fun us s1 ⟨vs, H1, I1, r1, q1⟩ => ?_) hs rfl))
  obtain ⟨a, xs, ex, q⟩ := q1
  subst ex
  cases r1 with
  | cons r rr =>
    cases rr
    cases r
    have fp : ∀ b, b = s1.heap.objs.size + 1 ∨ b = s1.heap.objs.size → s1.heap.objs.size ≤ b := fun b hb => by
      rcases hb with z | z
      · rw [z]; exact Nat.le_add_right _ _
      · rw [z]; exact Nat.le_refl _
    rcases q with ⟨hq, q⟩ | ⟨hq, q⟩
    · obtain ⟨its, rv, pl, hz⟩ := I1.list hq
      refine call_enumerate_list pl.isList fun h' he hit hsz hk => wpAny_pyIter_enum he ?_
      refine ⟨s1.heap.objs.size + 1, [s1.heap.objs.size + 1, s1.heap.objs.size], _, _, H1, rfl, I1.kept (t' := s1.toks) hk, turn_enum a (s1.heap.objs.size + 1) s1.heap.objs.size, ⟨⟨.none, he⟩, hit, Nat.succ_ne_self _⟩, fun b hb => ?_, q⟩
      have lb := fp b (by simpa using hb)
      exact I1.fpOk lb (I1.hok.fresh lb)
    · obtain ⟨its, rv, pt, hz⟩ := I1.tuple hq
      have la : a < s1.heap.objs.size := by obtain ⟨o, ho, _⟩ := pt; exact Heap.lt_size ho
      refine call_enumT (show s1.heap.IsTuple a its.toArray from pt) fun h' he hit hk => wpAny_pyIter_enum he ?_
      refine ⟨s1.heap.objs.size + 1, [s1.heap.objs.size + 1, s1.heap.objs.size], _, _, H1, rfl, I1.kept (t' := s1.toks) hk, turn_enumT a (s1.heap.objs.size + 1) s1.heap.objs.size, ⟨⟨.none, he⟩, hit, Nat.succ_ne_self _, Nat.ne_of_lt la, Nat.ne_of_gt (Nat.lt_succ_of_lt la)⟩, fun b hb => ?_, q⟩
      have lb := fp b (by simpa using hb)
      exact I1.fpOk lb (I1.hok.fresh lb)
def dEnumS : List D → Option (List D)
  | [.lst xs] => some (pairUp (upTo 0 xs.length) xs)
  | [.tup xs] => some (pairUp (upTo 0 xs.length) xs)
  | _ => none
@[simp] theorem dEnumS_lst (xs : List D) : dEnumS [.lst xs] = some (pairUp (upTo 0 xs.length) xs) := rfl
@[simp] theorem dEnumS_tup (xs : List D) : dEnumS [.tup xs] = some (pairUp (upTo 0 xs.length) xs) := rfl
theorem dEnumS_some {as r : List D} (h : dEnumS as = some r) : (∃ xs, as = [.lst xs] ∧ r = pairUp (upTo 0 xs.length) xs) ∨ ∃ xs, as = [.tup xs] ∧ r = pairUp (upTo 0 xs.length) xs := by
  unfold dEnumS at h
  split at h
  · cases h; exact .inl ⟨_, rfl, rfl⟩
  · cases h; exact .inr ⟨_, rfl, rfl⟩
  · cases h
theorem si_enumS {X : Cx} {a : Expr} {ta : Ev (List D)} {p pos tp : Pos} {es : List Expr} {k0 : Nat} (hg : Gl X "enumerate") (hm : X.mg "enumerate" = none) (ha : SA X [a] ta) (hs : starEach [a] X.env = [(false, eval a X.env)] := by rfl) :
    SI X (.Tuple es k0 tp) (.Call (.Name "enumerate" p) [a] [] pos) (evArgs dEnumS ta) := pi_imp (pi_enumLT hg hm ha hs) fun σ H R' ⟨g, G, φ, s, ds, s', hK, R, he, q⟩ => by
  obtain ⟨⟨as, s1⟩, e1, he⟩ := bind_some_iff he
  obtain ⟨ds2, e2, he⟩ := map_some_iff he
  cases he
  refine ⟨g, G, φ, s, as, s1, hK, R, e1, fun G1 φ1 H1 vs R1 h1 h2 ra => ?_⟩
  rcases dEnumS_some (show dEnumS as = some _ from e2) with ⟨xs', rfl, rfl⟩ | ⟨xs', rfl, rfl⟩
  · skip
    obtain ⟨v, rfl, r1⟩ := ra.one
    cases r1 with
    | lst s1' a1 =>
      rename_i vs0
      refine ⟨_, vs0, rfl, .inl ⟨SqL.of (R1.sub _ _ s1'), q _ G1 φ1 H1 R1 h1 h2 ?_⟩⟩
      have hl : (pairUp (upTo 0 xs'.length) xs').length = xs'.length := by rw [pairUp_len]; unfold upTo; simp
      refine itOk_pairs (Gd := fun H => SqL X.K H _ vs0) ⟨fun i H hi q => ?_, fun H q => ?_, fun i H v H' hi q y => ?_⟩ (fun Gc Hc g1 g2 => SqL.of (g2 _ _ (g1 _ _ s1'))) (repA_upTo xs'.length) a1
      · rw [hl, ← a1.length] at hi
        exact ⟨_, _, q, List.getElem?_eq_getElem hi⟩
      · exact ⟨_, q, by rw [hl, a1.length]; exact Nat.le_refl _⟩
      · obtain ⟨T, x, g1, g2, g3, g4⟩ := y
        refine ⟨T, _, x, g1, g2, g3, ?_, g4 _ q⟩
        rw [hl] at hi
        show ((List.range xs'.length).map fun i => V.int (0 + (i : Nat)))[i]? = _
        rw [List.getElem?_map, List.getElem?_range hi]
        simp
  · skip
    obtain ⟨v, rfl, r1⟩ := ra.one
    cases r1 with
    | tup s1' a1 =>
      rename_i vs0
      refine ⟨_, vs0, rfl, .inr ⟨SqT.of (R1.sub _ _ s1'), q _ G1 φ1 H1 R1 h1 h2 ?_⟩⟩
      have hl : (pairUp (upTo 0 xs'.length) xs').length = xs'.length := by rw [pairUp_len]; unfold upTo; simp
      refine itOk_pairs (Gd := fun H => SqT X.K H _ vs0) ⟨fun i H hi q => ?_, fun H q => ?_, fun i H v H' hi q y => ?_⟩ (fun Gc Hc g1 g2 => SqT.of (g2 _ _ (g1 _ _ s1'))) (repA_upTo xs'.length) a1
      · rw [hl, ← a1.length] at hi
        exact ⟨_, _, q, List.getElem?_eq_getElem hi⟩
      · exact ⟨_, q, by rw [hl, a1.length]; exact Nat.le_refl _⟩
      · obtain ⟨T, x, g1, g2, g3, g4⟩ := y
        refine ⟨T, _, x, g1, g2, g3, ?_, g4 _ q⟩
        rw [hl] at hi
        show ((List.range xs'.length).map fun i => V.int (0 + (i : Nat)))[i]? = _
        rw [List.getElem?_map, List.getElem?_range hi]
        simp
end Pv

namespace Pv
open PySem PySem.Spec L2 PyProof.Rows
variable [TabL]
mutual
theorem py_inj : ∀ (n : Nat) (a b : D), eqOk n a = true → eqOk n b = true → py a = py b → a = b
  | n, .non, b, _, hb, e => by cases b <;> first | rfl | (exfalso; cases n <;> simp [eqOk] at hb; done) | (simp [py] at e)
  | n, .bl x, b, _, hb, e => by cases b <;> first | (simp [py] at e; rw [e]) | (simp [py] at e) | (cases n <;> simp [eqOk] at hb)
  | n, .int x, b, _, hb, e => by cases b <;> first | (simp [py] at e; rw [e]) | (simp [py] at e) | (cases n <;> simp [eqOk] at hb)
  | n, .str x, b, _, hb, e => by cases b <;> first | (simp [py] at e; rw [e]) | (simp [py] at e) | (cases n <;> simp [eqOk] at hb)
  | 0, .tup xs, b, ha, hb, e => by simp [eqOk] at ha
  | 0, .lst xs, b, ha, hb, e => by simp [eqOk] at ha
  | n + 1, .tup xs, b, ha, hb, e => by
    cases b with
    | tup ys =>
      simp [py] at e
      rw [pyAll_inj n xs ys ha hb e]
    | dct _ _ => simp [eqOk] at hb
    | hd _ => simp [eqOk] at hb
    | scr _ => simp [eqOk] at hb
    | _ => simp [py] at e
  | n + 1, .lst xs, b, ha, hb, e => by
    cases b with
    | lst ys =>
      simp [py] at e
      rw [pyAll_inj n xs ys ha hb e]
    | dct _ _ => simp [eqOk] at hb
    | hd _ => simp [eqOk] at hb
    | scr _ => simp [eqOk] at hb
    | _ => simp [py] at e
  | n, .dct _ _, b, ha, _, _ => by cases n <;> simp [eqOk] at ha
  | n, .hd _, b, ha, _, _ => by cases n <;> simp [eqOk] at ha
  | n, .scr _, b, ha, _, _ => by cases n <;> simp [eqOk] at ha
theorem pyAll_inj : ∀ (n : Nat) (xs ys : List D), xs.all (eqOk n) = true → ys.all (eqOk n) = true → pyAll xs = pyAll ys → xs = ys
  | n, [], [], _, _, _ => rfl
  | n, x :: xs, [], _, _, e => by simp [pyAll] at e
  | n, [], y :: ys, _, _, e => by simp [pyAll] at e
  | n, x :: xs, y :: ys, ha, hb, e => by
    rw [List.all_cons, Bool.and_eq_true] at ha hb
    simp [pyAll] at e
    rw [py_inj n x y ha.1 hb.1 e.1, pyAll_inj n xs ys ha.2 hb.2 e.2]
end
/-- the first of the least; of the greatest -/
def minDD (d : D) (ds : List D) : D := ds.foldl (fun a y => if PySem.W.dataLt (py y) (py a) then y else a) d
def maxDD (d : D) (ds : List D) : D := ds.foldl (fun a y => if PySem.W.dataLt (py a) (py y) then y else a) d
theorem minDD_py : ∀ (ds : List D) (d : D), py (minDD d ds) = PySem.W.minD (py d) (ds.map py)
  | [], d => rfl
  | y :: ds, d => by
    show py (minDD (if PySem.W.dataLt (py y) (py d) then y else d) ds) = PySem.W.minD (if PySem.W.dataLt (py y) (py d) then py y else py d) (ds.map py)
    rw [minDD_py ds]
    split <;> rfl
theorem maxDD_py : ∀ (ds : List D) (d : D), py (maxDD d ds) = PySem.W.maxD (py d) (ds.map py)
  | [], d => rfl
  | y :: ds, d => by
    show py (maxDD (if PySem.W.dataLt (py d) (py y) then y else d) ds) = PySem.W.maxD (if PySem.W.dataLt (py d) (py y) then py y else py d) (ds.map py)
    rw [maxDD_py ds]
    split <;> rfl
theorem minDD_mem : ∀ (ds : List D) (d : D), minDD d ds ∈ d :: ds
  | [], d => .head _
  | y :: ds, d => by
    show minDD (if PySem.W.dataLt (py y) (py d) then y else d) ds ∈ _
    have := minDD_mem ds (if PySem.W.dataLt (py y) (py d) then y else d)
    rcases List.mem_cons.mp this with h | h
    · rw [h]; split <;> simp
    · exact .tail _ (.tail _ h)
theorem maxDD_mem : ∀ (ds : List D) (d : D), maxDD d ds ∈ d :: ds
  | [], d => .head _
  | y :: ds, d => by
    show maxDD (if PySem.W.dataLt (py d) (py y) then y else d) ds ∈ _
    have := maxDD_mem ds (if PySem.W.dataLt (py d) (py y) then y else d)
    rcases List.mem_cons.mp this with h | h
    · rw [h]; split <;> simp
    · exact .tail _ (.tail _ h)
def mmOk (ds : List D) : Bool := ds.all (eqOk 40) && ds.all (fun a => ds.all fun b => PySem.W.alike (py a) (py b)) && ds.all isNeTup
def dMinA : OpN := fun xs => match dMin xs with
  | some r => some r
  | none => match xs with
    | [.lst (d :: ds)] => if mmOk (d :: ds) then some (.fro (minDD d ds)) else none
    | _ => none
def dMaxA : OpN := fun xs => match dMax xs with
  | some r => some r
  | none => match xs with
    | [.lst (d :: ds)] => if mmOk (d :: ds) then some (.fro (maxDD d ds)) else none
    | _ => none
theorem minA_of {xs : List D} {r : RV} (h : dMin xs = some r) : dMinA xs = some r := by unfold dMinA; rw [h]
theorem maxA_of {xs : List D} {r : RV} (h : dMax xs = some r) : dMaxA xs = some r := by unfold dMaxA; rw [h]
section
variable {X : Cx}
theorem readsAll_of {K : PySem.W.Frag} {φ : List Addr} {G H : Hp} {pins : List (Addr × Obj)} {σ : L2.St} {s : Shared} (I : Inv X pins σ H s) : ∀ {vs : List V} {its : List Value} {ds : List D}, Vals vs its → RepA X.K φ H vs ds → ds.all (eqOk 40) = true → ∃ as, ReadsAll s.heap its (ds.map py) as
  | _, _, _, .nil, .nil, _ => ⟨_, .nil⟩
  | _, _, _, .cons r rs, .cons p ps, h => by
    rw [List.all_cons, Bool.and_eq_true] at h
    obtain ⟨as, e⟩ := Dp.reads I _ _ _ (rep_dp 40 h.1 p) r
    obtain ⟨bs, e2⟩ := readsAll_of (K := K) (G := G) I rs ps h.2
    exact ⟨_, .cons e e2⟩
theorem vals_get {vs : List V} {its : List Value} (h : Vals vs its) : ∀ (i : Nat) (u : Value), its[i]? = some u → ∃ v, vs[i]? = some v ∧ RelV v u := by
  induction h with
  | nil => intro i u e; simp at e
  | cons r _ ih =>
    intro i u e
    cases i with
    | zero => simp at e; subst e; exact ⟨_, rfl, r⟩
    | succ i => exact ih i u (by simpa using e)
theorem repA_get {K : PySem.W.Frag} {φ : List Addr} {G : Hp} {vs : List V} {ds : List D} (h : RepA K φ G vs ds) : ∀ (i : Nat) (v : V), vs[i]? = some v → ∃ d, ds[i]? = some d ∧ Rep K φ G v d := by
  induction vs generalizing ds with
  | nil => intro i v e; simp at e
  | cons x xs ih =>
    cases h with
    | cons r rs =>
      intro i v e
      cases i with
      | zero => simp at e; subst e; exact ⟨_, rfl, r⟩
      | succ i => exact ih rs i v (by simpa using e)
theorem mm_alike {d : D} {ds : List D} (h : mmOk (d :: ds) = true) : PySem.W.AlikeAll (py d :: ds.map py) ∧ (d :: ds).all (eqOk 40) = true ∧ PyData.depthAll (py d :: ds.map py) ≤ 40 := by
  unfold mmOk at h
  rw [Bool.and_eq_true, Bool.and_eq_true] at h
  obtain ⟨⟨h1, h2⟩, h3⟩ := h
  have mem : ∀ x ∈ py d :: ds.map py, ∃ a ∈ d :: ds, py a = x := fun x hx => by
    rw [← List.map_cons] at hx
    exact List.mem_map.mp hx
  refine ⟨⟨fun x hx y hy => ?_, fun x hx => ?_⟩, h1, ?_⟩
  · obtain ⟨a, ha, rfl⟩ := mem x hx
    obtain ⟨b, hb, rfl⟩ := mem y hy
    exact List.all_eq_true.mp (List.all_eq_true.mp h2 a ha) b hb
  · obtain ⟨a, ha, rfl⟩ := mem x hx
    obtain ⟨y, r, e⟩ := py_tup_cons (List.all_eq_true.mp h3 a ha)
    rw [e]; simp
  · have key : ∀ ds : List D, ds.all (eqOk 40) = true → PyData.depthAll (ds.map py) ≤ 40 := by
      intro ds
      induction ds with
      | nil => intro _; simp [PyData.depthAll]
      | cons a as ih =>
        intro h
        rw [List.all_cons, Bool.and_eq_true] at h
        have e1 := (eqOk_py 40 a h.1).2
        have e2 := ih h.2
        simp [PyData.depthAll]; omega
    exact key (d :: ds) h1
theorem mm_core (hc : X.calm = true) (hu : X.A.units + 100 < cLine) {φ : List Addr} {G H : Hp} {pins : List (Addr × Obj)} {σ : L2.St} {s : Shared} {Q : VK} {a : Addr} {vs : List V} {d : D} {ds : List D} {m : D} {nm : String} (I : Inv X pins σ H s) (sub : Same G H) (s1 : H a = some (.lst vs)) (r1 : RepA X.K φ G vs (d :: ds)) (hk : mmOk (d :: ds) = true) (hm : m ∈ d :: ds)
    (hnm : (nm = "min" ∧ py m = PySem.W.minD (py d) (ds.map py)) ∨ (nm = "max" ∧ py m = PySem.W.maxD (py d) (ds.map py)))
    (q : OkRes X.K φ G H (.fro m) Q) : wpAny (model X.prog X.w) X.A (PySem.call (.builtin nm) [.ref a]) (EP X pins σ Q) X.xe s := by
  obtain ⟨al, ok, dp⟩ := mm_alike hk
  obtain ⟨its, rv, pl, hz⟩ := I.list (SqL.of s1)
  have r2 : RepA X.K φ H vs (d :: ds) := r1.mono sub (List.prefix_refl _)
  obtain ⟨as, ra⟩ := readsAll_of (K := X.K) (G := G) I rv r2 ok
  have fin : ∀ (i : Nat) v h' tk bs, its.toArray[i]? = some v → Reads h' v (py m) bs → (∀ b o, s.heap.get? b = some o → h'.get? b = some o) → EP X pins σ Q v { s with heap := h', toks := tk } := by
    intro i v h' tk bs hv hr hk'
    have hv' : its[i]? = some v := by simpa using hv
    obtain ⟨x, hx, rx⟩ := vals_get rv i v hv'
    obtain ⟨e, he, re⟩ := repA_get r1 i x hx
    have hee : eqOk 40 e = true := List.all_eq_true.mp ok e (List.mem_of_getElem? he)
    obtain ⟨cs, rr⟩ := Dp.reads I _ _ _ (rep_dp 40 hee (re.mono sub (List.prefix_refl _))) rx
    have eq : py m = py e := (Reads.unique hr (py e) cs (PySem.W.reads_keeps hk' rr)).1
    have em : m = e := py_inj 40 m e (List.all_eq_true.mp ok m hm) hee eq
    subst em
    exact ⟨x, H, I.kept hk', rx, q G H x (Grow.refl sub) (.fro re)⟩
  rcases hnm with ⟨rfl, e⟩ | ⟨rfl, e⟩
  · exact PySem.W.min_list_data (I.ok.hd hc) pl.isList (by simpa using ra) al (by omega) fun i v h' tk bs hv hr hk' => fin i v h' tk bs hv (e ▸ hr) hk'
  · exact PySem.W.max_list_data (I.ok.hd hc) pl.isList (by simpa using ra) al (by omega) fun i v h' tk bs hv hr hk' => fin i v h' tk bs hv (e ▸ hr) hk'
theorem dcall_minA (hc : X.calm = true) (hu : X.A.units + 100 < cLine) : DCall X (.builtin "min") dMinA := fun pins s σ H xs us Q I rx ⟨φ, G, ds, r, sub, hx, hf, q⟩ => by
  unfold dMinA at hf
  split at hf
  · rename_i r' e
    cases hf
    exact dcall_min hc pins s σ H xs us Q I rx ⟨φ, G, ds, r, sub, hx, e, q⟩
  · split at hf
    · rename_i d ds'
      split at hf
      · rename_i hk
        cases hf
        obtain ⟨v, rfl, o⟩ := hx.one
        obtain ⟨a, vs, rfl, s1, r1⟩ := o.lst sub
        rw [Vals.ref1 rx]
        exact mm_core hc hu I sub s1 r1 hk (minDD_mem _ _) (.inl ⟨rfl, minDD_py _ _⟩) q
      · cases hf
    · cases hf
theorem dcall_maxA (hc : X.calm = true) (hu : X.A.units + 100 < cLine) : DCall X (.builtin "max") dMaxA := fun pins s σ H xs us Q I rx ⟨φ, G, ds, r, sub, hx, hf, q⟩ => by
  unfold dMaxA at hf
  split at hf
  · rename_i r' e
    cases hf
    exact dcall_max hc pins s σ H xs us Q I rx ⟨φ, G, ds, r, sub, hx, e, q⟩
  · split at hf
    · rename_i d ds'
      split at hf
      · rename_i hk
        cases hf
        obtain ⟨v, rfl, o⟩ := hx.one
        obtain ⟨a, vs, rfl, s1, r1⟩ := o.lst sub
        rw [Vals.ref1 rx]
        exact mm_core hc hu I sub s1 r1 hk (maxDD_mem _ _) (.inr ⟨rfl, maxDD_py _ _⟩) q
      · cases hf
    · cases hf
end
end Pv
namespace Pv
open PySem PySem.Spec L2
variable [TabL]
theorem scalar_all {K : PySem.W.Frag} {φ φ' : List Addr} {G G' : Hp} : ∀ {vs : List V} {ds : List D}, ds.all scalarD = true → RepA K φ G vs ds → RepA K φ' G' vs ds
  | _, _, _, .nil => .nil
  | _, _, h, .cons r rs => by
    rw [List.all_cons, Bool.and_eq_true] at h
    exact .cons (scalar_any h.1 r) (scalar_all h.2 rs)
def kQuietL (s : Sg) (p : RV × Sg) : Option (RV × Sg) := match p.1 with
  | .own (.lst ds) => if ds.all scalarD then some (.own (.lst ds), s) else none
  | _ => none
def evQuietL (ev : Ev RV) : Ev RV := fun s => (ev ⟨s.env.map quietSlot, []⟩).bind (kQuietL s)
theorem quietL_core {K : PySem.W.Frag} {ev : Ev RV} {σ : St} {H : Hp} {Q : VK} (hh : tR K (evQuietL ev) σ H Q) : tR K ev σ H Q := by
  obtain ⟨g, G, φ, s, r, s', hK, R, he, q⟩ := hh
  obtain ⟨⟨r1, s1⟩, e1, he⟩ := bind_some_iff he
  unfold kQuietL at he
  split at he
  · rename_i ds er
    have er : r1 = .own (.lst ds) := er
    subst er
    split at he
    · rename_i hs
      cases he
      refine ⟨⟨g.K, ntH H, fun a => H a ≠ none, fun _ => False, over (ownW s.env σ H) G, []⟩, over (ownW s.env σ H) G, [], ⟨s.env.map quietSlot, []⟩, .own (.lst ds), s1, hK, quiet_rel R, e1, fun G' φ' H' v R' h1 h2 x => ?_⟩
      have gr : Grow G H G H' := ⟨⟨fun b o e n => R'.old b o (ntH_of e n), fun b e => Classical.byContradiction fun z => R'.use b z e, fun _ => R'.tab.1⟩, Same.refl _, (sm_over R).trans (h1.trans R'.sub), fun _ _ e => .inl e⟩
      refine q G φ H' v (R.grow gr) (Same.refl _) (List.prefix_refl _) ?_
      cases x with
      | own F =>
        have hp : H _ = none := (Classical.not_not.mp F.up)
        refine .own (Fresh.of_new R gr hp F.at_ (R.sub.free hp) ?_)
        have ow := F.own
        cases ow with
        | lst ra => exact .lst (scalar_all hs ra)
    · cases he
  · cases he
theorem sr_quietL {X : Cx} {e : Expr} {ev : Ev RV} (h : SR X e ev) : SR X e (evQuietL ev) := pe_imp h fun _ _ _ hh => quietL_core hh
section
variable {X : Cx} {elt tg iter : Expr} {ifs : List Expr} {scope : Scope} {own : List (Str × Nat)} {pos : Pos} {it : Ev (List D)} {t : Tgt} {c : Ev Bool} {e : Ev RV}
theorem ss_setLcQ (cap : List Nat) (own : List (Str × Nat)) {i : Nat} {y : Str} {py spos : Pos} (hc : X.calm = true) (hN : X.N.Nodup) (hsw : swapsWith (.ListComp elt [⟨tg, iter, ifs, 0⟩] scope pos) (some (.Name y py)) spos.line X.env = pure true) (hi : SI X tg iter it) (ok : BlkOk X.N X.env.scope scope own)
    (hg : ∀ (s : Shared) (H : Hp) (C : Addr) (cl : List (Str × Addr)) (fp : List Addr), SG (X.blk s H scope (compEnvC scope cl C X.env) fp) (own.map (·.2)) tg t) (ht : ∀ (s : Shared) (H : Hp) (C : Addr) (cl : List (Str × Addr)) (fp : List Addr), STs (X.blk s H scope (compEnvC scope cl C X.env) fp) ifs c)
    (he : ∀ (s : Shared) (H : Hp) (C : Addr) (cl : List (Str × Addr)) (fp : List Addr), SR (X.blk s H scope (compEnvC scope cl C X.env) fp) elt e) (hs : ∀ x, foldedSetIterable iter X.env x = pure x := by intro _; rfl) (hy : X.N[i]? = some y := by rfl) (hyl : X.env.scope.names.lookup y = some .local := by rfl) :
    SS X (.Assign [.Name y py] (.ListComp elt [⟨tg, iter, ifs, 0⟩] scope pos) spos) (evSet i (evQuietL (evLc it cap (own.map (·.2)) t c e))) := ps_imp (ps_setLc (own := own) (g := tG X.K (own.map (fun x : Str × Nat => x.2)) t) (tt := tT X.K c) (te := tR X.K e) hc hN hy hyl hsw hi ok hg ht he hs) fun E σ H ⟨g, G, φ, s, o, s', hK, R, he, q⟩ => by
  obtain ⟨⟨p1, p2⟩, e1, he⟩ := map_some_iff he
  cases he
  exact lc_all (quietL_core ⟨g, G, φ, s, p1, p2, hK, R, e1, fun G' φ' H' v R' h1 h2 x => q G' φ' _ H' (R'.store i x) h1 h2⟩)
end
end Pv
namespace Pv
open PySem PySem.Spec L2
variable [TabL]
theorem Fresh.aside {g : Gh} {G : Hp} {φ : List Addr} {s : Sg} {σ : St} {H : Hp} {p : Addr} {o : HO} {d : D} (F : Fresh g G φ s σ H p o d) {t : Addr} {u : HO} (ht : H t = none) : Fresh g G φ s σ (upd H t u) p o d :=
  ⟨by rw [upd_ne (ne_of_none F.at_ ht)]; exact F.at_, F.own, F.gp, F.fp, F.up, F.ph, F.sl⟩
theorem Res.aside {g : Gh} {G : Hp} {φ : List Addr} {s : Sg} {σ : St} {H : Hp} {v : V} {r : RV} (x : Res g G φ s σ H v r) {t : Addr} {u : HO} (ht : H t = none) : Res g G φ s σ (upd H t u) v r := by
  cases x with
  | fro h => exact .fro h
  | own F => exact .own (F.aside ht)
theorem ss_parC {X : Cx} {i j : Nat} {x y : Str} {a b : Expr} {va vb : Ev RV} {px py pt pos : Pos} {kt k2 pt2} (hc : X.calm = true) (hN : X.N.Nodup) (ha : SR X a va) (hb : SR X b vb) (hi : X.N[i]? = some x := by rfl) (hj : X.N[j]? = some y := by rfl) (hij : i ≠ j := by decide)
    (hx : Loc X.env.scope x := by first | exact Or.inl rfl | exact Or.inr rfl) (hy : Loc X.env.scope y := by first | exact Or.inl rfl | exact Or.inr rfl)
    (hfx : X.fn x = true ∨ X.env.scope.names.lookup x = some .local := by first | exact .inl rfl | exact .inr rfl) (hfy : X.fn y = true ∨ X.env.scope.names.lookup y = some .local := by first | exact .inl rfl | exact .inr rfl)
    (hw : swappedStores [.Tuple [.Name x px, .Name y py] kt pt] (.Tuple [a, b] k2 pt2) X.env = pure none := by rfl)
    (hs : swapsWithSole [.Tuple [.Name x px, .Name y py] kt pt] (.Tuple [a, b] k2 pt2) pos.line X.env = pure false := by rfl)
    (h1 : starEach [a, b] X.env = (false, eval a X.env) :: starEach [b] X.env := by rfl) (h2 : starEach [b] X.env = (false, eval b X.env) :: starEach [] X.env := by rfl)
    (k1 : (assignEach [.Name x px, .Name y py] X.env).map (·.2) = assign (.Name x px) X.env :: (assignEach [.Name y py] X.env).map (·.2) := by rfl) (k2' : (assignEach [.Name y py] X.env).map (·.2) = assign (.Name y py) X.env :: (assignEach [] X.env).map (·.2) := by rfl)
    (hn : (assignEach [.Name x px, .Name y py] X.env).length = 2 := by rfl) (hst : (assignEach [.Name x px, .Name y py] X.env).findIdx? (·.1) = none := by rfl)
    (ht1 : (assignEach [.Tuple [.Name x px, .Name y py] kt pt] X.env).map (·.2) = [assign (.Tuple [.Name x px, .Name y py] kt pt) X.env] := by rfl) :
    SS X (.Assign [.Tuple [.Name x px, .Name y py] kt pt] (.Tuple [a, b] k2 pt2) pos) (evPar i j va vb) :=
  ps_imp (ps_asg (pe_tup (pa_cons ha (pa_cons hb pa_nil h2) h1)) (pg_tup (n := 2) hc (pgs_cons (pg_name hN hi hx hfx) (pgs_cons (pg_name hN hj hy hfy) pgs_nil k2') k1) hn hst) hs hw ht1) fun E σ H ⟨g, G, φ, s, o, s', hK, R, he, q⟩ => by
  obtain ⟨⟨p1, p2⟩, e1, he⟩ := bind_some_iff he
  obtain ⟨⟨q1, q2⟩, e2, he⟩ := map_some_iff he
  cases he
  refine ⟨g, G, φ, s, p1, p2, hK, R, e1, fun G1 φ1 H1 v R1 h1 h2 x => ?_⟩
  cases x with
  | fro rp =>
    refine ⟨g, G1, φ1, p2, q1, q2, hK, R1, e2, fun G2 φ2 H2 w R2 h3 h4 y => ⟨small (by decide : 2 ≤ 1000), fun t ht => ⟨t, _, rfl, SqT.of upd_same, rfl, _, _, rfl, _, _, rfl, rfl, ?_⟩⟩⟩
    have R2' := R2.grow (Grow.aside R2.sub (o := .tup [v, w]) ht)
    have y' := y.aside (u := .tup [v, w]) ht
    have S1 := R2'.store i (.fro (rp.mono h3 h4))
    refine q G2 φ2 _ _ (S1.store j (r := q1) ?_) (h1.trans h3) (h2.trans h4)
    cases y' with
    | fro ry => exact .fro ry
    | own F =>
      refine .own ⟨F.at_, F.own, F.gp, F.fp, F.up, F.ph, fun k e a1 a2 => ?_⟩
      by_cases hk : k = i
      · subst hk
        have a1 : (q2.env.set k (.fro _))[k]? = some (Slot.own e) := a1
        by_cases hl : k < q2.env.length
        · rw [List.getElem?_set_self hl] at a1; cases a1
        · rw [List.getElem?_eq_none (by simpa using hl)] at a1; cases a1
      · have a1 : (q2.env.set i (.fro _))[k]? = some (Slot.own e) := a1
        rw [List.getElem?_set_ne (Ne.symm hk)] at a1 a2
        exact F.sl k e a1 a2
  | @own p0 o0 d0 F1 =>
    refine ⟨g.hid (one _ _), G1, φ1, p2, q1, q2, hK, R1.pend F1, e2, fun G2 φ2 H2 w R2 h3 h4 y => ⟨small (by decide : 2 ≤ 1000), fun t ht => ⟨t, _, rfl, SqT.of upd_same, rfl, _, _, rfl, _, _, rfl, rfl, ?_⟩⟩⟩
    obtain ⟨R3, F3⟩ := R1.back F1 R2 h3 h4
    have R3' := R3.grow (Grow.aside R3.sub (o := .tup [.ref p0, w]) ht)
    have F3' := F3.aside (u := .tup [.ref p0, w]) ht
    have y' := y.aside (u := .tup [.ref p0, w]) ht
    have S1 := R3'.store i (.own F3')
    refine q G2 φ2 _ _ (S1.store j (r := q1) ?_) (h1.trans h3) (h2.trans h4)
    cases y' with
    | fro ry => exact .fro ry
    | own F =>
      have hne : over (one _ _) g.F _ = none := F.fp
      refine .own ⟨F.at_, F.own, F.gp, (over_none hne).2, F.up, F.ph, fun k e a1 a2 => ?_⟩
      by_cases hk : k = i
      · subst hk
        have hl : k < σ.length := by
          by_cases hl : k < σ.length
          · exact hl
          · rw [List.getElem?_eq_none (by simpa using hl)] at a2; cases a2
        rw [List.getElem?_set_self hl] at a2
        cases a2
        have := (over_none hne).1
        unfold one at this
        rw [upd_same] at this
        cases this
      · have a1 : (q2.env.set i (.own _))[k]? = some (Slot.own e) := a1
        rw [List.getElem?_set_ne (Ne.symm hk)] at a1 a2
        exact F.sl k e a1 a2
end Pv
namespace Pv
open PySem PySem.Spec L2
variable [TabL]
def dSortedA : OpN := fun xs => match dSorted xs with
  | some r => some r
  | none => match xs with
    | [.lst ds] => if ds.length ≤ 1 then some (.own (.lst ds)) else none
    | _ => none
theorem sortedA_of {xs : List D} {r : RV} (h : dSorted xs = some r) : dSortedA xs = some r := by unfold dSortedA; rw [h]
theorem dcall_sortedA {X : Cx} (hu : X.A.units + 100 < cLine) : DCall X (.builtin "sorted") dSortedA := fun pins s σ H xs us Q I rx ⟨φ, G, ds, r, sub, hx, hf, q⟩ => by
  unfold dSortedA at hf
  split at hf
  · rename_i r' e
    cases hf
    exact dcall_sorted hu pins s σ H xs us Q I rx ⟨φ, G, ds, r, sub, hx, e, q⟩
  · split at hf
    · rename_i ds'
      split at hf
      · rename_i hl1
        cases hf
        obtain ⟨v, rfl, o⟩ := hx.one
        obtain ⟨a, vs, rfl, s1, r1⟩ := o.lst sub
        obtain ⟨u, rfl, ru⟩ := rx.one
        cases ru
        have hlen := r1.length
        obtain ⟨its, rv, pl, hz⟩ := I.list (SqL.of s1)
        have hil : its.length = vs.length := rv.length.symm
        refine Srt.sorted_any pl.isList (by omega) (fun h => absurd h (by omega)) fun out hp => ?_
        have ho : out = its := by
          match its, hil with
          | [], _ => exact List.Perm.eq_nil hp
          | [x], _ => exact List.perm_singleton.mp hp
          | x :: y :: r, h => simp at h; omega
        subst ho
        obtain ⟨ep, he'⟩ := PyProof.Rows.sortedAll_at s.heap out out.toArray
        have fr : H (s.heap.objs.size + 1) = none := I.hok.fresh (Nat.le_succ _)
        refine ⟨.ref _, upd H (s.heap.objs.size + 1) (.lst vs), I.laid (t' := s.toks) (fun _ _ => PyProof.Rows.sortedAll_old) (Nat.le_succ _) ⟨by omega, out, ep, rv, he'⟩, rfl, q _ _ _ (Grow.aside sub fr) (.own fr upd_same (sub.free fr) (.lst r1))⟩
      · cases hf
    · cases hf
end Pv

namespace L2
open PySem PySem.Spec PyProof.Rows
section
variable {P : Program} {w : World} {A : Around} {E : Value → Shared → Prop} {s : Shared}
/-- a set that is just made -/
abbrev newSetO (w : World) : Obj := { cls := .type "set", dict := none, data := .set #[] 0 (.fresh 0 0 (!w.params.followText "set-order")) }
set_option maxHeartbeats 3200000 in
/-- a list of ints is put into a new set, one by one -/
theorem call_set_lstI {l : Addr} {items : Array Value} (ns : List Int) {Q : Value → Shared → Prop} (hh : A.handled = none) (hl : s.heap.IsList l items) (hit : IntsAre items.toList ns) (hb : ns.length + 1 < scanBound)
    (h : ∀ (h' : Heap) (tk c : Nat), SetR w h' s.heap.objs.size (fun j => decide (j ∈ ns)) c → c ≤ ns.length → (∀ b o, s.heap.get? b = some o → h'.get? b = some o) → Q (.ref s.heap.objs.size) { s with heap := h', toks := tk }) :
    wpAny (model P w) A (call (.type "set") [.ref l]) Q E s := by
  have sz : items.size = ns.length := by rw [← Array.length_toList]; exact IntsAre.length hit
  obtain ⟨o, ho, hcl, n, hdt⟩ := hl
  obtain ⟨oc, od, oa, os⟩ := o
  dsimp only at hcl hdt
  subst hcl
  subst hdt
  have ltl : l < s.heap.objs.size := Heap.lt_size ho
  obtain ⟨c0, tl, hmro⟩ := F.called_set.mro
  have a1 := F.called_set.made
  have a2 := F.called_set.sub
  have a3 := F.called_set.notType
  have a4 := F.called_set.canCreate
  have a5 := F.typeCall_set_1 (.ref l)
  refine wpAny_call (codeAny_of_tree ?_)
  show wpAny _ _ (callAny (.type "set") _) _ _ _
  refine wpAny_pure ⟨Code.quiet_builtin _ (by decide +kernel), codeAny_builtin F.entry_type_call ?_⟩
  rw [Around.under_plain (weight_type_call_type "set" [.ref l] []) rfl]
  repeat (any_goals (first | assumption | wp_step))
  -- the object is made
  refine codeAny_mono (code_set_led1 (.ref l) (E := E) (Q₁ := fun x t => x = .ref s.heap.objs.size ∧ t = { s with heap := s.heap.push (newSetO w) }) ⟨rfl, rfl⟩) fun r t hr => ?_
  cases r with
  | error e => exact hr
  | ok fl =>
    cases fl with
    | ret x =>
      obtain ⟨rfl, rfl⟩ := hr
      have at1 : (s.heap.push (newSetO w)).get? s.heap.objs.size = some (newSetO w) := Heap.get?_push_size _ rfl
      have ty1 : Shared.TypeIs { s with heap := s.heap.push (newSetO w) } (.ref s.heap.objs.size) "set" := ⟨_, at1, rfl⟩
      have b1 := F.called_set.init.lookup
      have b2 := F.called_set.init.bind (.ref s.heap.objs.size)
      repeat (any_goals (first | assumption | wp_step))
      -- it is filled
      refine codeAny_mono (codeAny_call_builtin (R := wants (fun r t => r = .none ∧ ∃ h' tk c, t = { s with heap := h', toks := tk } ∧ SetR w h' s.heap.objs.size (fun j => decide (j ∈ ns)) c ∧ c ≤ ns.length ∧ (∀ b o, s.heap.get? b = some o → h'.get? b = some o)) E) F.called_set.init.plain F.entry_set_init (check_set_init_1 ty1 ?_)) fun r t hr => ?_
      · have ho1 : (s.heap.push (newSetO w)).get? l = some { cls := .type "list", dict := od, data := .seq items n, slots := os } := Heap.get?_push_of_some _ ho
        have hl1 : (s.heap.push (newSetO w)).IsList l items := ⟨_, ho1, rfl, n, rfl⟩
        have d1 := F.sub_list_set
        have d2 := F.sub_list_frozenset
        have d3 : (Value.type "list" == Value.type "dict") = false := by decide
        unfold Builtin.«set.__init__» noKeywords Builtin.Frozenset.updateFrom
        generalize hI : pyIter = I
        wp_walk
        subst hI
        refine wpAny_pyIter_list hl1 ?_
        refine wpAny_bind (wpAny_runValue ?_)
        have n1 : (s.heap.push (newSetO w)).objs.size = s.heap.objs.size + 1 := Heap.size_push ..
        have ne1 : l ≠ (s.heap.push (newSetO w)).objs.size := by rw [n1]; exact Nat.ne_of_lt (Nat.lt_succ_of_lt ltl)
        have ne2 : s.heap.objs.size ∉ [(s.heap.push (newSetO w)).objs.size, l] := by
          rw [n1]; simp only [List.mem_cons, List.not_mem_nil, or_false, not_or]
          exact ⟨Nat.ne_of_lt (Nat.lt_succ_self _), Nat.ne_of_gt ltl⟩
        refine set_update_ints ((Walks.list (by simp [hh]) _ l ne1 items).toS) s.heap.objs.size ne2 ns sz hb (fun i v hv => ?_) (items.size - 0) 0 _ (by omega) (Nat.zero_le _) ⟨⟨_, Heap.get?_push_size _ rfl, rfl, rfl⟩, (hl1.push _)⟩ ?fresh ?full
        · have hi : i < ns.length := by rw [← sz]; exact (Array.getElem?_eq_some_iff.mp hv).1
          obtain ⟨u, e⟩ := PyProof.Rows.IntsAre.int_at hit i v (by rw [Array.getElem?_toList]; exact hv)
          refine ⟨ns[i], u, List.getElem?_eq_getElem hi, ?_⟩
          rw [e, List.getD_eq_getElem?_getD, List.getElem?_eq_getElem hi] <;> rfl
        case fresh => exact ⟨0, Nat.le_refl 0, setR_new_at (Heap.get?_push_of_some _ at1)⟩
        case full =>
          intro t c m hc R
          obtain ⟨h', g', d', tk, os'⟩ := t
          have eg : g' = s.gens := m.gens
          have ed : d' = s.drawn := m.drawn
          have eo : os' = s.os := m.os
          subst eg
          subst ed
          subst eo
          show wpAny _ _ _ _ _ _
          refine wpAny_pure ?_
          show wpAny _ _ (ret Value.none) _ _ _
          refine wpAny_pure ⟨rfl, h', tk, c, rfl, R, by rw [← sz]; exact hc, fun b o e => ?_⟩
          have lb : b < s.heap.objs.size := Heap.lt_size e
          refine m.heap b o ?_ (Heap.get?_push_of_some _ (Heap.get?_push_of_some _ e))
          rw [n1]; simp only [List.mem_cons, List.not_mem_nil, or_false, not_or]
          exact ⟨Nat.ne_of_lt lb, Nat.ne_of_lt (Nat.lt_succ_of_lt lb)⟩
      · cases r with
        | error e => exact hr
        | ok fl2 =>
          cases fl2 with
          | ret r =>
            obtain ⟨rfl, h', tk, c, rfl, R, hc, hk⟩ := hr
            repeat (any_goals (first | assumption | wp_step))
            exact h _ _ _ R hc hk
          | _ => exact hr.elim
    | _ => exact hr.elim
end
end L2

namespace Pv
open PySem PySem.Spec L2
variable [TabL]
def dSortSetL : D → Option RV := fun d => match d with
  | .lst ds => (intsOf ds).bind fun ns => if ns.length ≤ 60 then some (.own (.lst ((sortU ns).map .int))) else none
  | _ => none
def kSSetL (p : Bor × Sg) : Option (RV × Sg) := ((fetch p.2 p.1).bind dSortSetL).map (kPair p.2)
def evSSetL (a : Ev Bor) : Ev RV := fun s => (a s).bind kSSetL
@[simp] theorem evSSetL_ap (a : Ev Bor) (s : Sg) : evSSetL a s = (a s).bind kSSetL := rfl
@[simp] theorem kSSetL_ap (x : Bor) (s : Sg) : kSSetL (x, s) = ((fetch s x).bind dSortSetL).map (kPair s) := rfl
/-- sorted(set(e)), e a list -/
theorem sr_sortSetL {X : Cx} {e : Expr} {a : Ev Bor} {p p2 q pos : Pos} (hc : X.calm = true) (hg : Gl X "sorted") (hm : X.mg "sorted" = none) (hg2 : Gl X "set") (hm2 : X.mg "set" = none) (ha : SB X e a)
    (na : starEach [e] X.env = (false, eval e X.env) :: starEach [] X.env := by rfl) : SR X (.Call (.Name "sorted" p) [.Call (.Name "set" p2) [e] [] q] [] pos) (evSSetL a) := by
  refine ⟨fun pins s σ H Q I h => ?_⟩
  obtain ⟨g, G, φ, s0, r, s', hK, R, he, qq⟩ := h
  obtain ⟨⟨b, s1⟩, e1, he⟩ := bind_some_iff he
  obtain ⟨r2, e2, he⟩ := map_some_iff he
  obtain ⟨d, e3, e4⟩ := bind_some_iff e2
  cases he
  unfold dSortSetL at e4
  split at e4
  · rename_i ds
    obtain ⟨ns, e5, e6⟩ := bind_some_iff e4
    split at e6
    · rename_i hl
      cases e6
      refine PyProof.Rows.Call_ (ld_blt I hg hm PyProof.Rows.boot_sorted ?_)
      refine PyProof.Rows.callWith_builtin1 (PyProof.Rows.args_cons ?_ rfl) rfl rfl
      refine PyProof.Rows.Call_ (ld_blt I hg2 hm2 PyProof.Rows.boot_set ?_)
      refine PyProof.Rows.callWith_type1 (PyProof.Rows.args_cons (thn (ha.run pins s σ H (fun v H1 => ∃ G1 φ1, Rel g G1 φ1 s1 σ H1 ∧ Same G G1 ∧ φ <+: φ1 ∧ BorRep g.K φ1 G1 σ v b) I ⟨g, G, φ, s0, b, s1, hK, R, e1, fun G1 φ1 H1 v R1 h1 h2 x => ⟨G1, φ1, R1, h1, h2, x⟩⟩) fun v t1 ⟨x, H1, I1, r1, q1⟩ => PyProof.Rows.args_nil ?_) na) na rfl
      obtain ⟨G1, φ1, R1, h1, h2, br⟩ := q1
      have o := R1.fetch br e3
      obtain ⟨l, vs, rfl, st, ra⟩ := o.lst R1.sub
      cases r1
      have hv := ra.ints e5
      subst hv
      obtain ⟨its, rv, pt, hz⟩ := I1.list (SqL.of st)
      have hi : PyProof.Rows.IntsAre its.toArray.toList ns := ints_of_vals rv
      refine call_set_lstI (P := X.prog) (w := X.w) ns (I1.ok.hd hc) pt.isList hi (by unfold scanBound; omega) fun h' tk c RS hcn k => ?_
      have I2 : Inv X pins σ H1 { t1 with heap := h', toks := tk } := I1.kept k
      have RS2 : SetR X.w ({ t1 with heap := h', toks := tk } : Shared).heap t1.heap.objs.size (fun j => decide (j ∈ ns)) c := RS
      refine PyProof.Rows.args_nil ?_
      generalize ({ t1 with heap := h', toks := tk } : Shared) = t3 at RS2 I2 ⊢
      refine sorted_set RS2 (I2.ok.hd hc) (by omega) fun t2 q2 out c2 ms k2 gg oo hp hget hints hpair hmem hlen => ?_
      have em : ms = sortU ns := strict_eq hpair (sortU_pair ns) fun j => by rw [hmem j, sortU_mem]; simp
      have hz2 : (ms.map V.int).length ≤ sizeLine := by rw [List.length_map, hlen, sizeLine_eq]; omega
      have hn : H1 q2 = none := I2.hok.fresh hp
      have J : Inv X pins σ (upd H1 q2 (.lst (ms.map V.int))) { t3 with heap := t2.heap, gens := t2.gens, drawn := t2.drawn, toks := t2.toks } :=
        I2.call (ch := []) (Un.laid k2 hp hn) (I2.hok.laid k2 hp ⟨hz2, out.toList, c2, vals_of_ints hints, hget⟩) (by rw [gg]; exact I2.bare) (fun _ z => nomatch z)
      have e : t2 = { t3 with heap := t2.heap, gens := t2.gens, drawn := t2.drawn, toks := t2.toks } := by
        cases t2
        cases t3
        cases oo
        rfl
      rw [e]
      refine ⟨.ref q2, _, J, rfl, ?_⟩
      have gr := Grow.aside R1.sub (o := .lst (ms.map V.int)) hn
      subst em
      exact qq G1 φ1 _ _ (R1.grow gr) h1 h2 (.own (Fresh.of_new R1 gr hn upd_same (R1.sub.free hn) (.lst (RepA.ofInts _))))
    · cases e6
  · cases e4
end Pv

namespace Pv
open PySem PySem.Spec L2
variable [TabL]
/-- a key's body: names (the item is the first), ints, a[b], a[k:], (a, b), (a, b, c), a not in b -/
inductive KX where
  | nm (i : Nat) | int (i : Int) | ix (a b : KX) | cut (a : KX) (k : Nat) | pair (a b : KX) | trip (a b c : KX) | nin (a b : KX)
def kIx : D → D → Option D
  | .tup ds, .int i => if ds.length ≤ 1000 then atI ds i else none
  | _, _ => none
def kCut (k : Nat) : D → Option D
  | .tup ds => if k ≤ ds.length ∧ ds.length ≤ 1000 then some (.tup (ds.drop k)) else none
  | _ => none
def kNin : D → D → Option D
  | a, .tup ds => if eqOk 49 a && ds.all (eqOk 49) then some (.bl (!ds.any fun z => deq z a)) else none
  | _, _ => none
def KX.ev (ns : List D) : KX → Option D
  | .nm i => ns[i]?
  | .int i => some (.int i)
  | .ix a b => (a.ev ns).bind fun x => (b.ev ns).bind fun y => kIx x y
  | .cut a k => (a.ev ns).bind fun x => kCut k x
  | .pair a b => (a.ev ns).bind fun x => (b.ev ns).bind fun y => some (.tup [x, y])
  | .trip a b c => (a.ev ns).bind fun x => (b.ev ns).bind fun y => (c.ev ns).bind fun z => some (.tup [x, y, z])
  | .nin a b => (a.ev ns).bind fun x => (b.ev ns).bind fun y => kNin x y
mutual
/-- ints, truths, texts, tuples of these -/
def flatD : D → Bool
  | .tup xs => flatDs xs
  | .int _ => true
  | .bl _ => true
  | .str _ => true
  | _ => false
def flatDs : List D → Bool
  | [] => true
  | x :: xs => flatD x && flatDs xs
end
/-- the value u is the tree d, in the heap alone -/
def CR (h : Heap) (u : Value) (d : D) : Prop := ∃ as, Reads h u (py d) as
theorem CR.keeps {h h' : Heap} {u : Value} {d : D} (k : ∀ b o, h.get? b = some o → h'.get? b = some o) : CR h u d → CR h' u d := fun ⟨as, r⟩ => ⟨as, PySem.W.reads_keeps k r⟩
theorem CR.int {h : Heap} {u : Value} {i : Int} (r : CR h u (.int i)) : ∃ t, u = .int i t := by
  obtain ⟨as, r⟩ := r
  rw [py] at r
  cases r
  exact ⟨_, rfl⟩
theorem CR.of_int (h : Heap) (i : Int) (t : Tok) : CR h (.int i t) (.int i) := ⟨[], by rw [py]; exact .int i t⟩
theorem readsAll_get {h : Heap} : ∀ {us : List Value} {ds : List D} {as : List Addr}, ReadsAll h us (pyAll ds) as → us.length = ds.length ∧ ∀ (i : Nat) d, ds[i]? = some d → ∃ u, us[i]? = some u ∧ CR h u d
  | us, [], as, r => by
    rw [pyAll] at r
    cases r
    exact ⟨rfl, fun i d e => by simp at e⟩
  | us, d :: ds, as, r => by
    rw [pyAll] at r
    cases r with
    | cons r rs =>
      obtain ⟨h1, h2⟩ := readsAll_get rs
      refine ⟨congrArg Nat.succ h1, fun i x e => ?_⟩
      cases i with
      | zero =>
        cases e
        exact ⟨_, rfl, _, r⟩
      | succ i => exact h2 i x (by simpa using e)
theorem CR.tup {h : Heap} {u : Value} {ds : List D} (r : CR h u (.tup ds)) : ∃ a us, u = .ref a ∧ PyProof.Rows.IsTup h a us.toArray ∧ us.length = ds.length ∧ (∀ (i : Nat) d, ds[i]? = some d → ∃ u, us[i]? = some u ∧ CR h u d) ∧ ∃ as, ReadsAll h us (pyAll ds) as := by
  obtain ⟨as, r⟩ := r
  rw [py] at r
  cases r with
  | tuple h1 h2 h3 h4 =>
    obtain ⟨e1, e2⟩ := readsAll_get h4
    exact ⟨_, _, rfl, ⟨_, h1, h2, _, h3⟩, e1, e2, _, h4⟩
theorem CR.mk {h : Heap} {a : Addr} {us : List Value} {ds : List D} (ha : PyProof.Rows.IsTup h a us.toArray) (hl : us.length = ds.length) (hi : ∀ (i : Nat) d, ds[i]? = some d → ∃ u, us[i]? = some u ∧ CR h u d) : CR h (.ref a) (.tup ds) := by
  have key : ∀ (us : List Value) (ds : List D), us.length = ds.length → (∀ (i : Nat) d, ds[i]? = some d → ∃ u, us[i]? = some u ∧ CR h u d) → ∃ as, ReadsAll h us (pyAll ds) as := by
    intro us
    induction us with
    | nil =>
      intro ds hl _
      cases ds with
      | nil => exact ⟨[], by rw [pyAll]; exact .nil⟩
      | cons d ds => cases hl
    | cons u us ih =>
      intro ds hl hi
      cases ds with
      | nil => cases hl
      | cons d ds =>
        obtain ⟨u', e, as, r⟩ := hi 0 d rfl
        cases e
        obtain ⟨bs, rs⟩ := ih ds (Nat.succ.inj hl) fun i x e => by simpa using hi (i + 1) x (by simpa using e)
        exact ⟨as ++ bs, by rw [pyAll]; exact .cons r rs⟩
  obtain ⟨as, r⟩ := key us ds hl hi
  obtain ⟨o, h1, h2, n, h3⟩ := ha
  exact ⟨as, by rw [py]; exact .tuple h1 h2 h3 r⟩
mutual
theorem flat_as : ∀ (d : D), flatD d = true → ∀ {h : Heap} {v : Value} {as : List Addr}, Reads h v (py d) as → as = []
  | .non, e, _, _, _, _ => by simp [flatD] at e
  | .bl b, _, _, _, _, r => by rw [py] at r; cases r; rfl
  | .int b, _, _, _, _, r => by rw [py] at r; cases r; rfl
  | .str b, _, _, _, _, r => by rw [py] at r; cases r; rfl
  | .tup xs, e, _, _, _, r => by
    rw [py] at r
    rw [flatD] at e
    cases r with
    | tuple _ _ _ q => exact flats_as xs e q
  | .lst xs, e, _, _, _, _ => by simp [flatD] at e
  | .dct _ _, e, _, _, _, _ => by simp [flatD] at e
  | .hd _, e, _, _, _, _ => by simp [flatD] at e
  | .scr _, e, _, _, _, _ => by simp [flatD] at e
theorem flats_as : ∀ (ds : List D), flatDs ds = true → ∀ {h : Heap} {vs : List Value} {as : List Addr}, ReadsAll h vs (pyAll ds) as → as = []
  | [], _, _, _, _, r => by rw [pyAll] at r; cases r; rfl
  | d :: ds, e, _, _, _, r => by
    rw [pyAll] at r
    rw [flatDs, Bool.and_eq_true] at e
    cases r with
    | cons p q => rw [flat_as d e.1 p, flats_as ds e.2 q]; rfl
end
structure KN (env : Env) (names : List Str) (ds : List D) (h : Heap) : Prop where
  fr : ∃ m, h.Ns env.locals m ∧ ∀ (i : Nat) x d, names[i]? = some x → ds[i]? = some d → ∃ u, Look env h m x u ∧ CR h u d
theorem KN.keeps {env : Env} {names : List Str} {ds : List D} {h h' : Heap} (k : ∀ b o, h.get? b = some o → h'.get? b = some o) (x : KN env names ds h) : KN env names ds h' := by
  obtain ⟨m, hn, hl⟩ := x.fr
  refine ⟨m, hn.keeps k, fun i y d e1 e2 => ?_⟩
  obtain ⟨u, l, r⟩ := hl i y d e1 e2
  refine ⟨u, ?_, r.keeps k⟩
  rcases l with l | ⟨l1, c, l2, o, l3, l4⟩
  · exact .inl l
  · exact .inr ⟨l1, c, l2, o, k _ _ l3, l4⟩
/-- what comes of a body: the heap grew, the value is the tree -/
def KEnd (d : D) (s : Shared) (u : Value) (s' : Shared) : Prop := ∃ h' tk, s' = { s with heap := h', toks := tk } ∧ (∀ b o, s.heap.get? b = some o → h'.get? b = some o) ∧ CR h' u d
theorem KEnd.trans {d d' : D} {s s1 s2 : Shared} {u u' : Value} (a : KEnd d s u s1) (b : KEnd d' s1 u' s2) : KEnd d' s u' s2 := by
  obtain ⟨h1, t1, rfl, k1, r1⟩ := a
  obtain ⟨h2, t2, rfl, k2, r2⟩ := b
  exact ⟨h2, t2, rfl, fun x o e => k2 x o (k1 x o e), r2⟩
theorem KEnd.old {d d' : D} {s s1 s2 : Shared} {u u' : Value} (a : KEnd d s u s1) (b : KEnd d' s1 u' s2) : CR s2.heap u d := by
  obtain ⟨h1, t1, rfl, k1, r1⟩ := a
  obtain ⟨h2, t2, rfl, k2, r2⟩ := b
  exact r1.keeps k2
theorem KEnd.kn {d : D} {s s1 : Shared} {u : Value} {env : Env} {names : List Str} {ds : List D} (a : KEnd d s u s1) (k : KN env names ds s.heap) : KN env names ds s1.heap := by
  obtain ⟨h1, t1, rfl, k1, r1⟩ := a
  exact k.keeps k1
def KOk (sc : Scope) (names : List Str) (e : Expr) (kx : KX) : Prop := ∀ (P : Program) (w : World) (A : Around) (env : Env) (E : Value → Shared → Prop) (s : Shared) (ds : List D) (d : D), env.scope = sc → A.units + 100 < cLine → KN env names ds s.heap → kx.ev ds = some d →
  wpAny (model P w) A (eval e env) (KEnd d s) E s
section
variable {sc : Scope} {names : List Str} {a b c : Expr} {ka kb kc : KX} {pos p2 : Pos}
theorem kok_name {x : Str} (i : Nat) (hk : sc.kind = .function := by rfl) (hx : names[i]? = some x := by rfl) (hv : Vis sc x := by first | exact Or.inl rfl | exact Or.inr (Or.inl rfl) | exact Or.inr (Or.inr rfl)) (hd : (x == ("__debug__" : Str)) = false := by decide) (hcd : (x == ("__classdict__" : Str)) = false := by decide) :
    KOk sc names (.Name x pos) (.nm i) := fun P w A env E s ds d hsc hu kn he => by
  obtain ⟨m, hn, hl⟩ := kn.fr
  obtain ⟨u, l, r⟩ := hl i x d hx he
  have hk : env.scope.kind = .function := by rw [hsc]; exact hk
  have fin : KEnd d s u s := ⟨s.heap, s.toks, rfl, fun _ _ e => e, r⟩
  rcases l with ⟨h1, hm⟩ | ⟨h1, c, hc, hcell⟩
  · exact wpAny_Name (wpAny_loadName_local hk h1 hn hm fin) hd
  · rcases h1 with h1 | h1
    · exact wpAny_Name (wpAny_loadName_cell hk h1 hc hcell fin) hd
    · exact wpAny_Name (wpAny_loadName_free hk h1 hc hcell fin hcd) hd
theorem kok_int {i : Int} {j : Nat} : KOk sc names (.Constant (.int i) j pos) (.int i) := fun P w A env E s ds d hsc hu kn he => by
  cases he
  exact wpAny_Constant_int ⟨s.heap, _, rfl, fun _ _ e => e, CR.of_int _ _ _⟩
theorem kok_ix (ha : KOk sc names a ka) (hb : KOk sc names b kb) (hs : PlainIx b) : KOk sc names (.Subscript a b pos) (.ix ka kb) := fun P w A env E s ds d hsc hu kn he => by
  obtain ⟨x, e1, he⟩ := bind_some_iff he
  obtain ⟨y, e2, he⟩ := bind_some_iff he
  refine PyProof.Rows.Subscript_ (thn (ha P w A env E s ds x hsc hu kn e1) fun v s1 r1 => thn (hb P w A env E s1 ds y hsc hu (r1.kn kn) e2) fun u s2 r2 => ?_)
  have rv := r1.old r2
  have out := r1.trans r2
  obtain ⟨h2, t2, rfl, k2, ru⟩ := out
  cases x with
  | tup xs =>
    cases y with
    | int i =>
      have he : (if xs.length ≤ 1000 then atI xs i else none) = some d := he
      split at he
      · rename_i hl
        obtain ⟨q, us, rfl, it, e3, e4, _⟩ := rv.tup
        obtain ⟨t, rfl⟩ := ru.int
        obtain ⟨j, j1, j2, j3, j4, j5⟩ := atI_get he
        obtain ⟨z, z1, z2⟩ := e4 j d j2
        exact PyProof.Rows.subscriptTail_builtinR (x := z) it.typeIs PyProof.Rows.slot_tuple_getitem.lookup (PyProof.Rows.getItem_tuple (j := j) it (by omega) (by omega) (by rw [List.size_toArray, e3]; exact j1) (by simpa using z1) ⟨rfl, _, _, rfl, k2, z2⟩) (hs _ _)
      · cases he
    | _ => cases he
  | _ => cases he
theorem kok_cut (k : Nat) {v0 : Int} {j : Nat} {p3 : Pos} (ha : KOk sc names a ka) (hv : v0 = (k : Int) := by rfl) (hk : k ≠ 0 := by decide) : KOk sc names (.Subscript a (.Slice (some (.Constant (.int v0) j p3)) none none p2) pos) (.cut ka k) := fun P w A env E s ds d hsc hu kn he => by
  subst hv
  obtain ⟨x, e1, he⟩ := bind_some_iff he
  refine PyProof.Rows.Subscript_ (thn (ha P w A env E s ds x hsc hu kn e1) fun v s1 r1 => ?_)
  cases x with
  | tup xs =>
    have he : (if k ≤ xs.length ∧ xs.length ≤ 1000 then some (D.tup (xs.drop k)) else none) = some d := he
    split at he
    · rename_i hl
      cases he
      obtain ⟨h1, t1, rfl, k1, rv⟩ := r1
      refine wpAny_Slice ?_
      rw [evalPart_some]
      refine wpAny_Constant_int ?_
      rw [evalPart_none]
      refine wpAny_pure ?_
      refine wpAny_pure ?_
      have up : ∀ b u, h1.get? b = some u → (h1.push { cls := .type "slice", data := .fields #[.int (k : Int) t1, .none, .none] }).get? b = some u := fun b u q => Heap.get?_push_of_some _ q
      obtain ⟨q, us, rfl, it, e3, e4, _⟩ := (rv.keeps up).tup
      have sz : us.toArray.size = xs.length := by rw [List.size_toArray]; exact e3
      have z1 : HT.sIx us.toArray.size 0 (some (k : Int)) = k := by rw [HT.sIx_nat, sz]; omega
      have z2 : HT.sIx us.toArray.size us.toArray.size none = xs.length := sz
      have million : xs.length ≤ sizeLine := small hl.2
      refine PyProof.Rows.tail_any (ops := [.ref h1.objs.size, .ref q]) it.typeIs PyProof.Rows.slot_tuple_getitem.lookup (HT.getItem_tuple_cut (lo := some (k : Int)) (hi := none) it (Heap.IsSliceOf.new ..) (.int _ _) .none (by rw [z1]; omega) ?_ (by omega)) (by with_unfolding_all rfl)
      rw [z1, z2]
      have ee : (us.toArray.toList.drop k).take (xs.length - k) = us.drop k := by
        rw [List.take_of_length_le]
        · rw [List.length_drop]; simp; omega
      refine ⟨_, _, rfl, fun b u q => Heap.get?_push_of_some _ (up b u (k1 b u q)), ?_⟩
      refine CR.mk (us := us.drop k) ⟨_, Heap.get?_push_size _ rfl, rfl, _, by rw [ee]⟩ (by rw [List.length_drop, List.length_drop, e3]) fun i d hd => ?_
      rw [List.getElem?_drop] at hd
      obtain ⟨u, u1, u2⟩ := e4 _ d hd
      exact ⟨u, by rw [List.getElem?_drop]; exact u1, u2.keeps fun b u q => Heap.get?_push_of_some _ q⟩
    · cases he
  | _ => cases he
/-- what comes of a row of bodies -/
def KEnds (ds : List D) (s : Shared) (us : List Value) (s' : Shared) : Prop := ∃ h' tk, s' = { s with heap := h', toks := tk } ∧ (∀ b o, s.heap.get? b = some o → h'.get? b = some o) ∧ us.length = ds.length ∧ ∀ (i : Nat) d, ds[i]? = some d → ∃ u, us[i]? = some u ∧ CR h' u d
def KOks (sc : Scope) (names : List Str) (es : List Expr) (ks : List KX) : Prop := ∀ (P : Program) (w : World) (A : Around) (env : Env) (E : Value → Shared → Prop) (pos : Pos) (s : Shared) (ds : List D) (rs : List D), env.scope = sc → A.units + 100 < cLine → KN env names ds s.heap → ks.map (·.ev ds) = rs.map some →
  wpAny (model P w) A (spliced (backTo pos (starEach es env))) (KEnds rs s) E s
theorem koks_nil : KOks sc names [] [] := fun P w A env E pos s ds rs hsc hu kn he => by
  cases rs with
  | nil => exact Calls.spliced_nil ⟨s.heap, s.toks, rfl, fun _ _ e => e, rfl, fun i d e => by simp at e⟩
  | cons => cases he
theorem koks_cons {es : List Expr} {ks : List KX} (ha : KOk sc names a ka) (hr : KOks sc names es ks) (hs : ∀ env, starEach (a :: es) env = (false, eval a env) :: starEach es env := by intro _; rfl) : KOks sc names (a :: es) (ka :: ks) := fun P w A env E pos s ds rs hsc hu kn he => by
  cases rs with
  | nil => cases he
  | cons r rs =>
    rw [List.map_cons, List.map_cons] at he
    injection he with e1 e2
    rw [hs]
    show wpAny _ _ (spliced ((false, eval a env) :: backTo pos (starEach es env))) _ _ s
    refine Calls.spliced_cons (thn (ha P w A env E s ds r hsc hu kn e1) fun u s1 r1 => thn (hr P w A env E pos s1 ds rs hsc hu (r1.kn kn) e2) fun us s2 r2 => ?_)
    obtain ⟨h1, t1, rfl, k1, c1⟩ := r1
    obtain ⟨h2, t2, rfl, k2, l2, c2⟩ := r2
    refine ⟨h2, t2, rfl, fun b o e => k2 b o (k1 b o e), congrArg Nat.succ l2, fun i d hd => ?_⟩
    cases i with
    | zero => cases hd; exact ⟨u, rfl, c1.keeps k2⟩
    | succ i => exact c2 i d (by simpa using hd)
theorem kok_tup {es : List Expr} {ks : List KX} {x1} (h : KOks sc names es ks) {P : Program} {w : World} {A : Around} {env : Env} {E : Value → Shared → Prop} {s : Shared} {ds rs : List D} (hsc : env.scope = sc) (hu : A.units + 100 < cLine) (kn : KN env names ds s.heap) (he : ks.map (·.ev ds) = rs.map some) (hl : rs.length ≤ 1000) :
    wpAny (model P w) A (eval (.Tuple es x1 pos) env) (KEnd (.tup rs) s) E s := by
  refine wpAny_Tuple_spliced (thn (h P w A env E pos s ds rs hsc hu kn he) fun us s1 r1 => ?_)
  obtain ⟨h1, t1, rfl, k1, l1, c1⟩ := r1
  refine ⟨by rw [l1]; exact small hl, _, _, rfl, fun b o e => Heap.get?_push_of_some _ (k1 b o e), ?_⟩
  refine CR.mk (us := us) ⟨_, Heap.get?_push_size _ rfl, rfl, _, rfl⟩ l1 fun i d hd => ?_
  obtain ⟨u, u1, u2⟩ := c1 i d hd
  exact ⟨u, u1, u2.keeps fun b u q => Heap.get?_push_of_some _ q⟩
theorem kok_pair {x1} (ha : KOk sc names a ka) (hb : KOk sc names b kb) (h1 : ∀ env, starEach [a, b] env = (false, eval a env) :: starEach [b] env := by intro _; rfl) (h2 : ∀ env, starEach [b] env = (false, eval b env) :: starEach [] env := by intro _; rfl) : KOk sc names (.Tuple [a, b] x1 pos) (.pair ka kb) := fun P w A env E s ds d hsc hu kn he => by
  obtain ⟨x, e1, he⟩ := bind_some_iff he
  obtain ⟨y, e2, he⟩ := bind_some_iff he
  cases he
  exact kok_tup (koks_cons ha (koks_cons hb koks_nil h2) h1) (rs := [x, y]) hsc hu kn (by simp [e1, e2]) (by simp)
theorem kok_trip {x1} (ha : KOk sc names a ka) (hb : KOk sc names b kb) (hc : KOk sc names c kc) (h1 : ∀ env, starEach [a, b, c] env = (false, eval a env) :: starEach [b, c] env := by intro _; rfl) (h2 : ∀ env, starEach [b, c] env = (false, eval b env) :: starEach [c] env := by intro _; rfl) (h3 : ∀ env, starEach [c] env = (false, eval c env) :: starEach [] env := by intro _; rfl) :
    KOk sc names (.Tuple [a, b, c] x1 pos) (.trip ka kb kc) := fun P w A env E s ds d hsc hu kn he => by
  obtain ⟨x, e1, he⟩ := bind_some_iff he
  obtain ⟨y, e2, he⟩ := bind_some_iff he
  obtain ⟨z, e3, he⟩ := bind_some_iff he
  cases he
  exact kok_tup (koks_cons ha (koks_cons hb (koks_cons hc koks_nil h3) h2) h1) (rs := [x, y, z]) hsc hu kn (by simp [e1, e2, e3]) (by simp)
theorem kok_nin (ha : KOk sc names a ka) (hb : KOk sc names b kb) (hm : behindInMarks .NotIn b = false := by rfl) : KOk sc names (.Compare a [.NotIn] [b] pos) (.nin ka kb) := fun P w A env E s ds d hsc hu kn he => by
  obtain ⟨x, e1, he⟩ := bind_some_iff he
  obtain ⟨y, e2, he⟩ := bind_some_iff he
  refine wpAny_Compare1 (thn (ha P w A env E s ds x hsc hu kn e1) fun v s1 r1 => thn (hb P w A env E s1 ds y hsc hu (r1.kn kn) e2) fun u s2 r2 => ?_) hm
  have rv := r1.old r2
  obtain ⟨h2, t2, rfl, k2, ru⟩ := r1.trans r2
  cases y with
  | tup ys =>
    have he : (if (eqOk 49 x && ys.all (eqOk 49)) = true then some (D.bl (!ys.any fun z => deq z x)) else none) = some d := by cases x <;> exact he
    split at he
    · rename_i hq
      cases he
      rw [Bool.and_eq_true] at hq
      obtain ⟨as, q1⟩ := rv
      obtain ⟨bs, q2⟩ := ru
      have q2 : Reads h2 u (.tuple (pyAll ys)) bs := by rw [py] at q2; exact q2
      have s1 := (eqOk_py 49 x hq.1).1
      have s3 := eqOk_py 50 (.tup ys) (eqOk_tup hq.2)
      have s2a : PyData.canLayAll0 (pyAll ys) = true := by
        have := s3.1
        simp only [py, PyData.canLay0] at this
        exact this
      have room : A.units + 1 + min (PyData.depthAll (pyAll ys)) (py x).depth < cLine := by
        have := (eqOk_py 49 x hq.1).2
        omega
      exact SeqAt.notIn_tuple_reads q2 q1 s2a s1 room (by rw [any_py]; exact ⟨_, _, rfl, k2, [], by rw [py]; exact .bool _⟩)
    · cases he
  | _ => cases x <;> cases he
end
section
variable {P : Program} {w : World} {A : Around} {t : Shared}
/-- a lambda's scope: its parameter, captured names, no others of its own -/
structure KSc (sc : Scope) (p : Str) (caps : List Str) : Prop where
  kind : sc.kind = .function
  co : sc.isCoroutine = false
  gen : sc.isGenerator = false
  par : sc.names.lookup p = some .local
  nocell : ∀ y ∈ sc.names, y.2 ≠ .cell
  free : ∀ y ∈ caps, sc.names.lookup y = some .free
theorem lam_turn {f c' : Addr} {q p : Str} {params : Arguments} {body : Expr} {sc : Scope} {cl : List (Str × Addr)} {pm ctv v : Value} {kx : KX} {caps : List Str} {cs : List D} {x k : D} (hdp : A.depth < recursionLimit) (hun : A.units + 110 < cLine)
    (hf : t.heap.get? f = some (PySem.W.kla_obj "<lambda>" q params body sc cl pm c' ctv)) (hrec : t.heap.CodeRec (.ref c') q) (hlim : t.heap.NoLimit) (S : KSc sc p caps)
    (hb : bindArgs (PySem.W.kla_fn "<lambda>" q params body sc cl pm (.ref c') ctv) ⟨[v], []⟩ = pure [(p, v)]) (kok : KOk sc (p :: caps) body kx) (hx : CR t.heap v x)
    (hcs : ∀ (i : Nat) y d, caps[i]? = some y → cs[i]? = some d → ∃ c u, cl.lookup y = some c ∧ t.heap.IsCell c (some u) ∧ CR t.heap u d) (hk : kx.ev (x :: cs) = some k) (hfl : flatD k = true) :
    wpAny (model P w) A (PySem.call (.ref f) [v]) (PySem.W.KeyPure (py k) t) (fun _ _ => False) t := by
  refine wpAny_call (PySem.W.kla_callFunE (body := body) hdp hf rfl S.co S.gen rfl hrec ?_)
  rw [hb]
  refine wpAny_pure (wpAny_newFunctionEnv S.nocell (fun y hy => ?_) (fun h₁ hns hsb => ⟨hlim.fresh _ hsb, ?_⟩) S.kind)
  · have hy := List.mem_singleton.mp hy
    subst hy
    exact S.par
  have up : ∀ b o, t.heap.get? b = some o → h₁.get? b = some o := fun b o e => hsb.extBut b o (Nat.ne_of_lt (Heap.lt_size e)) (Heap.get?_push_of_some _ e)
  refine PySem.W.kla_codeExpr (wpAny_mono (kok P w (A.deeper _) _ _ _ (x :: cs) k ?_ ?_ ⟨_, hns, fun i y d e1 e2 => ?_⟩ hk) (fun u s' r => ?_) fun _ _ h => h)
  · rfl
  · show A.units + 3 + 100 < cLine
    omega
  · cases i with
    | zero =>
      cases e1
      cases e2
      exact ⟨v, .inl ⟨S.par, by simp⟩, hx.keeps up⟩
    | succ i =>
      have e1 : caps[i]? = some y := by simpa using e1
      have e2 : cs[i]? = some d := by simpa using e2
      obtain ⟨c, u, l1, ⟨o, l2, l3⟩, r⟩ := hcs i y d e1 e2
      exact ⟨u, .inr ⟨.inr (S.free y (List.mem_of_getElem? e1)), c, l1, o, up _ _ l2, l3⟩, r.keeps up⟩
  · obtain ⟨h', tk, rfl, k1, as, r⟩ := r
    have := flat_as k hfl r
    subst this
    exact ⟨h', tk, rfl, fun b o e => k1 b o (up b o e), r⟩
theorem sorted_srcK {x : Value} {fk : Addr} {β : Type} {bs : List β} {R : Value → β → Prop} {ky : β → PyData} {Q : Value → Shared → Prop} {Er : Value → Shared → Prop}
    (hcol : ∀ Q' : List Value → Shared → Prop, (∀ us h' tk, (∀ b o, t.heap.get? b = some o → h'.get? b = some o) → PySem.W.EachIs R us bs → Q' us { t with heap := h', toks := tk }) → wpAny (model P w) A.in1 (collect x) Q' Er t)
    (hal : PySem.W.AllAlike (bs.map ky)) (hs : PySem.W.Sortable (bs.map ky)) (hL : bs.length ≤ sizeLine) (hu : ∀ b ∈ bs, A.units + 2 + (ky b).depth < cLine)
    (turn : ∀ v b, R v b → b ∈ bs → ∀ h tk, (∀ z o, t.heap.get? z = some o → h.get? z = some o) → wpAny (model P w) A.in1.in1 (PySem.call (.ref fk) [v]) (PySem.W.KeyPure (ky b) { t with heap := h, toks := tk }) (fun _ _ => False) { t with heap := h, toks := tk })
    (fin : ∀ out c h' tk p, (∀ b o, t.heap.get? b = some o → h'.get? b = some o) → t.heap.get? p = none → h'.get? p = some (PyProof.Rows.seqObj "list" (List.toArray out) c) → PySem.W.EachIs R out (bs.mergeSort (PySem.W.dataLe false ky)) → Q (.ref p) { t with heap := h', toks := tk }) :
    wpAny (model P w) A (PySem.call (.builtin "sorted") [x] [(Str.ofString "key", .ref fk)]) Q Er t := by
  refine PyProof.Rows.call_function_entry_kw PyProof.Rows.kind_sorted PyProof.Rows.plain_sorted PyProof.Rows.entry_sorted (PyProof.Rows.ksk_s1 _ _) ?_
  unfold Builtin.«sorted»
  refine wpAny_bind (m := checkCount "sorted" 1 1 _) (wpAny_pure (wpAny_bind (hcol _ fun us h1 t1 k1 e1 => ?_)))
  have hl : us.length ≤ sizeLine := by rw [e1.length]; exact hL
  refine wpAny_bind (wpAny_newList ?_ hl)
  have new : t.heap.get? h1.objs.size = none := by
    cases z : t.heap.get? h1.objs.size with
    | none => rfl
    | some o => exact absurd (Heap.lt_size (k1 _ _ z)) (Nat.lt_irrefl _)
  have old : ∀ {g : Heap}, PySem.W.KeepsBut h1.objs.size (h1.push (PyProof.Rows.seqObj "list" us.toArray 0)) g → ∀ b o, t.heap.get? b = some o → g.get? b = some o := fun {g} kp b o z =>
    kp b o (fun e => by rw [e, new] at z; cases z) (Heap.get?_push_of_some _ (k1 b o z))
  refine wpAny_bind (wpAny_holding (PyProof.Rows.wpAny_call_entry_kw PyProof.Rows.slot_list_sort ⟨_, Heap.get?_push_size _ rfl, rfl⟩ PyProof.Rows.entry_list_sort ?go (PyProof.Rows.ksk_l1 _ _)))
  case go =>
    rw [PyProof.Rows.ksk_t1]
    refine wpAny_mono (PySem.W.keyH_tree (n := 0) (vs := us) (kz := bs.map ky) (s := { t with heap := h1.push (PyProof.Rows.seqObj "list" us.toArray 0), toks := t1 }) (P := fun f s' => f = .done (.ret .none) ∧ Q (.ref h1.objs.size) s') (Heap.get?_push_size _ rfl) (by rw [List.length_map]; exact e1.length.symm) hl hal hs (PySem.W.bound_map (A := A.in1.in1) hu)
      (PySem.W.keyH_turns (s := { t with heap := h1.push (PyProof.Rows.seqObj "list" us.toArray 0), toks := t1 }) e1 fun v b hR hb h tk kp => turn v b hR hb h tk (old kp)) fun h' tk out c kp hD ko => ⟨rfl, ?_⟩) (fun f s' hf => ?_) fun _ _ z => z
    · exact fin out c h' tk _ (old kp) new hD (PySem.W.keyedOut_each ky ko e1)
    · obtain ⟨rfl, hq⟩ := hf
      exact ⟨_, rfl, wpAny_pure ⟨_, rfl, hq⟩⟩
end
section
variable {X : Cx} {pins : List (Addr × Obj)} {σ : L2.St} {H : Hp} {s : Shared}
/-- the heap behind a lambda's making: its def's table alone may have changed -/
structure Lamd (H H1 : Hp) (P : Addr) (q : Str) : Prop where
  st : ∀ b o, H b = some o → b ≠ P → H1 b = some o
  on : ∀ b, H1 b = none → H b = none
  tab : LamX.TabS H1 P q
theorem Lamd.grow {G H1 : Hp} {P : Addr} {q : Str} (x : Lamd H H1 P q) (t : TabG G H) (sub : Same G H) (hm : (P, q) ∈ TabL.tl) (hu : ∀ p ∈ TabL.tl, p.1 = P → p.2 = q) : Grow G H G H1 := by
  obtain ⟨ps, hP, _⟩ := t.1 _ hm
  have ne : ∀ b o, H b = some o → NoTab o → b ≠ P := fun b o e n z => by
    subst z
    rw [hP] at e
    exact n ps (Option.some.inj e).symm
  refine ⟨⟨fun b o e n => x.st b o e (ne b o e n), x.on, fun tt p hp => ?_⟩, Same.refl _, fun b o e => x.st b o (sub b o e) fun z => ?_, fun a o e => .inl e⟩
  · by_cases h : p.1 = P
    · have := x.tab
      rw [← h, ← hu p hp h] at this
      exact this
    · obtain ⟨qs, a1, a2, a3⟩ := tt p hp
      refine ⟨qs, x.st _ _ a1 h, a2, fun pos cv hc => ?_⟩
      obtain ⟨c, b1, b2⟩ := a3 pos cv hc
      exact ⟨c, b1, x.st _ _ b2 (ne _ _ b2 fun ps => LamX.codeO_ne ps)⟩
  · have := t.2 _ hm
    rw [show (P, q).1 = P from rfl, ← z, e] at this
    cases this
theorem lam_mk {P c : Addr} {params : Arguments} {body : Expr} {sc : Scope} {pos : Pos} {Er : Value → Shared → Prop} {Q : Value → Shared → Prop} (I : Inv X pins σ H s) (B : LamX.TabB X.base X.mg c P) (hcode : X.env.code = .ref c) (T : LamX.TabS H P (X.env.qual ++ "<lambda>")) (hdef : defaultsOf params X.env = ([], []))
    (hfree : ∀ y ∈ sc.names, y.2 = .free → ∃ c, X.env.cells.lookup y.1 = some c)
    (k : ∀ (f c' : Addr) (pm ctv : Value) (H1 : Hp) (s' : Shared), Inv X pins σ H1 s' → Lamd H H1 P (X.env.qual ++ "<lambda>") → s'.heap.get? f = some (PySem.W.kla_obj "<lambda>" (X.env.qual ++ "<lambda>") params body sc (cloFrom X.env.cells sc.names []) pm c' ctv) →
      s'.heap.CodeRec (.ref c') (X.env.qual ++ "<lambda>") → (∀ b o, s.heap.get? b = some o → b ≠ P → s'.heap.get? b = some o) → Q (.ref f) s') : wpAny (model X.prog X.w) X.A (eval (.Lambda params body sc pos) X.env) Q Er s := by
  obtain ⟨ps, hP, tr, am⟩ := T
  have tab0 : s.heap.get? P = some (PySem.W.tabObj ps) := I.hok P _ hP
  refine PySem.W.kla_eval hdef ?_
  cases hc : codeAmong pos ps.toList with
  | some cv =>
    obtain ⟨c', rfl, hco⟩ := am pos cv hc
    refine PySem.W.kla_makeFunctionHit (mg := X.mg) (c := c) (P := P) (ps := ps) (closure_ok hfree) I.ok.glob (I.mod.glob.keeps I.bk) hcode (B.code.keeps I.bk) tab0 tr hc (B.bm.keeps I.bk) fun ctv h' tk up hz => ?_
    have J : Inv X pins σ H { s with heap := h'.push (PySem.W.kla_obj "<lambda>" (X.env.qual ++ "<lambda>") params body sc (cloFrom X.env.cells sc.names []) ((X.mg "__name__").getD .none) c' ctv), toks := tk } := I.kept fun b o e => Heap.get?_push_of_some _ (up b o e)
    obtain ⟨⟨oc, vs, t, z1, z2, z3⟩, _, _⟩ := J.hok c' _ hco
    exact k _ c' _ ctv H _ J ⟨fun _ _ e _ => e, fun _ e => e, ps, hP, tr, am⟩ (Heap.get?_push_size _ rfl) ⟨c', oc, vs, t, rfl, z1, z2, z3⟩ fun b o e _ => Heap.get?_push_of_some _ (up b o e)
  | none =>
    refine PySem.W.kla_makeFunction (mg := X.mg) (c := c) (P := P) (ps := ps) (closure_ok hfree) I.ok.glob (I.mod.glob.keeps I.bk) hcode (B.code.keeps I.bk) tab0 tr hc B.gP (B.bm.keeps I.bk) fun c' ctv h' tk up hge hlt hrec htb => ?_
    obtain ⟨_, oc, vs, t, ec, hoc, hd, hv⟩ := hrec
    cases ec
    have new : H c' = none := I.hok.fresh hge
    have J := LamX.inv_table (t' := tk) (more := #[rawInt pos.line, rawInt pos.col, .ref c']) (h' := h'.push (PySem.W.kla_obj "<lambda>" (X.env.qual ++ "<lambda>") params body sc (cloFrom X.env.cells sc.names []) ((X.mg "__name__").getD .none) c' ctv)) I hP
      (fun b o hb e => Heap.get?_push_of_some _ (up b o hb e)) (Heap.get?_push_of_some _ htb) hge ⟨oc, vs, t, Heap.get?_push_of_some _ hoc, hd, hv⟩
    have stay : ∀ b o, H b = some o → b ≠ P → upd (upd H P (.tbl (ps ++ #[rawInt pos.line, rawInt pos.col, .ref c']))) c' (LamX.CodeO c' (X.env.qual ++ "<lambda>")) b = some o := fun b o e hb => by
      rw [upd_ne (ne_of_none e new), upd_ne hb]; exact e
    have lst : (ps ++ #[rawInt pos.line, rawInt pos.col, .ref c']).toList = ps.toList ++ [rawInt pos.line, rawInt pos.col, .ref c'] := by simp
    refine k _ c' _ ctv _ _ J ⟨stay, fun b e => ?_, _, by rw [upd_ne (ne_of_none hP new), upd_same], by rw [lst]; exact PySem.TriplesOk_snoc _ _ _ _ tr, fun p' cv hcv => ?_⟩ (Heap.get?_push_size _ rfl) ⟨c', oc, vs, t, rfl, Heap.get?_push_of_some _ hoc, hd, hv⟩ fun b o e hb => Heap.get?_push_of_some _ (up b o hb e)
    · by_cases h1 : b = c'
      · rw [h1]; exact new
      · rw [upd_ne h1] at e
        by_cases h2 : b = P
        · rw [h2, upd_same] at e; cases e
        · rw [upd_ne h2] at e; exact e
    · rw [lst] at hcv
      rcases LamX.among_app _ tr hcv with z | z
      · obtain ⟨c0, y1, y2⟩ := am p' cv z
        refine ⟨c0, y1, stay _ _ y2 fun e => ?_⟩
        rw [e, hP] at y2
        exact LamX.codeO_ne ps (Option.some.inj y2).symm
      · exact ⟨c', z, upd_same⟩
end
end Pv

namespace Pv
open PySem PySem.Spec L2
variable [TabL]
/-- the keys of the items -/
def keysD (kx : KX) (cs : List D) : List D → Option (List D)
  | [] => some []
  | x :: xs => (kx.ev (x :: cs)).bind fun k => (keysD kx cs xs).map fun ks => k :: ks
/-- the items by their keys, stably -/
def sortK (ds ks : List D) : List D := ((ds.zip ks).mergeSort fun a b => dle a.2 b.2).map fun p => p.1
def keyOk (cs ds ks : List D) : Bool := sortOk ks && ks.all flatD && ds.all (eqOk 40) && cs.all (eqOk 40)
def kSort (kx : KX) (cs ds : List D) : Option RV := (keysD kx cs ds).bind fun ks => if keyOk cs ds ks then some (.own (.lst (sortK ds ks))) else none
theorem keysD_zip {kx : KX} {cs : List D} : ∀ {ds ks : List D}, keysD kx cs ds = some ks → ks.length = ds.length ∧ ∀ p ∈ ds.zip ks, kx.ev (p.1 :: cs) = some p.2
  | [], ks, h => by cases h; exact ⟨rfl, fun p hp => by simp at hp⟩
  | d :: ds, ks, h => by
    obtain ⟨k, e1, h⟩ := bind_some_iff h
    obtain ⟨rs, e2, h⟩ := map_some_iff h
    subst h
    obtain ⟨h1, h2⟩ := keysD_zip e2
    refine ⟨congrArg Nat.succ h1, fun p hp => ?_⟩
    rw [List.zip_cons_cons] at hp
    rcases List.mem_cons.mp hp with e | e
    · subst e; exact e1
    · exact h2 p e
/-- the captured names are cells of the def -/
def capB (N : List Str) (sc lam : Scope) : List Str → List Nat → Bool
  | [], [] => true
  | y :: ys, i :: is => decide (N[i]? = some y) && decide (sc.names.lookup y = some .cell) && decide (lam.names.lookup y = some .free) && capB N sc lam ys is
  | _, _ => false
theorem capB_get {N : List Str} {sc lam : Scope} : ∀ {ys : List Str} {is : List Nat}, capB N sc lam ys is = true → ∀ (k : Nat) y, ys[k]? = some y → ∃ i, is[k]? = some i ∧ N[i]? = some y ∧ sc.names.lookup y = some .cell ∧ lam.names.lookup y = some .free
  | [], [], _, k, y, e => by simp at e
  | x :: ys, i :: is, h, k, y, e => by
    unfold capB at h
    simp only [Bool.and_eq_true, decide_eq_true_eq] at h
    cases k with
    | zero => cases e; exact ⟨i, rfl, h.1.1.1, h.1.1.2, h.1.2⟩
    | succ k => exact capB_get h.2 k y (by simpa using e)
  | [], _ :: _, h, _, _, _ => by cases h
  | _ :: _, [], h, _, _, _ => by cases h
theorem fetchAll_get {s : Sg} : ∀ {is : List Nat} {cs : List D}, fetchAll s (is.map Bor.slot) = some cs → ∀ (k : Nat) i d, is[k]? = some i → cs[k]? = some d → fetch s (.slot i) = some d
  | [], _, _, k, i, d, e, _ => by simp at e
  | j :: is, cs, h, k, i, d, e1, e2 => by
    rw [List.map_cons] at h
    unfold fetchAll at h
    obtain ⟨x, f1, h⟩ := bind_some_iff h
    obtain ⟨xs, f2, h⟩ := map_some_iff h
    subst h
    cases k with
    | zero => cases e1; cases e2; exact f1
    | succ k => exact fetchAll_get f2 k i d (by simpa using e1) (by simpa using e2)
section
variable {X : Cx} {pins : List (Addr × Obj)} {σ : L2.St} {H : Hp} {s : Shared} {g : Gh} {G : Hp} {φ : List Addr} {sg : Sg}
theorem slot_val (R : Rel g G φ sg σ H) {i : Nat} {d : D} (h : fetch sg (.slot i) = some d) : ∃ v, σ[i]? = some (some v) ∧ OpRep g.K φ G H v d := by
  have : ∃ v, σ[i]? = some (some v) := by
    have h : (match sg.env[i]? with
      | some (Slot.fro d) => some (Pv.deref sg d)
      | some (Slot.own d) => some d
      | _ => none) = some d := h
    cases e : sg.env[i]? with
    | none => rw [e] at h; cases h
    | some sl =>
      rw [e] at h
      cases sl with
      | non => cases h
      | fro x => obtain ⟨v, h1, _⟩ := R.fro i x e; exact ⟨v, h1⟩
      | own x => obtain ⟨p, o, h1, _⟩ := R.own i x e; exact ⟨_, h1⟩
  obtain ⟨v, hv⟩ := this
  exact ⟨v, hv, R.fetch (b := .slot i) hv h⟩
/-- what a lambda sees of the names that it captured -/
theorem caps_at (R : Rel g G φ sg σ H) (hK : g.K = X.K) (I : Inv X pins σ H s) {lam : Scope} {caps : List Str} {cx : List Nat} {cs : List D} (hc : capB X.N X.env.scope lam caps cx = true) (hf : fetchAll sg (cx.map Bor.slot) = some cs) (ok : cs.all (eqOk 40) = true)
    (hfree : ∀ y ∈ lam.names, y.2 = .free → ∃ c, X.env.cells.lookup y.1 = some c) :
    ∀ (i : Nat) y d, caps[i]? = some y → cs[i]? = some d → ∃ c u, (cloFrom X.env.cells lam.names []).lookup y = some c ∧ s.heap.IsCell c (some u) ∧ CR s.heap u d := fun i y d e1 e2 => by
  obtain ⟨j, a1, a2, a3, a4⟩ := capB_get hc i y e1
  obtain ⟨v, b1, b2⟩ := slot_val R (fetchAll_get hf i j d a1 e2)
  obtain ⟨m, hn, hl⟩ := I.loc
  obtain ⟨u, r, l⟩ := hl j y v a2 b1 (.inr (.inl a3))
  rcases l with ⟨k1, _⟩ | ⟨_, c, c1, c2⟩
  · have k1 : X.env.scope.names.lookup y = some .local := k1
    rw [a3] at k1; cases k1
  · refine ⟨c, u, ?_, c2, ?_⟩
    · have hm : (y, NameKind.free) ∈ lam.names := PySem.mem_of_lookup a4
      obtain ⟨c', z⟩ := mem_lookup (cloFrom_has (cells := X.env.cells) (acc := []) hm)
      rcases cloFrom_mem (PySem.mem_of_lookup z) with w | ⟨_, w⟩
      · cases w
      · rw [c1] at w
        rw [z, w]
        rfl
    · have hd : eqOk 40 d = true := List.all_eq_true.mp ok d (List.mem_of_getElem? e2)
      exact Dp.reads I _ _ _ (rep_dp 40 hd (hK ▸ b2.rep R.sub)) r
theorem each_srt {K : PySem.W.Frag} {φ : List Addr} {G : Hp} {h : Heap} : ∀ {vs : List V} {us : List Value} {ds ks : List D}, Vals vs us → RepA K φ G vs ds → ks.length = ds.length → (∀ (i : Nat) u d, us[i]? = some u → ds[i]? = some d → CR h u d) →
    PySem.W.EachIs (fun (u : Value) (b : V × D × D) => RelV b.1 u ∧ CR h u b.2.1) us (vs.zip (ds.zip ks))
  | _, _, _, ks, .nil, .nil, _, _ => .nil
  | _, _, _, [], .cons _ _, .cons _ _, h, _ => by cases h
  | _, _, _, k :: ks, .cons r rs, .cons p ps, h, c => .cons ⟨r, c 0 _ _ rfl rfl⟩ (each_srt rs ps (Nat.succ.inj h) fun i u d e1 e2 => c (i + 1) u d (by simpa using e1) (by simpa using e2))
theorem each_out {K : Value → V × D × D → Prop} {out : List Value} {bs : List (V × D × D)} (h : PySem.W.EachIs K out bs) (k : ∀ u b, K u b → RelV b.1 u) : Vals (bs.map (·.1)) out := by
  induction h with
  | nil => exact .nil
  | cons r _ ih => exact .cons (k _ _ r) ih
theorem repA_trip {K : PySem.W.Frag} {φ : List Addr} {G : Hp} : ∀ {bs : List (V × D × D)}, (∀ b ∈ bs, Rep K φ G b.1 b.2.1) → RepA K φ G (bs.map (·.1)) (bs.map fun b => b.2.1)
  | [], _ => .nil
  | b :: bs, h => .cons (h b List.mem_cons_self) (repA_trip fun c hc => h c (List.mem_cons_of_mem _ hc))
theorem zip_trip {K : PySem.W.Frag} {φ : List Addr} {G : Hp} : ∀ {vs : List V} {ds ks : List D}, RepA K φ G vs ds → ∀ b ∈ vs.zip (ds.zip ks), Rep K φ G b.1 b.2.1 ∧ b.2 ∈ ds.zip ks
  | _, _, ks, .nil, b, h => by simp at h
  | _, _, [], .cons r rs, b, h => by simp at h
  | _, _, k :: ks, .cons r rs, b, h => by
    rw [List.zip_cons_cons, List.zip_cons_cons] at h
    rcases List.mem_cons.mp h with e | e
    · subst e; exact ⟨r, by simp⟩
    · obtain ⟨h1, h2⟩ := zip_trip rs b e
      exact ⟨h1, by rw [List.zip_cons_cons]; exact .tail _ h2⟩
theorem ok_has {P : Program} {w : World} {H : Hp} {h : Heap} {a : Addr} {o : HO} (x : ObjOk P w H h a o) : ∃ u, h.get? a = some u := by
  cases o with
  | lst xs => obtain ⟨_, _, _, _, e⟩ := x; exact ⟨_, e⟩
  | tup xs => obtain ⟨_, _, _, o, e, _⟩ := x; exact ⟨o, e⟩
  | dK kvs => obtain ⟨_, _, _, _, o, _, _, e, _⟩ := x; exact ⟨_, e⟩
  | dT kvs => obtain ⟨_, _, _, _, o, _, _, e, _⟩ := x; exact ⟨_, e⟩
  | set S n => obtain ⟨o, _, _, _, e, _⟩ := x; exact ⟨_, e⟩
  | ins C dx fs => obtain ⟨_, _, _, e, _⟩ := x; exact ⟨_, e⟩
  | own y => obtain ⟨_, e⟩ := x; exact ⟨_, e⟩
  | xd fs => obtain ⟨_, ⟨_, _, _, e, _⟩, _⟩ := x; exact ⟨_, e⟩
  | rng lo hi => obtain ⟨_, _, _, e⟩ := x; exact ⟨_, e⟩
  | frz ob u => obtain ⟨e, _⟩ := x; exact ⟨_, e⟩
  | tbl ps => exact ⟨_, show h.get? a = some _ from x⟩
  | met f y => exact ⟨_, show h.get? a = some _ from x⟩
  | ext φ => obtain ⟨_, ⟨_, e⟩, _⟩ := x; exact ⟨_, e⟩
/-- the call itself, the lambda made -/
theorem sort_core (hdp : X.A.depth + 5 < recursionLimit) (hun : X.A.units + 150 < cLine) (I : Inv X pins σ H s) (R : Rel g G φ sg σ H) (hK : g.K = X.K) {f c' : Addr} {q p : Str} {params : Arguments} {body : Expr} {lam : Scope} {pm ctv x : Value} {kx : KX} {caps : List Str} {cx : List Nat} {cs ds ks : List D} {vs : List V} {Q : VK}
    (hf : s.heap.get? f = some (PySem.W.kla_obj "<lambda>" q params body lam (cloFrom X.env.cells lam.names []) pm c' ctv)) (hrec : s.heap.CodeRec (.ref c') q) (S : KSc lam p caps)
    (hb : ∀ v, bindArgs (PySem.W.kla_fn "<lambda>" q params body lam (cloFrom X.env.cells lam.names []) pm (.ref c') ctv) ⟨[v], []⟩ = pure [(p, v)]) (kok : KOk lam (p :: caps) body kx)
    (hc : capB X.N X.env.scope lam caps cx = true) (hfree : ∀ y ∈ lam.names, y.2 = .free → ∃ c, X.env.cells.lookup y.1 = some c) (hfe : fetchAll sg (cx.map Bor.slot) = some cs) (hks : keysD kx cs ds = some ks) (ok : keyOk cs ds ks = true) (ra : RepA X.K φ G vs ds)
    (hcol : ∀ Q' : List Value → Shared → Prop, (∀ us h' tk, (∀ b o, s.heap.get? b = some o → h'.get? b = some o) → Vals vs us → (∀ (i : Nat) u d, us[i]? = some u → ds[i]? = some d → CR s.heap u d) → Q' us { s with heap := h', toks := tk }) → wpAny (model X.prog X.w) X.A.in1 (collect x) Q' X.xe s)
    (q' : OkRes X.K φ G H (.own (.lst (sortK ds ks))) Q) : wpAny (model X.prog X.w) X.A (PySem.call (.builtin "sorted") [x] [(Str.ofString "key", .ref f)]) (EP X pins σ Q) X.xe s := by
  have mil := million
  unfold keyOk at ok
  simp only [Bool.and_eq_true] at ok
  obtain ⟨⟨⟨o1, o2⟩, o3⟩, o4⟩ := ok
  unfold sortOk at o1
  simp only [Bool.and_eq_true, decide_eq_true_eq] at o1
  obtain ⟨⟨⟨h1, h2⟩, h3⟩, h4⟩ := o1
  obtain ⟨hlen, hev⟩ := keysD_zip hks
  have hvl := ra.length
  have hcap := caps_at R hK I hc hfe o4 hfree
  have hz : (vs.zip (ds.zip ks)).length = ds.length := by rw [List.length_zip, List.length_zip]; omega
  have h22 : (vs.zip (ds.zip ks)).map (fun b => b.2) = ds.zip ks := List.map_snd_zip (by rw [List.length_zip]; omega)
  have hkk : (ds.zip ks).map (fun b => b.2) = ks := List.map_snd_zip (by omega)
  have hmap : (vs.zip (ds.zip ks)).map (fun b => py b.2.2) = ks.map py := by
    have e1 := congrArg (List.map fun b : D × D => py b.2) h22
    rw [List.map_map] at e1
    have e2 := congrArg (List.map py) hkk
    rw [List.map_map] at e2
    exact e1.trans e2
  have al : PySem.W.AllAlike ((vs.zip (ds.zip ks)).map fun b => py b.2.2) := by
    rw [hmap]
    intro d hd d' hd'
    obtain ⟨x, hx, rfl⟩ := List.mem_map.mp hd
    obtain ⟨y, hy, rfl⟩ := List.mem_map.mp hd'
    exact List.all_eq_true.mp (List.all_eq_true.mp h3 x hx) y hy
  have so : PySem.W.Sortable ((vs.zip (ds.zip ks)).map fun b => py b.2.2) := by
    rw [hmap]
    rw [Bool.or_eq_true] at h4
    rcases h4 with h4 | h4
    · refine .inl fun d hd => ?_
      obtain ⟨x, hx, rfl⟩ := List.mem_map.mp hd
      exact py_tup_cons (List.all_eq_true.mp h4 x hx)
    · refine .inr fun d hd => ?_
      obtain ⟨x, hx, rfl⟩ := List.mem_map.mp hd
      exact py_noTup (List.all_eq_true.mp h4 x hx)
  have mem : ∀ b ∈ vs.zip (ds.zip ks), Rep X.K φ G b.1 b.2.1 ∧ b.2 ∈ ds.zip ks := zip_trip ra
  refine sorted_srcK (bs := vs.zip (ds.zip ks)) (R := fun (u : Value) (b : V × D × D) => RelV b.1 u ∧ CR s.heap u b.2.1) (ky := fun b => py b.2.2) (fun Q' k => hcol Q' fun us h' tk up rv cr => k us h' tk up (each_srt rv ra hlen cr)) al so (by omega) (fun b hb => ?_) (fun v b hR hb' h tk up => ?_) fun out c h' tk z up n1 n2 e => ?_
  · have hm : b.2.2 ∈ ks := (List.of_mem_zip (mem b hb).2).2
    have := (eqOk_py 40 b.2.2 (List.all_eq_true.mp h2 _ hm)).2
    omega
  · have hm := (mem b hb').2
    refine lam_turn (t := { s with heap := h, toks := tk }) (by show X.A.depth < _; omega) (by show X.A.units + 1 + 1 + 110 < _; omega) (up _ _ hf) ?_ (I.nolimit.keeps up) S (hb v) kok (hR.2.keeps up) (fun i y d e1 e2 => ?_) (hev _ hm) (List.all_eq_true.mp o2 _ (List.of_mem_zip hm).2)
    · obtain ⟨c0, oc, vs0, t0, r1, r2, r3, r4⟩ := hrec
      exact ⟨c0, oc, vs0, t0, r1, up _ _ r2, r3, r4⟩
    · obtain ⟨c0, u, l1, ⟨o, l2, l3⟩, l4⟩ := hcap i y d e1 e2
      exact ⟨c0, u, l1, ⟨o, up _ _ l2, l3⟩, l4.keeps up⟩
  · have hz0 : H z = none := by
      cases y : H z with
      | none => rfl
      | some o =>
        obtain ⟨u, hu⟩ := ok_has (I.hok z o y)
        rw [n1] at hu; cases hu
    have hsort : ((vs.zip (ds.zip ks)).mergeSort (PySem.W.dataLe false fun b => py b.2.2)).map (fun b => b.2.1) = sortK ds ks := by
      have := PySem.W.sort_maps (r := PySem.W.dataLe false fun b : V × D × D => py b.2.2) (s := fun a b : D × D => dle a.2 b.2) (fun b : V × D × D => b.2) (l := vs.zip (ds.zip ks)) (fun _ _ _ _ => rfl)
      rw [h22] at this
      unfold sortK
      rw [← this, List.map_map]
      rfl
    have ra' : RepA X.K φ G (((vs.zip (ds.zip ks)).mergeSort (PySem.W.dataLe false fun b => py b.2.2)).map (·.1)) (sortK ds ks) := by
      rw [← hsort]
      exact repA_trip fun b hb => (mem b (List.mem_mergeSort.mp hb)).1
    refine ⟨.ref z, upd H z (.lst _), I.laidN (t' := tk) up n1 hz0 ⟨?_, out, c, each_out e fun _ _ r => r.1, n2⟩, rfl, q' _ _ _ (Grow.aside R.sub hz0) (.own hz0 upd_same (R.sub.free hz0) (.lst ra'))⟩
    rw [List.length_map, List.length_mergeSort, hz]
    omega
def kSortK (kx : KX) (cx : List Nat) (s : Sg) (ds : List D) : Option (RV × Sg) := (fetchAll s (cx.map Bor.slot)).bind fun cs => (kSort kx cs ds).map fun r => (r, s)
def kSortR (kx : KX) (cx : List Nat) (p : RV × Sg) : Option (RV × Sg) := match p.1 with
  | .fro (.int j) => if small62 j then kSortK kx cx p.2 (upTo 0 j.toNat) else none
  | _ => none
def kSortB (kx : KX) (cx : List Nat) (s : Sg) : D → Option (RV × Sg)
  | .lst ds => kSortK kx cx s ds
  | _ => none
/-- sorted(range(a), key=..) -/
def evSortR (kx : KX) (cx : List Nat) (a : Ev RV) : Ev RV := fun s => (a s).bind (kSortR kx cx)
/-- sorted(b, key=..) of a list -/
def evSortB (kx : KX) (cx : List Nat) (b : Ev Bor) : Ev RV := fun s => (b s).bind fun p => (fetch p.2 p.1).bind (kSortB kx cx p.2)
theorem kSortK_some {kx : KX} {cx : List Nat} {s s' : Sg} {ds : List D} {r : RV} (h : kSortK kx cx s ds = some (r, s')) : s' = s ∧ ∃ cs ks, fetchAll s (cx.map Bor.slot) = some cs ∧ keysD kx cs ds = some ks ∧ keyOk cs ds ks = true ∧ r = .own (.lst (sortK ds ks)) := by
  obtain ⟨cs, e1, h⟩ := bind_some_iff h
  obtain ⟨r', e2, h⟩ := map_some_iff h
  obtain ⟨ks, e3, e2⟩ := bind_some_iff e2
  cases h
  split at e2
  · rename_i ok
    cases e2
    exact ⟨rfl, cs, ks, e1, e3, ok, rfl⟩
  · cases e2
/-- what the def's table asks: from the tables of the law -/
structure TabF (X : Cx) (q : Str) : Prop where
  ex : ∃ c P, X.env.code = .ref c ∧ LamX.TabB X.base X.mg c P ∧ (P, q) ∈ TabL.tl ∧ ∀ p ∈ TabL.tl, p.1 = P → p.2 = q
section
variable {X : Cx} {e : Expr} {p0 p2 pos pos2 kpos lpos : Pos} {params : Arguments} {body : Expr} {lam : Scope} {kx : KX} {caps : List Str} {cx : List Nat} {p : Str}
/-- the argument evaluated, the lambda is made, and all is sorted -/
theorem sort_after (hdp : X.A.depth + 5 < recursionLimit) (hun : X.A.units + 150 < cLine) (TF : TabF X (X.env.qual ++ "<lambda>")) (hdef : defaultsOf params X.env = ([], [])) (S : KSc lam p caps)
    (hb : ∀ (q : Str) (cl : List (Str × Addr)) (pm cv ctv v : Value), bindArgs (PySem.W.kla_fn "<lambda>" q params body lam cl pm cv ctv) ⟨[v], []⟩ = pure [(p, v)]) (kok : KOk lam (p :: caps) body kx)
    (hc : capB X.N X.env.scope lam caps cx = true) (hfr : ∀ y ∈ lam.names, y.2 = .free → X.env.scope.names.lookup y.1 = some .cell) {pins : List (Addr × Obj)} {σ : L2.St} {H : Hp} {s : Shared} {g : Gh} {G : Hp} {φ : List Addr} {sg s' : Sg} {x : Value} {vs : List V} {ds : List D} {r : RV} {Q : VK}
    (I : Inv X pins σ H s) (R : Rel g G φ sg σ H) (hK : g.K = X.K) (he : kSortK kx cx sg ds = some (r, s')) (ra : RepA X.K φ G vs ds)
    (hcol : ∀ (t : Shared) (H1 : Hp), Inv X pins σ H1 t → (∀ b o, s.heap.get? b = some o → o.cls ≠ .none → t.heap.get? b = some o) → (∀ b o, H b = some o → NoTab o → H1 b = some o) → Same G H1 → ∀ Q' : List Value → Shared → Prop, (∀ us h' tk, (∀ b o, t.heap.get? b = some o → h'.get? b = some o) → Vals vs us → (∀ (i : Nat) u d, us[i]? = some u → ds[i]? = some d → CR t.heap u d) → Q' us { t with heap := h', toks := tk }) → wpAny (model X.prog X.w) X.A.in1 (collect x) Q' X.xe t)
    (q : ∀ G' φ' H' v, Rel g G' φ' s' σ H' → Same G G' → φ <+: φ' → Res g G' φ' s' σ H' v r → Q v H') :
    wpAny (model X.prog X.w) X.A (eval (.Lambda params body lam lpos) X.env) (fun fv s1 => wpAny (model X.prog X.w) X.A (PySem.call (.builtin "sorted") [x] [(Str.ofString "key", fv)]) (EP X pins σ Q) X.xe s1) X.xe s := by
  obtain ⟨c, P, hcode, B, hm, hu⟩ := TF.ex
  have hfree : ∀ y ∈ lam.names, y.2 = .free → ∃ c, X.env.cells.lookup y.1 = some c := fun y hy z => I.ok.has _ (.inl (hfr y hy z))
  obtain ⟨rfl, cs, ks, e1, e2, e3, rfl⟩ := kSortK_some he
  have T : LamX.TabS H P (X.env.qual ++ "<lambda>") := R.tab.1 _ hm
  refine lam_mk I B hcode T hdef hfree fun f c' pm ctv H1 t I1 L hf hrec up => ?_
  have gr := L.grow R.tab R.sub hm hu
  have R1 := R.grow gr
  have tabP : ∀ o, s.heap.get? P = some o → o.cls = .none := fun o e => by
    obtain ⟨ps, hP, _⟩ := T
    have z : s.heap.get? P = some { cls := .none, data := .fields ps } := I.hok P _ hP
    rw [z] at e
    cases e
    rfl
  refine sort_core hdp hun I1 R1 hK hf hrec S (fun v => hb _ _ _ _ _ _) kok hc hfree e1 e2 e3 ra (hcol t H1 I1 (fun b o e n => up b o e fun z => n (tabP o (z ▸ e))) (fun b o e n => gr.hh.st b o e n) gr.gh) fun G' H' v g2 o => ?_
  exact q G' φ H' v (R1.grow g2) g2.gg (List.prefix_refl _) (ORes.res R1 g2 (hK ▸ o))
theorem cr_upTo {j : Int} {us : List Value} {h : Heap} (r : Vals (rgV 0 j) us) : ∀ (i : Nat) u d, us[i]? = some u → (upTo 0 (j - 0).toNat)[i]? = some d → CR h u d := fun i u d e1 e2 => by
  obtain ⟨v, e3, rv⟩ := vals_get r i u e1
  unfold rgV at e3
  unfold upTo at e2
  rw [List.getElem?_map] at e2 e3
  obtain ⟨k, k1, k2⟩ := map_some_iff e2
  rw [k1] at e3
  cases e3
  subst k2
  obtain ⟨t, rfl⟩ := rv
  exact CR.of_int _ _ _
theorem cr_list {H : Hp} {pins : List (Addr × Obj)} {σ : L2.St} {s : Shared} (I : Inv X pins σ H s) {G : Hp} {φ : List Addr} : ∀ {vs : List V} {us : List Value} {ds : List D}, Vals vs us → RepA X.K φ G vs ds → Same G H → ds.all (eqOk 40) = true → ∀ (i : Nat) u d, us[i]? = some u → ds[i]? = some d → CR s.heap u d
  | _, _, _, .nil, .nil, _, _, i, u, d, e1, _ => by simp at e1
  | _, _, _, .cons r rs, .cons p ps, sm, ok, i, u, d, e1, e2 => by
    rw [List.all_cons, Bool.and_eq_true] at ok
    cases i with
    | zero =>
      cases e1
      cases e2
      exact Dp.reads I _ _ _ (rep_dp 40 ok.1 (p.mono sm (List.prefix_refl _))) r
    | succ i => exact cr_list I rs ps sm ok.2 i u d (by simpa using e1) (by simpa using e2)
theorem sr_sortR (hcl : X.calm = true) (hdp : X.A.depth + 5 < recursionLimit) (hun : X.A.units + 150 < cLine) (TF : TabF X (X.env.qual ++ "<lambda>")) {a : Ev RV} (hg : Gl X "sorted") (hm : X.mg "sorted" = none) (hg2 : Gl X "range") (hm2 : X.mg "range" = none) (ha : SR X e a) (S : KSc lam p caps) (kok : KOk lam (p :: caps) body kx)
    (hc : capB X.N X.env.scope lam caps cx = true) (hfr : ∀ y ∈ lam.names, y.2 = .free → X.env.scope.names.lookup y.1 = some .cell) (hdef : defaultsOf params X.env = ([], []))
    (hb : ∀ (q : Str) (cl : List (Str × Addr)) (pm cv ctv v : Value), bindArgs (PySem.W.kla_fn "<lambda>" q params body lam cl pm cv ctv) ⟨[v], []⟩ = pure [(p, v)])
    (n1 : starEach [e] X.env = (false, eval e X.env) :: starEach [] X.env := by rfl) (n2 : backTo pos (starEach [.Call (.Name "range" p2) [e] [] pos2] X.env) = (false, eval (.Call (.Name "range" p2) [e] [] pos2) X.env) :: backTo pos (starEach [] X.env) := by rfl)
    (n3 : starEach [.Call (.Name "range" p2) [e] [] pos2] X.env = (false, eval (.Call (.Name "range" p2) [e] [] pos2) X.env) :: starEach [] X.env := by rfl)
    (hpl : (backTo pos (starEach [.Call (.Name "range" p2) [e] [] pos2] X.env)).any (·.1) = false := by rfl)
    (hall : (backToKw pos (keywordEach [⟨some "key", .Lambda params body lam lpos, kpos⟩] X.env)).all (·.1.isSome) = true := by rfl) (hnone : (backToKw pos (keywordEach [⟨some "key", .Lambda params body lam lpos, kpos⟩] X.env)).any (·.1.isNone) = false := by rfl)
    (hks : (backToKw pos (keywordEach [⟨some "key", .Lambda params body lam lpos, kpos⟩] X.env)).filterMap (·.1) = [Str.ofString "key"] := by rfl) :
    SR X (.Call (.Name "sorted" p0) [.Call (.Name "range" p2) [e] [] pos2] [⟨some "key", .Lambda params body lam lpos, kpos⟩] pos) (evSortR kx cx a) := by
  refine ⟨fun pins s σ H Q I ⟨g, G, φ, sg, r, s', hK, R, he, q⟩ => ?_⟩
  obtain ⟨⟨x0, s1⟩, e1, he⟩ := bind_some_iff he
  cases x0 with
  | own d => cases he
  | fro d =>
    cases d with
    | int j =>
      have he : (if small62 j then kSortK kx cx s1 (upTo 0 j.toNat) else none) = some (r, s') := he
      split at he
      · rename_i hj
        refine wpAny_Call_Name_kw (ld_blt I hg hm bb_sorted ?_)
        refine PyProof.Rows.callWith_kw (PyProof.Rows.args_cons (thn (prg_1 hg2 hm2 ha n1 pins s σ H (fun a0 b0 H' => a0 = 0 ∧ b0 = j ∧ ∃ G1 φ1, Rel g G1 φ1 s1 σ H' ∧ Same G G1 ∧ φ <+: φ1) I ⟨g, G, φ, sg, _, s1, hK, R, e1, fun G1 φ1 H1 v R1 h1 h2 x => ?_⟩) fun x t ⟨ra, a0, b0, t1, t2, t3, H1, ex, hr, I1, ea, eb, G1, φ1, R1, h1, h2⟩ => PyProof.Rows.args_nil ?_) n3) n2 hpl hall hnone
        · cases x with
          | fro rp =>
            cases rp
            exact ⟨j, rfl, rfl, rfl, G1, φ1, R1, h1, h2⟩
        · subst ex
          subst ea
          subst eb
          obtain ⟨b1, b2, b3, b4, b5⟩ := rgOk_small hj
          rw [hks]
          have rg := repA_rg (K := X.K) (φ := φ1) (G := G1) 0 b0
          refine PyProof.Rows.kwAll_cons (thn (sort_after hdp hun TF hdef S hb kok hc hfr (ds := upTo 0 (b0 - 0).toNat) (vs := rgV 0 b0) (x := .ref ra) (s' := s') (Q := Q) I1 R1 hK (by rw [Int.sub_zero]; exact he) rg (fun t5 H5 I5 up st sm Q' k => ?_) fun G' φ' H' v R' y1 y2 z => q G' φ' H' v R' (h1.trans y1) (h2.trans y2) z) fun fv s5 hq => PyProof.Rows.kwAll_nil hq)
          refine collect_range (a := 0) (b := b0) (c := 1) (n := (b0 - 0).toNat) (I5.ok.hd hcl) (up _ _ hr fun z => by cases z) (small_one b1 b2 b3 b4) (PyProof.Rows.rangeSize_nat 0 b0) b5 fun h' tk acc kp items => ?_
          exact k acc.toList h' tk kp (vals_rg items) (cr_upTo (vals_rg items))
      · cases he
    | _ => cases he
theorem sr_sortB (hdp : X.A.depth + 5 < recursionLimit) (hun : X.A.units + 150 < cLine) (TF : TabF X (X.env.qual ++ "<lambda>")) {b : Ev Bor} (hg : Gl X "sorted") (hm : X.mg "sorted" = none) (ha : SB X e b) (S : KSc lam p caps) (kok : KOk lam (p :: caps) body kx)
    (hc : capB X.N X.env.scope lam caps cx = true) (hfr : ∀ y ∈ lam.names, y.2 = .free → X.env.scope.names.lookup y.1 = some .cell) (hdef : defaultsOf params X.env = ([], []))
    (hb : ∀ (q : Str) (cl : List (Str × Addr)) (pm cv ctv v : Value), bindArgs (PySem.W.kla_fn "<lambda>" q params body lam cl pm cv ctv) ⟨[v], []⟩ = pure [(p, v)])
    (n2 : backTo pos (starEach [e] X.env) = (false, eval e X.env) :: backTo pos (starEach [] X.env) := by rfl) (n3 : starEach [e] X.env = (false, eval e X.env) :: starEach [] X.env := by rfl) (hpl : (backTo pos (starEach [e] X.env)).any (·.1) = false := by rfl)
    (hall : (backToKw pos (keywordEach [⟨some "key", .Lambda params body lam lpos, kpos⟩] X.env)).all (·.1.isSome) = true := by rfl) (hnone : (backToKw pos (keywordEach [⟨some "key", .Lambda params body lam lpos, kpos⟩] X.env)).any (·.1.isNone) = false := by rfl)
    (hks : (backToKw pos (keywordEach [⟨some "key", .Lambda params body lam lpos, kpos⟩] X.env)).filterMap (·.1) = [Str.ofString "key"] := by rfl) :
    SR X (.Call (.Name "sorted" p0) [e] [⟨some "key", .Lambda params body lam lpos, kpos⟩] pos) (evSortB kx cx b) := by
  refine ⟨fun pins s σ H Q I ⟨g, G, φ, sg, r, s', hK, R, he, q⟩ => ?_⟩
  obtain ⟨⟨x0, s1⟩, e1, he⟩ := bind_some_iff he
  obtain ⟨d, e2, he⟩ := bind_some_iff he
  cases d with
  | lst ds =>
    have he : kSortK kx cx s1 ds = some (r, s') := he
    refine wpAny_Call_Name_kw (ld_blt I hg hm bb_sorted ?_)
    refine PyProof.Rows.callWith_kw (PyProof.Rows.args_cons (thn (ha.run pins s σ H (fun v H' => ∃ G1 φ1, Rel g G1 φ1 s1 σ H' ∧ Same G G1 ∧ φ <+: φ1 ∧ OpRep g.K φ1 G1 H' v (.lst ds)) I ⟨g, G, φ, sg, x0, s1, hK, R, e1, fun G1 φ1 H1 v R1 h1 h2 x => ⟨G1, φ1, R1, h1, h2, R1.fetch x e2⟩⟩) fun u t ⟨v, H1, I1, rv, G1, φ1, R1, h1, h2, o⟩ => PyProof.Rows.args_nil ?_) n3) n2 hpl hall hnone
    obtain ⟨a, vs, rfl, z1, ra⟩ := o.lst R1.sub
    obtain rfl : u = .ref a := rv
    rw [hks]
    obtain ⟨_, cs, ks, _, _, ok, _⟩ := kSortK_some he
    unfold keyOk at ok
    simp only [Bool.and_eq_true] at ok
    have o3 := ok.1.2
    refine PyProof.Rows.kwAll_cons (thn (sort_after hdp hun TF hdef S hb kok hc hfr (ds := ds) (vs := vs) (x := .ref a) (s' := s') (Q := Q) I1 R1 hK he (hK ▸ ra) (fun t5 H5 I5 up st sm Q' k => ?_) fun G' φ' H' v R' y1 y2 z => q G' φ' H' v R' (h1.trans y1) (h2.trans y2) z) fun fv s5 hq => PyProof.Rows.kwAll_nil hq)
    have z5 : H5 a = some (.lst vs) := st a _ z1 fun ps z => by cases z
    obtain ⟨its, rv5, pl, hz⟩ := I5.list (SqL.of z5)
    refine PyProof.Rows.collect_list pl.isList (k its _ t5.toks (fun b o e => ?_) rv5 (cr_list I5 rv5 (hK ▸ ra) ?_ o3)) (by rw [← rv5.length]; exact hz)
    · rw [Heap.get?_update_ne _ _ _ _ (Nat.ne_of_lt (Heap.lt_size e))]; exact Heap.get?_push_of_some _ e
    · exact sm
  | _ => cases he
end
end
theorem RoomG.dp5 {k : Nat} {A : Around} (r : RoomG k A) : A.depth + 5 < recursionLimit := by have := r.room.dp; omega
theorem RoomG.un150 {k : Nat} {A : Around} (r : RoomG k A) : A.units + 150 < cLine := by have := r.room.un; omega
theorem nocell_of {sc : Scope} (h : (sc.names.all fun y => !decide (y.2 = .cell)) = true) : ∀ y ∈ sc.names, y.2 ≠ .cell := fun y hy e => by
  have := List.all_eq_true.mp h y hy
  simp [e] at this
theorem frees_of {sc : Scope} {caps : List Str} (h : (caps.all fun y => decide (sc.names.lookup y = some .free)) = true) : ∀ y ∈ caps, sc.names.lookup y = some .free := fun y hy => by
  have := List.all_eq_true.mp h y hy
  exact of_decide_eq_true this
theorem fr_of {sc lam : Scope} (h : (lam.names.all fun y => !decide (y.2 = .free) || decide (sc.names.lookup y.1 = some .cell)) = true) : ∀ y ∈ lam.names, y.2 = .free → sc.names.lookup y.1 = some .cell := fun y hy e => by
  have := List.all_eq_true.mp h y hy
  simpa [e] using this
theorem tabIn_of {K : PySem.W.Frag} {x : Str} {f c P : Addr} {oc e : Value} {od d : Option Addr} {fd : FuncData} {sl sl' : Array (Option Value)} {vs : Array Value} (a : PySem.W.nsIn K mainGlobals x = some (some (.ref f))) (l : K.lookup f = some ⟨oc, od, .func fd, sl⟩) (h : fd.code = .ref c) (m : K.lookup c = some ⟨e, d, .fields vs, sl'⟩) (i : vs[11]? = some (.ref P)) : PySem.W.tabIn K x = some (c, P) := by
  unfold PySem.W.tabIn
  rw [a]
  dsimp only
  rw [l]
  dsimp only
  rw [h]
  dsimp only
  rw [m]
  dsimp only
  rw [i]
section
variable [TabL]
/-- a, b, c = e1, e2, e3: stored from the right; the three are frozen -/
theorem ss_par3 {X : Cx} {i j l : Nat} {x y z : Str} {a b c : Expr} {as : Ev (List D)} {px py pz pt pos : Pos} {kt k2 pt2} (hc : X.calm = true) (hN : X.N.Nodup) (ha : SA X [a, b, c] as) (hi : X.N[i]? = some x := by rfl) (hj : X.N[j]? = some y := by rfl) (hl : X.N[l]? = some z := by rfl) (hij : i ≠ j := by decide) (hil : i ≠ l := by decide) (hjl : j ≠ l := by decide)
    (hx : X.env.scope.names.lookup x = some .local := by rfl) (hy : X.env.scope.names.lookup y = some .local := by rfl) (hz : X.env.scope.names.lookup z = some .local := by rfl)
    (hw : swappedStores [.Tuple [.Name x px, .Name y py, .Name z pz] kt pt] (.Tuple [a, b, c] k2 pt2) X.env = pure (some [x, y, z]) := by rfl)
    (hs : swapsWithSole [.Tuple [.Name x px, .Name y py, .Name z pz] kt pt] (.Tuple [a, b, c] k2 pt2) pos.line X.env = pure false := by rfl) :
    SS X (.Assign [.Tuple [.Name x px, .Name y py, .Name z pz] kt pt] (.Tuple [a, b, c] k2 pt2) pos) (evAsg (tgTup 3 (tgCons (tgName i) (tgCons (tgName j) (tgCons (tgName l) tgNil)))) (evTup as)) := ps_imp (ps_par3 hc hN hi hj hl hij hil hjl hx hy hz ha hw hs) fun E σ H ⟨g, G, φ, s, o, s', hK, R, he, q⟩ => by
  obtain ⟨⟨p1, p2⟩, e1, he⟩ := bind_some_iff he
  obtain ⟨s1, e2, he⟩ := map_some_iff he
  cases he
  obtain ⟨⟨ds, s0⟩, e3, e4⟩ := bind_some_iff e1
  split at e4
  · cases e4
    refine ⟨g, G, φ, s, ds, s0, hK, R, e3, fun G1 φ1 H1 vs R1 h1 h2 ra => ?_⟩
    change (if ds.length = 3 then tgCons (tgName i) (tgCons (tgName j) (tgCons (tgName l) tgNil)) ds s0 else none) = some _ at e2
    split at e2
    · cases ra with
      | nil => cases e2
      | cons r1 ra =>
        cases ra with
        | nil => cases e2
        | cons r2 ra =>
          cases ra with
          | nil => cases e2
          | cons r3 ra =>
            cases ra with
            | nil =>
              cases e2
              exact ⟨_, _, _, rfl, q G1 φ1 _ H1 (((R1.store i (r := .fro _) (.fro r1)).store j (r := .fro _) (.fro r2)).store l (r := .fro _) (.fro r3)) h1 h2⟩
            | cons r4 ra => cases e2
    · cases e2
  · cases e4
end
end Pv

namespace HT
open PySem PySem.Spec PyProof.Rows PySem.W
section
variable {prog : Program} {w : World} {A : Around} {E : Value → Shared → Prop} {s : Shared}
theorem sliceApplied_rev {sl : Addr} {vs : Value} {n : Nat} {Q : Int × Int × Nat → Shared → Prop} (hs : s.heap.IsSliceOf sl .none .none vs) (ps : IsPart vs (some (-1)))
    (h : Q (((n : Int) - 1), -1, n) s) : wpAny (model prog w) A (Builtin.Slice.sliceApplied (.ref sl) (pure (n : Int))) Q E s := by
  obtain ⟨os, hos, hcs, hds⟩ := id hs
  unfold Builtin.Slice.sliceApplied Builtin.Slice.sliceFields
  refine wpAny_bind (wpAny_bind (wpAny_field hos hds (x := .none) rfl (wpAny_bind (wpAny_field hos hds (x := .none) rfl (wpAny_bind (wpAny_field hos hds (x := vs) rfl (wpAny_pure ?_)))))))
  refine wpAny_bind (slicePart_ ps ?_)
  show wpAny _ _ (if ((-1 : Int) == 0) = true then _ else _) _ _ s
  rw [if_neg (by decide)]
  refine wpAny_bind (slicePart_none (wpAny_bind (slicePart_none (wpAny_bind (wpAny_pure ?_)))))
  show wpAny _ _ (match Builtin.Slice.sliceAdjust none none (-1) (n : Int) with | (lo, hi) => pure (lo, (-1 : Int), Builtin.Slice.slicePlaces lo hi (-1))) _ _ s
  show wpAny _ _ (pure ((n : Int) - 1, (-1 : Int), Builtin.Slice.slicePlaces ((n : Int) - 1) (-1) (-1))) _ _ s
  have e : Builtin.Slice.slicePlaces ((n : Int) - 1) (-1) (-1) = n := by
    unfold Builtin.Slice.slicePlaces
    rw [if_neg (by decide)]
    split
    · rw [show -(-1 : Int) = 1 by decide, Int.ediv_one]; omega
    · omega
  rw [e]
  exact wpAny_pure h
theorem pick_rev (xs : Array Value) : ((List.range xs.size).filterMap fun (m : Nat) => xs[(((xs.size : Nat) : Int) - 1 + (m : Int) * -1).toNat]?).toArray = xs.toList.reverse.toArray := by
  have e : ∀ l : List Nat, (∀ m ∈ l, m < xs.size) → l.filterMap (fun (m : Nat) => xs[(((xs.size : Nat) : Int) - 1 + (m : Int) * -1).toNat]?) = (l.map fun k => xs.size - 1 - k).filterMap (xs[·]?) := by
    intro l
    induction l with
    | nil => intro _; rfl
    | cons m l ih =>
      intro h
      have hm := h m (.head _)
      have i : (((xs.size : Nat) : Int) - 1 + (m : Int) * -1).toNat = xs.size - 1 - m := by omega
      rw [List.map_cons, List.filterMap_cons, List.filterMap_cons, ih fun k hk => h k (.tail _ hk), i]
  rw [e _ fun m hm => List.mem_range.mp hm, krv_range, List.filterMap_reverse, krv_all]
theorem getItem_tuple_rev {t sl : Addr} {items : Array Value} {vs : Value} {Q : Value → Shared → Prop} (ht : IsTup s.heap t items) (hs : s.heap.IsSliceOf sl .none .none vs) (ps : IsPart vs (some (-1)))
    (h : Q (.ref s.heap.objs.size) { s with heap := s.heap.push { cls := .type "tuple", data := .seq items.toList.reverse.toArray } })
    (hsz : items.size ≤ sizeLine) : wpAny (model prog w) A (getItem (.ref t) (.ref sl)) Q E s := by
  have htake : sizeOk (.seq items.toList.reverse.toArray) := by
    show items.toList.reverse.toArray.size ≤ sizeLine
    rw [List.size_toArray, List.length_reverse, Array.length_toList]
    exact hsz
  obtain ⟨os, hos, hcs, hds⟩ := id hs
  have hTs : s.TypeIs (.ref sl) "slice" := ⟨os, hos, hcs⟩
  unfold getItem
  try with_reducible refine wpAny_holding ?_
  first | refine wpAny_bind (wpAny_pure ?_) | skip
  refine wpAny_bind (wpAny_sequenceKey ht.typeIs (by decide) ?_)
  refine wpAny_bind (wpAny_callSpecial?_slot (name := Str.ofString "__getitem__") ht.typeIs PyProof.Rows.slot_tuple_getitem
    (wpAny_call_entry PyProof.Rows.slot_tuple_getitem ht.typeIs entry_tuple_getitem ?_ (args_tuple_getitem _ _)))
  show wpAny _ _ (Builtin.Tuple.tupleItemsOf (.ref t) >>= _) _ _ s
  refine wpAny_bind (tupleItemsOf_ ht ?_)
  refine wpAny_bind (wpAny_typeOf hTs ?_)
  rw [if_pos (by decide)]
  refine wpAny_bind (sliceApplied_rev hs ps ?_)
  have hno : ¬ ((((items.size : Nat) : Int) - 1 == 0 && (-1 : Int) == 1 && items.size == items.size) = true) := by
    intro q
    rw [Bool.and_eq_true, Bool.and_eq_true] at q
    exact absurd q.1.2 (by decide)
  show wpAny _ _ (if (((items.size : Nat) : Int) - 1 == 0 && (-1 : Int) == 1 && items.size == items.size) = true then _ else _) _ _ s
  rw [if_neg hno, pick_rev]
  first
    | exact wpAny_bind (m := Builtin.Tuple.tupleExact _) (wpAny_newObj_type (wpAny_pure ⟨_, rfl, wpAny_pure h⟩) htake)
    | exact wpAny_bind (m := Builtin.Tuple.tupleExact _) (wpAny_newObj_type (wpAny_bind (wpAny_pure (wpAny_pure ⟨_, rfl, wpAny_pure h⟩))) htake)
    | exact wpAny_bind (wpAny_bind (m := Builtin.Tuple.tupleExact _) (wpAny_newObj_type (wpAny_pure (wpAny_pure ⟨_, rfl, wpAny_pure h⟩)) htake))
    | exact wpAny_bind (wpAny_bind (m := Builtin.Tuple.tupleExact _) (wpAny_newObj_type (wpAny_pure ⟨_, rfl, wpAny_pure h⟩) htake))
end
end HT
namespace L2
open PySem PySem.Spec PyProof.Rows
variable {X : Cx}
/-- x[::-1] of a list or a tuple -/
def tRev (K : PySem.W.Frag) (te : TE) : TE := fun σ H Q => te σ H fun x H1 => ∃ a xs, x = .ref a ∧ ((SqL K H1 a xs ∧ ∀ p, H1 p = none → Q (.ref p) (upd H1 p (.lst xs.reverse))) ∨ (SqT K H1 a xs ∧ ∀ p, H1 p = none → Q (.ref p) (upd H1 p (.tup xs.reverse))))
theorem pe_rev {e : Expr} {te : TE} {k : Nat} {p1 p2 p3 pos : Pos} (he : PE X e te) : PE X (.Subscript e (.Slice none none (some (.UnaryOp .USub (.Constant (.int 1) k p1) p2)) p3) pos) (tRev X.K te) := by
  refine ⟨fun pins s σ H Q I h => ?_⟩
  refine Subscript_ (thn (he.run pins s σ H _ I h) fun v s1 ⟨x, H1, I1, r1, q1⟩ => ?_)
  obtain ⟨a, xs, ex, hx⟩ := q1
  subst ex
  cases r1
  have hst : PO X (some (.UnaryOp .USub (.Constant (.int 1) k p1) p2)) (tPart (tUn (rU fun i => .int (-i)) (tC (.int 1)))) := po_some (pe_un un_neg pe_int)
  refine wpAny_Slice (thn (po_none.run pins s1 σ H1 (fun o H2 => o = none ∧ H2 = H1) I1 ⟨rfl, rfl⟩) fun vl s2 ⟨l, H2, I2, pl, el, e2⟩ => ?_)
  subst el e2
  refine thn (po_none.run pins s2 σ H2 (fun o H3 => o = none ∧ H3 = H2) I2 ⟨rfl, rfl⟩) fun vu s3 ⟨u, H3, I3, pu, eu, e3⟩ => ?_
  subst eu e3
  refine thn (hst.run pins s3 σ H3 (fun o H4 => o = some (-1) ∧ H4 = H3) I3 ⟨1, rfl, -1, rfl, rfl, rfl⟩) fun vs s4 ⟨o, H4, I4, ps, eo, e4⟩ => ?_
  subst eo e4
  have I5 : Inv X pins σ H4 { s4 with heap := s4.heap.push { cls := .type "slice", data := .fields #[vl, vu, vs] } } := I4.kept (t' := s4.toks) fun b ob q => Heap.get?_push_of_some _ q
  show wpAny (model X.prog X.w) X.A (subscriptTail e (.Slice none none (some (.UnaryOp .USub (.Constant (.int 1) k p1) p2)) p3) (.ref a) (.ref s4.heap.objs.size)) (EP X pins σ Q) X.xe { s4 with heap := s4.heap.push { cls := .type "slice", data := .fields #[vl, vu, vs] } }
  rcases hx with ⟨hx, q⟩ | ⟨hx, q⟩
  · obtain ⟨its, r, ht, hz⟩ := I5.list hx
    have hlen := r.length
    refine tail_any (ops := [.ref a, .ref s4.heap.objs.size]) ht.isList.typeIs (PySem.slot_list_getitem.lookup) ?_ (by with_unfolding_all rfl)
    refine wpAny_getItem_list_slice ht.isList (Heap.IsSliceOf.new _ vl vu vs) pl pu ps (by decide) ?_ (by rw [List.size_toArray]; omega)
    rw [PySem.W.krv_pick]
    refine ⟨.ref _, _, I5.laid (t' := s4.toks) (o := .lst xs.reverse) (fun b ob q => Heap.get?_push_of_some _ q) (Nat.le_refl _) ?_, rfl, q _ (I5.hok.fresh (Nat.le_refl _))⟩
    exact ⟨by rw [List.length_reverse]; exact hz, _, 0, r.reverse, Heap.get?_push_size _ rfl⟩
  · obtain ⟨its, r, ht, hz⟩ := I5.tuple hx
    have hlen := r.length
    cases pl
    cases pu
    refine tail_any (ops := [.ref a, .ref s4.heap.objs.size]) ht.typeIs (PyProof.Rows.slot_tuple_getitem.lookup) ?_ (by with_unfolding_all rfl)
    refine HT.getItem_tuple_rev ht (Heap.IsSliceOf.new _ .none .none vs) ps ?_ (by rw [List.size_toArray]; omega)
    refine ⟨.ref _, _, I5.laid (t' := s4.toks) (o := .tup xs.reverse) (fun b ob q => Heap.get?_push_of_some _ q) (Nat.le_refl _) ?_, rfl, q _ (I5.hok.fresh (Nat.le_refl _))⟩
    exact ⟨by rw [List.length_reverse]; exact hz, _, r.reverse, IsTup.new _ _⟩
end L2
namespace Pv
open PySem PySem.Spec PyProof.Rows L2
section
variable [TabL]
theorem RepA.snoc {K : PySem.W.Frag} {φ : List Addr} {G : Hp} {v : V} {d : D} (r : Rep K φ G v d) : ∀ {vs ds}, RepA K φ G vs ds → RepA K φ G (vs ++ [v]) (ds ++ [d])
  | _, _, .nil => .cons r .nil
  | _, _, .cons a b => .cons a (b.snoc r)
theorem RepA.rev {K : PySem.W.Frag} {φ : List Addr} {G : Hp} : ∀ {vs ds}, RepA K φ G vs ds → RepA K φ G vs.reverse ds.reverse
  | _, _, .nil => .nil
  | _, _, .cons a b => by rw [List.reverse_cons, List.reverse_cons]; exact b.rev.snoc a
def dRev : D → Option RV
  | .lst ds => some (.own (.lst ds.reverse))
  | .tup ds => some (.fro (.tup ds.reverse))
  | _ => none
/-- x[::-1] -/
def evRev (a : Ev Bor) : Ev RV := fun s => (a s).bind fun p => (fetch p.2 p.1).bind fun d => (dRev d).map fun r => (r, p.2)
theorem sr_rev {X : Cx} {e : Expr} {a : Ev Bor} {k : Nat} {p1 p2 p3 pos : Pos} (he : SB X e a) : SR X (.Subscript e (.Slice none none (some (.UnaryOp .USub (.Constant (.int 1) k p1) p2)) p3) pos) (evRev a) := pe_imp (pe_rev he) fun σ H Q ⟨g, G, φ, s, r, s', hK, R, he, q⟩ => by
  obtain ⟨⟨b, s1⟩, e1, he⟩ := bind_some_iff he
  obtain ⟨d, e4, he⟩ := bind_some_iff he
  obtain ⟨r', e5, he⟩ := map_some_iff he
  cases he
  refine ⟨g, G, φ, s, b, s1, hK, R, e1, fun G1 φ1 H1 v R1 h1 h2 z => ?_⟩
  have hx := R1.fetch z e4
  cases d with
  | lst ds =>
    cases e5
    obtain ⟨a, vs, rfl, t1, r1⟩ := hx.lst R1.sub
    refine ⟨a, vs, rfl, .inl ⟨SqL.of t1, fun p hp => ?_⟩⟩
    have gr := Grow.aside R1.sub (o := .lst vs.reverse) hp
    exact q _ φ1 _ _ (R1.grow gr) (h1.trans gr.gg) h2 (ORes.res R1 gr (.own hp upd_same (R1.sub.free hp) (.lst r1.rev)))
  | tup ds =>
    cases e5
    obtain ⟨a, vs, rfl, t1, r1⟩ := hx.tup R1.sub
    refine ⟨a, vs, rfl, .inr ⟨SqT.of t1, fun p hp => ?_⟩⟩
    have gr := Grow.laid R1.sub (o := .tup vs.reverse) hp
    exact q _ φ1 _ _ (R1.grow gr) (h1.trans gr.gg) h2 (ORes.res R1 gr (.fro (.tup upd_same (r1.rev.mono gr.gg (List.prefix_refl _)))))
  | _ => cases e5
end
end Pv

namespace Pv
open PySem PySem.Spec PyProof.Rows L2
section
variable [TabL]
def rGetL (K : PySem.W.Frag) : V → V → Hp → VK → Prop := fun x y H Q => ∃ p xs i v, x = .ref p ∧ y = .int i ∧ 0 ≤ i ∧ SqL K H p xs ∧ xs[i.toNat]? = some v ∧ Q v H
theorem pget_list {X : Cx} : PGet X (rGetL X.K) := fun pins s σ H o i ov iv Q I ro ri ⟨p, xs, k, v, e1, e2, h0, hq, hx, q⟩ => by
  subst e1; subst e2
  cases ro
  obtain ⟨t, rfl⟩ := ri
  obtain ⟨its, r, pl, hz⟩ := I.list hq
  obtain ⟨w, ew, rw'⟩ := r.get hx
  have hl := r.length
  have hn := line63
  have hj := (List.getElem?_eq_some_iff.mp hx).1
  exact wpAny_getItem_list pl.isList h0 (by omega) (by simpa using ew) ⟨v, H, I, rw', q⟩
def augGet : D → D → Option Int
  | .lst ds, .int k => if 0 ≤ k then match ds[k.toNat]? with
    | some (.int a) => some a
    | _ => none else none
  | _, _ => none
def augInt : D → Option Int
  | .int b => some b
  | _ => none
theorem augGet_of {d di : D} {a : Int} (h : augGet d di = some a) : ∃ ds k, d = .lst ds ∧ di = .int k ∧ 0 ≤ k ∧ ds[k.toNat]? = some (.int a) := by
  unfold augGet at h
  split at h
  · split at h
    · rename_i h0
      split at h
      · rename_i e
        cases h
        exact ⟨_, _, rfl, rfl, h0, e⟩
      · cases h
    · cases h
  · cases h
def evAugI (i : Nat) (ti : Ev Bor) (tv : Ev RV) : Ev Out := fun s => (evSlot i s).bind fun _ => (ti s).bind fun q => (fetch q.2 q.1).bind fun di => (ownAt q.2 i).bind fun d0 => (augGet d0 di).bind fun a => (tv q.2).bind fun p => (augInt p.1.d).bind fun b => (ownAt p.2 i).bind fun d => (dSet d di (.int (a + b))).map fun d' => (.nx, setAt p.2 i d')
theorem ss_augI {X : Cx} {i : Nat} {x : Str} {ei ev : Expr} {ti : Ev Bor} {tv : Ev RV} {px ps pos : Pos} (hs : DSet X dSet) (hi : SB X ei ti) (hv : SR X ev tv)
    (hN : X.N[i]? = some x := by rfl) (hvis : Vis X.env.scope x := by first | exact Or.inl rfl | exact Or.inr (Or.inl rfl) | exact Or.inr (Or.inr rfl)) (hd : (x == ("__debug__" : Str)) = false := by decide) (hcd : (x == ("__classdict__" : Str)) = false := by decide)
    (ha : ∀ ov iv new, augStore ei ov iv new = (do holding [new, ov, iv] (setItem ov iv new); release [new, ov, iv] []; pure .next) := by intros; rfl) :
    SS X (.AugAssign (.Subscript (.Name x px) ei ps) .Add ev pos) (evAugI i ti tv) := ps_imp (ps_augS (pe_var hN hvis hd hcd) hi pget_list hv ip_add hs ha) fun E σ H ⟨g, G, φ, s, o, s', hK, R, he, q⟩ => by
  obtain ⟨b0, e0, he⟩ := bind_some_iff he
  obtain ⟨⟨b, s2⟩, e2, he⟩ := bind_some_iff he
  obtain ⟨di, e3, he⟩ := bind_some_iff he
  obtain ⟨d0, e4, he⟩ := bind_some_iff he
  obtain ⟨a, e5, he⟩ := bind_some_iff he
  obtain ⟨⟨r1, s3⟩, e6, he⟩ := bind_some_iff he
  obtain ⟨c, e7, he⟩ := bind_some_iff he
  obtain ⟨d, e8, he⟩ := bind_some_iff he
  obtain ⟨d', e9, he⟩ := map_some_iff he
  cases he
  have hv : ∃ v, σ[i]? = some (some v) := by
    unfold evSlot at e0
    cases e : s.env[i]? with
    | none => rw [e] at e0; cases e0
    | some sl =>
      cases sl with
      | non => rw [e] at e0; cases e0
      | fro d => obtain ⟨v, h1, _⟩ := R.fro i d e; exact ⟨v, h1⟩
      | own d => obtain ⟨p, o, h1, _⟩ := R.own i d e; exact ⟨_, h1⟩
  obtain ⟨u, hv⟩ := hv
  refine ⟨u, hv, g, G, φ, s, b, s2, hK, R, e2, fun G2 φ2 H2 w R2 h3 h4 y => ?_⟩
  obtain ⟨p, o, b1, b2, b3, b4, b5⟩ := R2.ownAt e4
  rw [hv] at b1
  cases b1
  obtain ⟨ds, k, rfl, rfl, k0, hg⟩ := augGet_of e5
  have hw := (R2.fetch y e3).int
  cases b3 with
  | lst ra =>
    have hl := ra.length
    have hk := (List.getElem?_eq_some_iff.mp hg).1
    obtain ⟨v, hv1, hv2⟩ : ∃ v, _ ∧ Rep g.K φ2 G2 v (.int a) := ra.get hg
    cases hv2
    refine ⟨p, _, k, _, rfl, hw, k0, SqL.of b2, hv1, g, G2, φ2, s2, r1, s3, hK, R2, e6, fun G3 φ3 H3 v2 R3 h5 h6 z => ?_⟩
    obtain ⟨G4, R4, h7, rp⟩ := z.froz R3
    have hr1 : r1.d = .int c := by
      unfold augInt at e7
      split at e7
      · rename_i e; cases e7; exact e
      · cases e7
    rw [hr1] at rp
    cases rp
    refine ⟨a, c, rfl, rfl, ?_⟩
    obtain ⟨p', o', c1, c2, c3, c4, c5⟩ := R4.ownAt e8
    rw [hv] at c1
    cases c1
    subst hw
    exact ⟨φ3, G4, p, o', d, _, _, d', rfl, c2, hK ▸ c3, c4, R4.sub, .fro (.int _), .int _, e9, fun o2 ow => q G4 φ3 σ _ (c5 o2 d' (hK ▸ ow)) ((h3.trans h5).trans h7) (h4.trans h6)⟩
end
end Pv

namespace Pv
open PySem PySem.Spec PyProof.Rows L2
section
variable [TabL]
variable {g : Gh} {G : Hp} {φ : List Addr} {s : Sg} {σ : L2.St} {H : Hp}
theorem Rel.forgetA (R : Rel g G φ s σ H) (i : Nat) (v : Option V) : Rel g G φ ⟨s.env.set i .non, s.st⟩ (σ.set i v) H := by
  have key : ∀ (j : Nat) (sl : Slot), (s.env.set i .non)[j]? = some sl → sl ≠ .non → j ≠ i ∧ s.env[j]? = some sl := fun j sl h hn => by
    by_cases e : j = i
    · subst e
      by_cases hl : j < s.env.length
      · rw [List.getElem?_set_self hl] at h; cases h; exact absurd rfl hn
      · rw [List.getElem?_eq_none (by simpa using hl)] at h; cases h
    · rw [List.getElem?_set_ne (fun z => e z.symm)] at h; exact ⟨e, h⟩
  refine ⟨R.sub, R.g0, R.new, R.old, R.use, R.zed, R.pre, by simpa using R.len, fun j d e => ?_, fun j d e => ?_, fun j k d e p hjk h1 h2 h3 => ?_, R.clen, R.cell, R.nd, R.nt, R.tab⟩
  · obtain ⟨a, b⟩ := key j _ e (by simp)
    obtain ⟨v, c, d⟩ := R.fro j d b
    exact ⟨v, by rw [List.getElem?_set_ne (fun z => a z.symm)]; exact c, d⟩
  · obtain ⟨a, b⟩ := key j _ e (by simp)
    obtain ⟨p, o, c, d⟩ := R.own j d b
    exact ⟨p, o, by rw [List.getElem?_set_ne (fun z => a z.symm)]; exact c, d⟩
  · obtain ⟨a, b⟩ := key j _ h1 (by simp)
    obtain ⟨a', b'⟩ := key k _ h2 (by simp)
    rw [List.getElem?_set_ne (fun z => a z.symm)] at h3
    rw [List.getElem?_set_ne (fun z => a' z.symm)]
    exact R.sep j k d e p hjk b b' h3
theorem Rel.touch {env : List Slot} {st : List Cell} {i : Nat} {v : Option V} {p : Addr} {o o' : HO} {d d' : D} (hi : i < env.length) (R : Rel g G φ ⟨env.set i .non, st⟩ (σ.set i v) H) (F : Fresh g G φ ⟨env.set i .non, st⟩ (σ.set i v) H p o d) (ow : Own g.K φ G o' d') : Rel g G φ ⟨env.set i .non, st⟩ (σ.set i v) (upd H p o') := by
  have R1 : Rel g G φ ⟨(env.set i .non).set i (.own d), st⟩ ((σ.set i v).set i (some (V.ref p))) H := R.store i (.own F)
  have e1 : Pv.ownAt (⟨(env.set i .non).set i (.own d), st⟩ : Sg) i = some d := by
    unfold Pv.ownAt
    have : (⟨(env.set i .non).set i (.own d), st⟩ : Sg).env[i]? = some (.own d) := List.getElem?_set_self (by simpa using hi)
    rw [this]
  obtain ⟨q, o2, b1, b2, b3, b4, b5⟩ := R1.ownAt e1
  have hq : q = p := by
    have hl : i < σ.length := by
      have := R.len
      simp at this; omega
    rw [List.getElem?_set_self (by simpa using hl)] at b1
    cases b1; rfl
  subst hq
  have R2 := (b5 o' d' ow).forgetA i v
  have e2 : Pv.setAt (⟨(env.set i .non).set i (.own d), st⟩ : Sg) i d' = ⟨env.set i (.own d'), st⟩ := by
    unfold Pv.setAt
    have : (⟨(env.set i .non).set i (.own d), st⟩ : Sg).env[i]? = some (.own d) := List.getElem?_set_self (by simpa using hi)
    rw [this]
    simp [List.set_set]
  rw [e2] at R2
  simpa [List.set_set] using R2
end
section
variable [TabL]
theorem append_one {ds : List D} {x : D} (h : ds.length < 1000000) : mAppend (.lst ds) [x] = some (.lst (ds ++ [x]), .non) := if_pos h
/-- the four statements at once -/
def evTold (i : Nat) (va vb : Ev RV) (vt : Ev Bool) : Ev Out := fun s => (va s).bind fun p => (vb p.2).bind fun q => match p.1, q.1 with
  | .own (.lst d1), .own (.lst d2) => if d1.length < 1000000 ∧ d2.length < 1000000 ∧ i < q.2.env.length then (vt ⟨((q.2.env.set i (.own (.lst [.lst d1, .lst d2]))).map quietSlot), []⟩).bind fun t => some (if t.1 = true then .rt (.fro (.bl false)) else .nx, ⟨q.2.env.set i .non, q.2.st⟩) else none
  | _, _ => none
theorem sss_told {X : Cx} {i : Nat} {va vb : Ev RV} {vt : Ev Bool} {b : Ev Out} {st1 st3 st4 : Stmt} {c : Expr} {sa : List Stmt} {rest : List Stmt} {pos2 : Pos} {t3 t4 : TA}
    (h1 : PS X st1 (tAsg (tLst (tCons (tR X.K va) (tCons (tR X.K vb) tNil))) (gName i))) (hc : ST X c vt) (ha : SSs X sa (evRet (evC (.bl false))))
    (h3 : PS X st3 (tDrop (tBM X.K "list" (rMut X.K mAppend) (tOp (rIxL X.K) (tVar i) (tC (.int 0))) t3))) (h4 : PS X st4 (tDrop (tBM X.K "list" (rMut X.K mAppend) (tOp (rIxL X.K) (tVar i) (tC (.int 1))) t4)))
    (k3 : ∀ σ H Q, Q [V.non] H → t3 σ H Q) (k4 : ∀ σ H Q, Q [V.non] H → t4 σ H Q) (hrest : SSs X rest b) :
    SSs X (st1 :: .If c sa [] pos2 :: st3 :: st4 :: rest) (evSeq (evTold i va vb vt) b) := pss_imp (pss_cons h1 (pss_cons (ps_if hc ha pss_nil) (pss_cons h3 (pss_cons h4 hrest)))) fun E σ H ⟨g, G, φ, s, o, s', hK, R, he, q⟩ => by
  obtain ⟨⟨oo, ss⟩, e1, he⟩ := bind_some_iff he
  obtain ⟨⟨p1, p2⟩, ea, e1⟩ := bind_some_iff e1
  obtain ⟨⟨q1, q2⟩, eb, e1⟩ := bind_some_iff e1
  obtain ⟨d1, d2, rfl, rfl⟩ : ∃ d1 d2, p1 = .own (.lst d1) ∧ q1 = .own (.lst d2) := by
    cases p1 with
    | fro d => cases e1
    | own D1 =>
      cases q1 with
      | fro d => cases D1 <;> cases e1
      | own D2 =>
        cases D1 with
        | lst d1 =>
          cases D2 with
          | lst d2 => exact ⟨d1, d2, rfl, rfl⟩
          | _ => cases e1
        | _ => cases D2 <;> cases e1
  have e1 : (if d1.length < 1000000 ∧ d2.length < 1000000 ∧ i < q2.env.length then (vt ⟨((q2.env.set i (.own (.lst [.lst d1, .lst d2]))).map quietSlot), []⟩).bind fun t => some ((if t.1 = true then .rt (.fro (.bl false)) else .nx : Out), (⟨q2.env.set i .non, q2.st⟩ : Sg)) else none) = some (oo, ss) := e1
  · split at e1
    · rename_i hln
      obtain ⟨hl1, hl2, hil⟩ := hln
      obtain ⟨⟨bt, sq⟩, et, e1⟩ := bind_some_iff e1
      have e1 := Option.some.inj e1
      have e11 : (if bt = true then Out.rt (.fro (.bl false)) else .nx) = oo := congrArg Prod.fst e1
      have e12 : (⟨q2.env.set i .non, q2.st⟩ : Sg) = ss := congrArg Prod.snd e1
      refine ⟨g, G, φ, s, _, p2, hK, R, ea, fun G1 φ1 H1 v1 R1 g1 g2 x1 => ?_⟩
      cases x1 with
      | @own P1 O1 _ F1 =>
      refine ⟨g.hid (one P1 O1), G1, φ1, p2, _, q2, hK, R1.pend F1, eb, fun G2 φ2 H2 v2 R2 g3 g4 x2 => ?_⟩
      obtain ⟨R3, F1'⟩ := R1.back F1 R2 g3 g4
      cases x2 with
      | @own P2 O2 _ F2 =>
      have fp2 := over_none (show over (one P1 O1) g.F P2 = none from F2.fp)
      have hne : P2 ≠ P1 := fun e => by
        have := fp2.1
        rw [e] at this
        unfold one at this
        rw [upd_same] at this
        cases this
      have F2' : Fresh g G2 φ2 q2 σ H2 P2 O2 (.lst d2) := ⟨F2.at_, F2.own, F2.gp, fp2.2, F2.up, F2.ph, F2.sl⟩
      refine ⟨by show 2 ≤ sizeLine; decide, fun a hfa => ?_⟩
      have na1 : P1 ≠ a := fun e => by subst e; rw [F1'.at_] at hfa; cases hfa
      have na2 : P2 ≠ a := fun e => by subst e; rw [F2'.at_] at hfa; cases hfa
      -- as the display is read otherwise: its lists frozen
      obtain ⟨Ra, sa1, rp1⟩ := R3.freeze F1'
      have F2a : Fresh g (upd G2 P1 O1) φ2 q2 σ H2 P2 O2 (.lst d2) := ⟨F2'.at_, F2'.own.mono sa1 (List.prefix_refl _), by rw [upd_ne hne]; exact F2'.gp, F2'.fp, F2'.up, F2'.ph, F2'.sl⟩
      obtain ⟨Rb, sb1, rp2⟩ := Ra.freeze F2a
      have gr := Grow.aside Rb.sub (o := .lst [V.ref P1, V.ref P2]) hfa
      have ga : upd (upd G2 P1 O1) P2 O2 a = none := by
        rw [upd_ne (fun e => na2 e.symm), upd_ne (fun e => na1 e.symm)]
        exact R3.sub.free hfa
      have Fq : Fresh g (upd (upd G2 P1 O1) P2 O2) φ2 q2 σ (upd H2 a (.lst [V.ref P1, V.ref P2])) a (.lst [V.ref P1, V.ref P2]) (.lst [.lst d1, .lst d2]) := Fresh.of_new Rb gr hfa upd_same ga (.lst (.cons (rp1.mono sb1 (List.prefix_refl _)) (.cons rp2 .nil)))
      have Rc := (Rb.grow gr).store i (.own Fq)
      refine ⟨_, _, _, _, bt, sq, by exact hK, quiet_rel Rc, et, fun G' φ' H5 R' g5 g6 => ?_⟩
      have gr0 := Grow.aside R3.sub (o := .lst [V.ref P1, V.ref P2]) hfa
      have keep : ∀ x o, upd H2 a (.lst [V.ref P1, V.ref P2]) x = some o → NoTab o → H5 x = some o := fun x o e n => R'.old x o (ntH_of e n)
      have gr5 : Grow G2 (upd H2 a (.lst [V.ref P1, V.ref P2])) G2 H5 := ⟨⟨keep, fun b e => Classical.byContradiction fun z => R'.use b z e, fun _ => R'.tab.1⟩, Same.refl _, (sa1.trans sb1).trans ((sm_over Rc).trans (g5.trans R'.sub)), fun _ _ e => .inl e⟩
      have Rd := ((R3.grow gr0).forgetA i (some (V.ref a))).grow gr5
      have ha5 : H5 a = some (.lst [V.ref P1, V.ref P2]) := keep a _ upd_same (by intro ps z; cases z)
      have hp1 : H5 P1 = some O1 := keep P1 O1 (by rw [upd_ne na1]; exact F1'.at_) F1'.own.nt
      have hp2 : H5 P2 = some O2 := keep P2 O2 (by rw [upd_ne na2]; exact F2'.at_) F2'.own.nt
      have slk : ∀ (P : Addr), (∀ (j : Nat) e, q2.env[j]? = some (Slot.own e) → σ[j]? ≠ some (some (V.ref P))) → ∀ (j : Nat) e, (q2.env.set i .non)[j]? = some (Slot.own e) → (σ.set i (some (V.ref a)))[j]? ≠ some (some (V.ref P)) := fun P hP j e h => by
        by_cases hj : j = i
        · subst hj
          rw [List.getElem?_set_self hil] at h; cases h
        · rw [List.getElem?_set_ne (fun z => hj z.symm)] at h ⊢
          exact hP j e h
      cases bt with
      | true =>
        rw [if_pos rfl] at e11
        dsimp only
        rw [if_pos rfl]
        subst e11; subst e12
        cases he
        exact ⟨g, G2, φ2, ⟨q2.env.set i .non, q2.st⟩, _, _, hK, Rd, rfl, q.pre (g1.trans g3) (g2.trans g4)⟩
      | false =>
        rw [if_neg Bool.false_ne_true] at e11
        dsimp only
        rw [if_neg Bool.false_ne_true]
        subst e11; subst e12
        have F15 : Fresh g G2 φ2 ⟨q2.env.set i .non, q2.st⟩ (σ.set i (some (V.ref a))) H5 P1 O1 (.lst d1) := ⟨hp1, F1'.own, F1'.gp, F1'.fp, F1'.up, F1'.ph, slk P1 F1'.sl⟩
        have hsi : (σ.set i (some (V.ref a)))[i]? = some (some (V.ref a)) := List.getElem?_set_self (by have := R3.len; omega)
        refine ⟨V.ref a, hsi, a, [V.ref P1, V.ref P2], 0, V.ref P1, rfl, rfl, SqL.of ha5, rfl, ?_⟩
        obtain ⟨xs1, eO1⟩ : ∃ xs, O1 = .lst xs := by cases F1'.own; exact ⟨_, rfl⟩
        obtain ⟨xs2, eO2⟩ : ∃ xs, O2 = .lst xs := by cases F2'.own; exact ⟨_, rfl⟩
        refine ⟨.inl ⟨rfl, xs1, SqL.of (by rw [hp1, eO1])⟩, k3 _ _ _ ?_⟩
        refine ⟨φ2, G2, P1, O1, .lst d1, [.non], .lst (d1 ++ [.non]), .non, rfl, hp1, hK ▸ F1'.own, F1'.gp, Rd.sub, .cons .non .nil, append_one hl1, fun o' v ow rv => ?_⟩
        have Re := Rd.touch hil F15 (hK ▸ ow)
        have hp2' : upd H5 P1 o' P2 = some O2 := by rw [upd_ne hne]; exact hp2
        have F26 : Fresh g G2 φ2 ⟨q2.env.set i .non, q2.st⟩ (σ.set i (some (V.ref a))) (upd H5 P1 o') P2 O2 (.lst d2) := ⟨hp2', F2'.own, F2'.gp, F2'.fp, F2'.up, F2'.ph, slk P2 F2'.sl⟩
        refine ⟨V.ref a, hsi, a, [V.ref P1, V.ref P2], 1, V.ref P2, rfl, rfl, SqL.of (by rw [upd_ne (fun e => na1 e.symm)]; exact ha5), rfl, ?_⟩
        refine ⟨.inl ⟨rfl, xs2, SqL.of (by rw [hp2', eO2])⟩, k4 _ _ _ ?_⟩
        refine ⟨φ2, G2, P2, O2, .lst d2, [.non], .lst (d2 ++ [.non]), .non, rfl, hp2', hK ▸ F2'.own, F2'.gp, Re.sub, .cons .non .nil, append_one hl2, fun o'' v' ow' rv' => ?_⟩
        have Rf := Re.touch hil F26 (hK ▸ ow')
        exact ⟨g, G2, φ2, ⟨q2.env.set i .non, q2.st⟩, o, s', hK, Rf, he, q.pre (g1.trans g3) (g2.trans g4)⟩
    · cases e1
end
end Pv

namespace G
open PySem PySem.Spec L2 Pv
variable [TabL]
def topS (i : Nat) : Stmt := PySem.Challenge.pw_roughroads_k06_roads_for_lengths.main.body.getD i (.Pass ⟨0, 0, 0, 0⟩)
abbrev s_reached : Stmt := topS 1
abbrev N_reached : List Str := ["pairs", "house", "found", "changed", "a", "b"]
theorem sc_reached : FnScope N_reached ["pairs", "house"] (defScope s_reached) := ⟨rfl, rfl, rfl, by decide +kernel, rfl, by decide +kernel, by decide +kernel⟩
noncomputable def ev_reached : Ev Out := evSeq (evPar 2 3 (evLst (evCons (evName 1) (evNil))) (evC (.bl true))) (evSeq (evWh (evTru (evSlot 3)) (evSeq (evSet 3 (evC (.bl false))) (evForS (evItS (evName 0)) (tgTup 2 (tgCons (tgName 4) (tgCons (tgName 5) (tgNil)))) (evIf (evB (ev2 dNe (evV (ev2 dIn (evSlot 4) (evSlot 2))) (evV (ev2 dIn (evSlot 5) (evSlot 2))))) (evSeq (evDrop (evMut "list" 2 mAppend (evCons (evIte (evB (ev2 dIn (evSlot 4) (evSlot 2))) (evName 5) (evName 4)) (evNil)))) (evSet 3 (evC (.bl true)))) (evPass))))) (evRet (evN dSortedA (evConsB (evSlot 2) (evNilB)))))
noncomputable def m_reached : Fm := fnM 6 2 ev_reached
abbrev s_ends_of : Stmt := topS 3
abbrev N_ends_of : List Str := ["web", "road"]
theorem sc_ends_of : FnScope N_ends_of ["web", "road"] (defScope s_ends_of) := ⟨rfl, rfl, rfl, by decide +kernel, rfl, by decide +kernel, by decide +kernel⟩
noncomputable def ev_ends_of : Ev Out := evRet (evSl dSl (evV (ev2 dIx (evV (ev2 dIx (evSlot 0) (evV (evC (.int 1))))) (evSlot 1))) (evNo) (evPt (evV (evC (.int 2)))))
noncomputable def m_ends_of : Fm := fnM 2 2 ev_ends_of
abbrev s_choices : Stmt := topS 5
abbrev N_choices : List Str := ["size", "many", "found", "turn", "longer", "one", "k"]
theorem sc_choices : FnScope N_choices ["size", "many"] (defScope s_choices) := ⟨rfl, rfl, rfl, by decide +kernel, rfl, by decide +kernel, by decide +kernel⟩
noncomputable def ev_choices : Ev Out := evSeq (evSet 2 (evLst (evCons (evTup (evNil)) (evNil)))) (evSeq (evForS (evRng1 (evCons (evName 1) (evNil))) (tgName 3) (evSeq (evSet 4 (evLst (evNil))) (evSeq (evForS (evItS (evName 2)) (tgName 5) (evDrop (evMut "list" 4 mExtend (evCons (evLc (evRng2 (evCons (evIte (evB (ev2 dNe (evSlot 5) (evV (evTup (evNil))))) (ev2 dAdd (evV (ev2 dIx (evSlot 5) (evV (evNeg (evV (evC (.int 1))))))) (evV (evC (.int 1)))) (evC (.int 0))) (evCons (evName 0) (evNil)))) [5] [6] (tgName 6) (evYes) (ev2 dAdd (evSlot 5) (evV (evTup (evCons (evName 6) (evNil)))))) (evNil))))) (evSet 2 (evName 4))))) (evRetOwn 2))
noncomputable def m_choices : Fm := fnM 7 2 ev_choices
abbrev s_do_join : Stmt := topS 6
abbrev N_do_join : List Str := ["web", "roads", "road"]
theorem sc_do_join : FnScope N_do_join ["web", "roads"] (defScope s_do_join) := ⟨rfl, rfl, rfl, by decide +kernel, rfl, by decide +kernel, by decide +kernel⟩
noncomputable def ev_do_join : Ev Out := evRet (ev2 dEq (evV (evN dLen (evConsB (evV (evCall m_reached (evCons (evLc (evItS (evName 1)) [0] [2] (tgName 2) (evYes) (evCall m_ends_of (evCons (evName 0) (evCons (evName 2) (evNil))))) (evCons (evC (.int 0)) (evNil))))) (evNilB)))) (evV (ev2 dIx (evSlot 0) (evV (evC (.int 0))))))
noncomputable def m_do_join : Fm := fnM 3 2 ev_do_join
abbrev s_trees : Stmt := topS 7
abbrev N_trees : List Str := ["web", "roads"]
theorem sc_trees : FnScope N_trees ["web"] (defScope s_trees) := ⟨rfl, rfl, rfl, by decide +kernel, rfl, by decide +kernel, by decide +kernel⟩
noncomputable def ev_trees : Ev Out := evRet (evLc (evItS (evCall m_choices (evCons (evN dLen (evConsB (evV (ev2 dIx (evSlot 0) (evV (evC (.int 1))))) (evNilB))) (evCons (ev2 dSub (evV (ev2 dIx (evSlot 0) (evV (evC (.int 0))))) (evV (evC (.int 1)))) (evNil))))) [0] [1] (tgName 1) (evTru (evV (evCall m_do_join (evCons (evName 0) (evCons (evName 1) (evNil)))))) (evName 1))
noncomputable def m_trees : Fm := fnM 2 1 ev_trees
abbrev s_total : Stmt := topS 8
abbrev N_total : List Str := ["lengths", "tree", "road"]
theorem sc_total : FnScope N_total ["lengths", "tree"] (defScope s_total) := ⟨rfl, rfl, rfl, by decide +kernel, rfl, by decide +kernel, by decide +kernel⟩
noncomputable def ev_total : Ev Out := evRet (evN dSum (evConsB (evV (evLc (evItS (evName 1)) [0] [2] (tgName 2) (evYes) (ev2 dIx (evSlot 0) (evSlot 2)))) (evNilB)))
noncomputable def m_total : Fm := fnM 3 2 ev_total
abbrev s_greedy : Stmt := topS 9
abbrev N_greedy : List Str := ["web", "order", "labels", "found", "road", "a", "b", "one", "other", "label"]
theorem sc_greedy : FnScope N_greedy ["web", "order"] (defScope s_greedy) := ⟨rfl, rfl, rfl, by decide +kernel, rfl, by decide +kernel, by decide +kernel⟩
noncomputable def ev_greedy : Ev Out := evSeq (evPar 2 3 (evRgL (ev2 dIx (evSlot 0) (evV (evC (.int 0))))) (evLst (evNil))) (evSeq (evForS (evItS (evName 1)) (tgName 4) (evSeq (evAsg (tgTup 2 (tgCons (tgName 5) (tgCons (tgName 6) (tgNil)))) (evCall m_ends_of (evCons (evName 0) (evCons (evName 4) (evNil))))) (evSeq (evPar 7 8 (ev2 dIx (evSlot 2) (evSlot 5)) (ev2 dIx (evSlot 2) (evSlot 6))) (evIf (evB (ev2 dNe (evSlot 7) (evSlot 8))) (evSeq (evSet 2 (evLc (evItS (evName 2)) [7, 8] [9] (tgName 9) (evYes) (evIte (evB (ev2 dEq (evSlot 9) (evSlot 8))) (evName 7) (evName 9)))) (evDrop (evMut "list" 3 mAppend (evCons (evName 4) (evNil))))) (evPass))))) (evRet (evN dTuple (evConsB (evV (evN dSortedA (evConsB (evSlot 3) (evNilB)))) (evNilB)))))
noncomputable def m_greedy : Fm := fnM 10 2 ev_greedy
abbrev s_one_least : Stmt := topS 10
abbrev N_one_least : List Str := ["web", "lengths"]
theorem sc_one_least : FnScope N_one_least ["web", "lengths"] (defScope s_one_least) := ⟨rfl, rfl, rfl, by decide +kernel, rfl, by decide +kernel, by decide +kernel⟩
noncomputable def ev_one_least : Ev Out := evRet (evCall m_greedy (evCons (evName 0) (evCons (evSortR (.pair (.ix (.nm 1) (.nm 0)) (.nm 0)) [1] (evN dLen (evConsB (evV (ev2 dIx (evSlot 0) (evV (evC (.int 1))))) (evNilB)))) (evNil))))
noncomputable def m_one_least : Fm := fnM 2 2 ev_one_least
abbrev s_least_total : Stmt := topS 11
abbrev N_least_total : List Str := ["web", "lengths"]
theorem sc_least_total : FnScope N_least_total ["web", "lengths"] (defScope s_least_total) := ⟨rfl, rfl, rfl, by decide +kernel, rfl, by decide +kernel, by decide +kernel⟩
noncomputable def ev_least_total : Ev Out := evRet (evCall m_total (evCons (evName 1) (evCons (evCall m_one_least (evCons (evName 0) (evCons (evName 1) (evNil)))) (evNil))))
noncomputable def m_least_total : Fm := fnM 2 2 ev_least_total
abbrev s_least_trees : Stmt := topS 12
abbrev N_least_trees : List Str := ["web", "lengths", "least", "tree"]
theorem sc_least_trees : FnScope N_least_trees ["web", "lengths"] (defScope s_least_trees) := ⟨rfl, rfl, rfl, by decide +kernel, rfl, by decide +kernel, by decide +kernel⟩
noncomputable def ev_least_trees : Ev Out := evSeq (evSet 2 (evCall m_least_total (evCons (evName 0) (evCons (evName 1) (evNil))))) (evRet (evLc (evItS (evCall m_trees (evCons (evName 0) (evNil)))) [2, 1] [3] (tgName 3) (evB (ev2 dEq (evV (evCall m_total (evCons (evName 1) (evCons (evName 3) (evNil))))) (evSlot 2))) (evName 3)))
noncomputable def m_least_trees : Fm := fnM 4 2 ev_least_trees
abbrev s_used : Stmt := topS 13
abbrev N_used : List Str := ["web", "lengths", "some", "road", "tree"]
theorem sc_used : FnScope N_used ["web", "lengths"] (defScope s_used) := ⟨rfl, rfl, rfl, by decide +kernel, rfl, by decide +kernel, by decide +kernel⟩
noncomputable def ev_used : Ev Out := evSeq (evSet 2 (evCall m_least_trees (evCons (evName 0) (evCons (evName 1) (evNil))))) (evRet (evLc (evRng1 (evCons (evN dLen (evConsB (evV (ev2 dIx (evSlot 0) (evV (evC (.int 1))))) (evNilB))) (evNil))) [4, 2] [3] (tgName 3) (evTru (evV (evN dAny (evConsB (evV (evLc (evItS (evName 2)) [3] [4] (tgName 4) (evYes) (ev2 dIn (evSlot 3) (evSlot 4)))) (evNilB))))) (evName 3)))
noncomputable def m_used : Fm := fnM 5 2 ev_used
abbrev s_needed : Stmt := topS 14
abbrev N_needed : List Str := ["web", "lengths", "some", "road", "tree"]
theorem sc_needed : FnScope N_needed ["web", "lengths"] (defScope s_needed) := ⟨rfl, rfl, rfl, by decide +kernel, rfl, by decide +kernel, by decide +kernel⟩
noncomputable def ev_needed : Ev Out := evSeq (evSet 2 (evCall m_least_trees (evCons (evName 0) (evCons (evName 1) (evNil))))) (evRet (evLc (evRng1 (evCons (evN dLen (evConsB (evV (ev2 dIx (evSlot 0) (evV (evC (.int 1))))) (evNilB))) (evNil))) [4, 2] [3] (tgName 3) (evTru (evV (evN dAll (evConsB (evV (evLc (evItS (evName 2)) [3] [4] (tgName 4) (evYes) (ev2 dIn (evSlot 3) (evSlot 4)))) (evNilB))))) (evName 3)))
noncomputable def m_needed : Fm := fnM 5 2 ev_needed
abbrev s__law_open : Stmt := topS 16
abbrev N__law_open : List Str := ["script", "cells", "k", "cell"]
theorem sc__law_open : FnScope N__law_open ["script"] (defScope s__law_open) := ⟨rfl, rfl, rfl, by decide +kernel, rfl, by decide +kernel, by decide +kernel⟩
noncomputable def ev__law_open : Ev Out := evSeq (evSet 1 (evN dList (evConsB (evV (evSl dSl (evSlot 0) (evNo) (evPt (evV (evC (.int 12)))))) (evNilB)))) (evSeq (evForS (evArgs dEnumS (evCons (evSl dSl (evSlot 0) (evPt (evV (evC (.int 12)))) (evPt (evV (evC (.int 63))))) (evNil))) (tgTup 2 (tgCons (tgName 2) (tgCons (tgName 3) (tgNil)))) (evSetI 1 dSet (evV (ev2 dMod (evSlot 2) (evV (evC (.int 12))))) (ev2 dAdd (evV (ev2 dIx (evSlot 1) (evV (ev2 dMod (evSlot 2) (evV (evC (.int 12))))))) (evSlot 3)))) (evRet (evLst (evCons (evName 1) (evCons (evC (.int 0)) (evCons (evC (.int 0)) (evNil)))))))
noncomputable def m__law_open : Fm := fnM 4 1 ev__law_open
abbrev s__law_spread : Stmt := topS 17
abbrev N__law_spread : List Str := ["cell", "at", "primes", "one", "two", "three"]
theorem sc__law_spread : FnScope N__law_spread ["cell", "at"] (defScope s__law_spread) := ⟨rfl, rfl, rfl, by decide +kernel, rfl, by decide +kernel, by decide +kernel⟩
noncomputable def ev__law_spread : Ev Out := evSeq (evIf (evB (ev2 dGe (evSlot 0) (evV (ev2 dPow (evV (evC (.int 10))) (evV (evC (.int 18))))))) (evRetOwn 0) (evPass)) (evSeq (evSet 2 (evLst (evCons (evC (.int 2147483629)) (evCons (evC (.int 2147483587)) (evCons (evC (.int 2147483579)) (evCons (evC (.int 2147483563)) (evCons (evC (.int 2147483549)) (evCons (evC (.int 2147483543)) (evCons (evC (.int 2147483497)) (evCons (evC (.int 2147483489)) (evNil))))))))))) (evSeq (evSet 2 (ev2 dAdd (evSlot 2) (evV (evLst (evCons (evC (.int 2147483477)) (evCons (evC (.int 2147483423)) (evCons (evC (.int 2147483399)) (evCons (evC (.int 2147483353)) (evCons (evC (.int 2147483323)) (evNil)))))))))) (evSeq (evSet 3 (ev2 dMod (evV (ev2 dPow (evV (ev2 dAdd (evV (ev2 dAdd (evV (ev2 dMul (evV (ev2 dMod (evSlot 0) (evV (evC (.int 1000000007))))) (evV (ev2 dAdd (evV (ev2 dMul (evV (evC (.int 2))) (evSlot 1))) (evV (evC (.int 69069))))))) (evV (ev2 dMul (evSlot 1) (evV (evC (.int 40503))))))) (evV (evC (.int 977))))) (evV (evC (.int 3))))) (evV (ev2 dIx (evSlot 2) (evV (ev2 dMod (evSlot 1) (evV (evC (.int 13))))))))) (evSeq (evSet 4 (ev2 dMod (evV (ev2 dPow (evV (ev2 dAdd (evV (ev2 dAdd (evV (ev2 dMul (evSlot 3) (evV (ev2 dAdd (evSlot 1) (evV (evC (.int 3))))))) (evV (ev2 dMod (evSlot 0) (evV (evC (.int 65537))))))) (evV (evC (.int 5))))) (evV (evC (.int 5))))) (evV (ev2 dIx (evSlot 2) (evV (ev2 dMod (evV (ev2 dAdd (evSlot 1) (evV (evC (.int 5))))) (evV (evC (.int 13))))))))) (evSeq (evSet 5 (ev2 dMod (evV (ev2 dPow (evV (ev2 dAdd (evV (ev2 dAdd (evSlot 4) (evV (ev2 dMod (evSlot 3) (evV (evC (.int 1009))))))) (evSlot 1))) (evV (evC (.int 3))))) (evV (ev2 dIx (evSlot 2) (evV (ev2 dMod (evV (ev2 dAdd (evSlot 1) (evV (evC (.int 7))))) (evV (evC (.int 13))))))))) (evRet (ev2 dAdd (evV (ev2 dMul (evV (ev2 dAdd (evV (ev2 dMul (evSlot 3) (evV (evC (.int 2147483647))))) (evSlot 4))) (evV (evC (.int 2147483647))))) (evSlot 5))))))))
noncomputable def m__law_spread : Fm := fnM 6 2 ev__law_spread
abbrev s__law_take : Stmt := topS 18
abbrev N__law_take : List Str := ["pen", "amount", "at", "cell", "found"]
theorem sc__law_take : FnScope N__law_take ["pen", "amount"] (defScope s__law_take) := ⟨rfl, rfl, rfl, by decide +kernel, rfl, by decide +kernel, by decide +kernel⟩
noncomputable def ev__law_take : Ev Out := evSeq (evIf (evB (ev2 dLt (evV (ev2 dIx (evSlot 0) (evV (evC (.int 2))))) (evSlot 1))) (evSeq (evSet 2 (ev2 dIx (evSlot 0) (evV (evC (.int 1))))) (evSeq (evSet 3 (evC (.int 0))) (evSeq (evIf (evB (ev2 dLt (evSlot 2) (evV (evN dLen (evConsB (evV (ev2 dIx (evSlot 0) (evV (evC (.int 0))))) (evNilB)))))) (evSet 3 (ev2 dIx (evV (ev2 dIx (evSlot 0) (evV (evC (.int 0))))) (evSlot 2))) (evIf (evB (ev2 dGt (evV (evN dLen (evConsB (evV (ev2 dIx (evSlot 0) (evV (evC (.int 0))))) (evNilB)))) (evV (evC (.int 0))))) (evSet 3 (ev2 dMod (evV (ev2 dIx (evV (ev2 dIx (evSlot 0) (evV (evC (.int 0))))) (evV (ev2 dMod (evV (ev2 dAdd (evV (ev2 dMul (evSlot 2) (evV (evC (.int 5))))) (evV (evC (.int 3))))) (evV (evN dLen (evConsB (evV (ev2 dIx (evSlot 0) (evV (evC (.int 0))))) (evNilB)))))))) (evV (ev2 dAdd (evV (ev2 dPow (evV (evC (.int 10))) (evV (evC (.int 17))))) (evSlot 2))))) (evPass))) (evSeq (evSetI 0 dSet (evV (evC (.int 1))) (ev2 dAdd (evSlot 2) (evV (evC (.int 1))))) (evSetI 0 dSet (evV (evC (.int 2))) (evCall m__law_spread (evCons (evName 3) (evCons (evName 2) (evNil))))))))) (evPass)) (evSeq (evSet 4 (ev2 dMod (evV (ev2 dIx (evSlot 0) (evV (evC (.int 2))))) (evSlot 1))) (evSeq (evSetI 0 dSet (evV (evC (.int 2))) (ev2 dFdiv (evV (ev2 dIx (evSlot 0) (evV (evC (.int 2))))) (evSlot 1))) (evRetOwn 4)))
noncomputable def m__law_take : Fm := fnM 5 2 ev__law_take
abbrev s__law_same : Stmt := topS 19
abbrev N__law_same : List Str := ["found", "due", "one", "other"]
theorem sc__law_same : FnScope N__law_same ["found", "due"] (defScope s__law_same) := ⟨rfl, rfl, rfl, by decide +kernel, rfl, by decide +kernel, by decide +kernel⟩
noncomputable def ev__law_same (m__law_same : Fm) : Ev Out := evSeq (evIf (evOr (evB (ev2 dIs (evSlot 1) (evV (evC .non)))) (evB (ev2 dIs (evSlot 0) (evV (evC .non))))) (evRet (evVand (ev2 dIs (evSlot 1) (evV (evC .non))) (ev2 dIs (evSlot 0) (evV (evC .non))))) (evPass)) (evSeq (evIf (evOr (evTru (evV (evIsi "bool" (evSlot 1)))) (evTru (evV (evIsi "bool" (evSlot 0))))) (evRet (evVand (evIsi "bool" (evSlot 1)) (evVand (evIsi "bool" (evSlot 0)) (ev2 dEq (evSlot 0) (evSlot 1))))) (evPass)) (evSeq (evIf (evTru (evV (evIsis ["int", "str"] (evSlot 1)))) (evSeq (evIf (evB (ev2 dNe (evV (evIsi "int" (evSlot 0))) (evV (evIsi "int" (evSlot 1))))) (evRet (evC (.bl false))) (evPass)) (evRet (evVand (evIsis ["int", "str"] (evSlot 0)) (ev2 dEq (evSlot 0) (evSlot 1))))) (evPass)) (evSeq (evIf (evOr (evB (ev2 dNe (evV (evIsi "tuple" (evSlot 1))) (evV (evIsi "tuple" (evSlot 0))))) (evB (ev2 dNe (evV (evIsi "list" (evSlot 1))) (evV (evIsi "list" (evSlot 0)))))) (evRet (evC (.bl false))) (evPass)) (evSeq (evIf (evB (ev2 dNe (evV (evN dLen (evConsB (evSlot 0) (evNilB)))) (evV (evN dLen (evConsB (evSlot 1) (evNilB)))))) (evRet (evC (.bl false))) (evPass)) (evRet (ev2 dNotIn (evV (evC (.bl false))) (evV (evLc (evArgs dZip (evCons (evName 0) (evCons (evName 1) (evNil)))) [] [2, 3] (tgTup 2 (tgCons (tgName 2) (tgCons (tgName 3) (tgNil)))) (evYes) (evCall (m__law_same) (evCons (evName 2) (evCons (evName 3) (evNil))))))))))))
noncomputable def m__law_same : Nat → Fm
  | 0 => fun _ _ => none
  | k + 1 => fnM 4 2 (ev__law_same (m__law_same k))
theorem len__law_same : ∀ (k : Nat) (ds : List D) (st : List Cell) (r : RV × List Cell), m__law_same k ds st = some r → ds.length = 2
  | 0, _, _, _, h => by cases h
  | k + 1, _, _, _, h => fnM_len h
abbrev s__law_one_of : Stmt := topS 20
abbrev N__law_one_of : List Str := ["pen", "some"]
theorem sc__law_one_of : FnScope N__law_one_of ["pen", "some"] (defScope s__law_one_of) := ⟨rfl, rfl, rfl, by decide +kernel, rfl, by decide +kernel, by decide +kernel⟩
noncomputable def ev__law_one_of : Ev Out := evRet (ev2 dIx (evSlot 1) (evV (evCall m__law_take (evCons (evName 0) (evCons (evN dLen (evConsB (evSlot 1) (evNilB))) (evNil))))))
noncomputable def m__law_one_of : Fm := fnM 2 2 ev__law_one_of
abbrev s__law_draw_bounds : Stmt := topS 21
abbrev N__law_draw_bounds : List Str := ["pen", "low"]
theorem sc__law_draw_bounds : FnScope N__law_draw_bounds ["pen"] (defScope s__law_draw_bounds) := ⟨rfl, rfl, rfl, by decide +kernel, rfl, by decide +kernel, by decide +kernel⟩
noncomputable def ev__law_draw_bounds : Ev Out := evSeq (evSet 1 (evCall m__law_one_of (evCons (evName 0) (evCons (evLst (evCons (evC (.int 0)) (evCons (evC (.int 1)) (evCons (evC (.int 2)) (evCons (evC (.int 3)) (evCons (evC (.int 5)) (evCons (evCall m__law_take (evCons (evName 0) (evCons (evC (.int 10)) (evNil)))) (evCons (evCall m__law_take (evCons (evName 0) (evCons (evC (.int 100)) (evNil)))) (evNil))))))))) (evNil))))) (evRet (evTup (evCons (evName 1) (evCons (evN dMinA (evConsB (evV (evC (.int 99))) (evConsB (evV (ev2 dAdd (evSlot 1) (evV (evCall m__law_one_of (evCons (evName 0) (evCons (evLst (evCons (evC (.int 0)) (evCons (evC (.int 0)) (evCons (evC (.int 1)) (evCons (evC (.int 2)) (evCons (evC (.int 4)) (evCons (evCall m__law_take (evCons (evName 0) (evCons (evC (.int 10)) (evNil)))) (evCons (evCall m__law_take (evCons (evName 0) (evCons (evC (.int 100)) (evNil)))) (evNil))))))))) (evNil))))))) (evNilB)))) (evNil)))))
noncomputable def m__law_draw_bounds : Fm := fnM 2 1 ev__law_draw_bounds
abbrev s__law_draw_web : Stmt := topS 22
abbrev N__law_draw_web : List Str := ["pen", "houses", "most", "count", "roads", "house", "again", "b", "order", "turned", "a", "low", "high"]
theorem sc__law_draw_web : FnScope N__law_draw_web ["pen", "houses", "most"] (defScope s__law_draw_web) := ⟨rfl, rfl, rfl, by decide +kernel, rfl, by decide +kernel, by decide +kernel⟩
noncomputable def ev__law_draw_web : Ev Out := evSeq (evPar 3 4 (ev2 dAdd (evV (evC (.int 1))) (evV (evCall m__law_take (evCons (evName 0) (evCons (evName 1) (evNil)))))) (evLst (evNil))) (evSeq (evForS (evRng2 (evCons (evC (.int 1)) (evCons (evName 3) (evNil)))) (tgName 5) (evDrop (evMut "list" 4 mInsert (evCons (evCall m__law_take (evCons (evName 0) (evCons (ev2 dAdd (evV (evN dLen (evConsB (evSlot 4) (evNilB)))) (evV (evC (.int 1)))) (evNil)))) (evCons (ev2 dAdd (evV (evTup (evCons (evCall m__law_take (evCons (evName 0) (evCons (evName 5) (evNil)))) (evCons (evName 5) (evNil))))) (evV (evCall m__law_draw_bounds (evCons (evName 0) (evNil))))) (evNil)))))) (evSeq (evForS (evRng1 (evCons (evCall m__law_take (evCons (evName 0) (evCons (ev2 dAdd (evSlot 2) (evV (evC (.int 1)))) (evNil)))) (evNil))) (tgName 6) (evIf (evAnd (evB (ev2 dGt (evSlot 3) (evV (evC (.int 1))))) (evB (ev2 dLt (evV (evN dLen (evConsB (evSlot 4) (evNilB)))) (evSlot 2)))) (evSeq (evSet 7 (ev2 dAdd (evV (evC (.int 1))) (evV (evCall m__law_take (evCons (evName 0) (evCons (ev2 dSub (evSlot 3) (evV (evC (.int 1)))) (evNil))))))) (evDrop (evMut "list" 4 mInsert (evCons (evCall m__law_take (evCons (evName 0) (evCons (ev2 dAdd (evV (evN dLen (evConsB (evSlot 4) (evNilB)))) (evV (evC (.int 1)))) (evNil)))) (evCons (ev2 dAdd (evV (evTup (evCons (evCall m__law_take (evCons (evName 0) (evCons (evName 7) (evNil)))) (evCons (evName 7) (evNil))))) (evV (evCall m__law_draw_bounds (evCons (evName 0) (evNil))))) (evNil)))))) (evPass))) (evSeq (evPar 8 9 (evLst (evNil)) (evLst (evNil))) (evSeq (evForS (evRng1 (evCons (evName 3) (evNil))) (tgName 5) (evDrop (evMut "list" 8 mInsert (evCons (evCall m__law_take (evCons (evName 0) (evCons (ev2 dAdd (evSlot 5) (evV (evC (.int 1)))) (evNil)))) (evCons (evName 5) (evNil)))))) (evSeq (evForS (evItS (evName 4)) (tgTup 4 (tgCons (tgName 10) (tgCons (tgName 7) (tgCons (tgName 11) (tgCons (tgName 12) (tgNil)))))) (evDrop (evMut "list" 9 mAppend (evCons (evTup (evCons (evN dMinA (evConsB (evV (ev2 dIx (evSlot 8) (evSlot 10))) (evConsB (evV (ev2 dIx (evSlot 8) (evSlot 7))) (evNilB)))) (evCons (evN dMaxA (evConsB (evV (ev2 dIx (evSlot 8) (evSlot 10))) (evConsB (evV (ev2 dIx (evSlot 8) (evSlot 7))) (evNilB)))) (evCons (evName 11) (evCons (evName 12) (evNil)))))) (evNil))))) (evRet (evTup (evCons (evName 3) (evCons (evN dTuple (evConsB (evSlot 9) (evNilB))) (evNil))))))))))
noncomputable def m__law_draw_web : Fm := fnM 13 3 ev__law_draw_web
abbrev s__law_draw_lengths : Stmt := topS 23
abbrev N__law_draw_lengths : List Str := ["pen", "web", "a", "b", "low", "high"]
theorem sc__law_draw_lengths : FnScope N__law_draw_lengths ["pen", "web"] (defScope s__law_draw_lengths) := ⟨rfl, rfl, rfl, by decide +kernel, rfl, by decide +kernel, by decide +kernel⟩
noncomputable def ev__law_draw_lengths : Ev Out := evRet (evN dTuple (evConsB (evV (evLc (evItS (ev2 dIx (evSlot 1) (evV (evC (.int 1))))) [0] [2, 3, 4, 5] (tgTup 4 (tgCons (tgName 2) (tgCons (tgName 3) (tgCons (tgName 4) (tgCons (tgName 5) (tgNil)))))) (evYes) (ev2 dAdd (evSlot 4) (evV (evCall m__law_take (evCons (evName 0) (evCons (ev2 dAdd (evV (ev2 dSub (evSlot 5) (evSlot 4))) (evV (evC (.int 1)))) (evNil)))))))) (evNilB)))
noncomputable def m__law_draw_lengths : Fm := fnM 6 2 ev__law_draw_lengths
abbrev s__law_raised : Stmt := topS 24
abbrev N__law_raised : List Str := ["web", "some", "road", "one"]
theorem sc__law_raised : FnScope N__law_raised ["web", "some"] (defScope s__law_raised) := ⟨rfl, rfl, rfl, by decide +kernel, rfl, by decide +kernel, by decide +kernel⟩
noncomputable def ev__law_raised : Ev Out := evRet (evN dTuple (evConsB (evV (evLc (evArgs dEnumS (evCons (ev2 dIx (evSlot 0) (evV (evC (.int 1)))) (evNil))) [1] [2, 3] (tgTup 2 (tgCons (tgName 2) (tgCons (tgName 3) (tgNil)))) (evYes) (evIte (evB (ev2 dIn (evSlot 2) (evSlot 1))) (ev2 dIx (evSlot 3) (evV (evC (.int 3)))) (ev2 dIx (evSlot 3) (evV (evC (.int 2))))))) (evNilB)))
noncomputable def m__law_raised : Fm := fnM 4 2 ev__law_raised
abbrev s__law_reach : Stmt := topS 25
abbrev N__law_reach : List Str := ["web", "roads", "house", "found", "waiting", "here", "road", "a", "b", "there"]
theorem sc__law_reach : FnScope N__law_reach ["web", "roads", "house"] (defScope s__law_reach) := ⟨rfl, rfl, rfl, by decide +kernel, rfl, by decide +kernel, by decide +kernel⟩
noncomputable def ev__law_reach : Ev Out := evSeq (evPar 3 4 (evLst (evCons (evName 2) (evNil))) (evLst (evCons (evName 2) (evNil)))) (evSeq (evWh (evB (ev2 dNe (evSlot 4) (evV (evLst (evNil))))) (evSeq (evSet 5 (evMut "list" 4 mPop evNil)) (evForS (evItS (evName 1)) (tgName 6) (evSeq (evAsg (tgTup 2 (tgCons (tgName 7) (tgCons (tgName 8) (tgNil)))) (evSl dSl (evV (ev2 dIx (evV (ev2 dIx (evSlot 0) (evV (evC (.int 1))))) (evSlot 6))) (evNo) (evPt (evV (evC (.int 2)))))) (evForS (evItS (evLst (evCons (evName 7) (evCons (evName 8) (evNil))))) (tgName 9) (evIf (evAnd (evB (ev2 dIn (evSlot 5) (evV (evTup (evCons (evName 7) (evCons (evName 8) (evNil))))))) (evB (ev2 dNotIn (evSlot 9) (evSlot 3)))) (evSeq (evDrop (evMut "list" 3 mAppend (evCons (evName 9) (evNil)))) (evDrop (evMut "list" 4 mAppend (evCons (evName 9) (evNil))))) (evPass))))))) (evRet (evN dSortedA (evConsB (evSlot 3) (evNilB)))))
noncomputable def m__law_reach : Fm := fnM 10 3 ev__law_reach
abbrev s__law_is_apart : Stmt := topS 26
abbrev N__law_is_apart : List Str := ["web", "roads", "road", "a", "b", "one"]
theorem sc__law_is_apart : FnScope N__law_is_apart ["web", "roads", "road"] (defScope s__law_is_apart) := ⟨rfl, rfl, rfl, by decide +kernel, rfl, by decide +kernel, by decide +kernel⟩
noncomputable def ev__law_is_apart : Ev Out := evSeq (evAsg (tgTup 2 (tgCons (tgName 3) (tgCons (tgName 4) (tgNil)))) (evSl dSl (evV (ev2 dIx (evV (ev2 dIx (evSlot 0) (evV (evC (.int 1))))) (evSlot 2))) (evNo) (evPt (evV (evC (.int 2)))))) (evRet (ev2 dNotIn (evSlot 4) (evV (evCall m__law_reach (evCons (evName 0) (evCons (evLc (evItS (evName 1)) [2] [5] (tgName 5) (evB (ev2 dNe (evSlot 5) (evSlot 2))) (evName 5)) (evCons (evName 3) (evNil))))))))
noncomputable def m__law_is_apart : Fm := fnM 6 3 ev__law_is_apart
abbrev s__law_is_used : Stmt := topS 27
abbrev N__law_is_used : List Str := ["web", "lengths", "road", "one", "number"]
theorem sc__law_is_used : FnScope N__law_is_used ["web", "lengths", "road"] (defScope s__law_is_used) := ⟨rfl, rfl, rfl, by decide +kernel, rfl, by decide +kernel, by decide +kernel⟩
noncomputable def ev__law_is_used : Ev Out := evRet (evCall m__law_is_apart (evCons (evName 0) (evCons (evLc (evArgs dEnumS (evCons (evName 1) (evNil))) [1, 2] [3, 4] (tgTup 2 (tgCons (tgName 3) (tgCons (tgName 4) (tgNil)))) (evB (ev2 dLt (evSlot 4) (evV (ev2 dIx (evSlot 1) (evSlot 2))))) (evName 3)) (evCons (evName 2) (evNil)))))
noncomputable def m__law_is_used : Fm := fnM 5 3 ev__law_is_used
abbrev s__law_is_needed : Stmt := topS 28
abbrev N__law_is_needed : List Str := ["web", "lengths", "road", "one", "number"]
theorem sc__law_is_needed : FnScope N__law_is_needed ["web", "lengths", "road"] (defScope s__law_is_needed) := ⟨rfl, rfl, rfl, by decide +kernel, rfl, by decide +kernel, by decide +kernel⟩
noncomputable def ev__law_is_needed : Ev Out := evRet (evCall m__law_is_apart (evCons (evName 0) (evCons (evLc (evArgs dEnumS (evCons (evName 1) (evNil))) [1, 2] [3, 4] (tgTup 2 (tgCons (tgName 3) (tgCons (tgName 4) (tgNil)))) (evB (ev2 dLe (evSlot 4) (evV (ev2 dIx (evSlot 1) (evSlot 2))))) (evName 3)) (evCons (evName 2) (evNil)))))
noncomputable def m__law_is_needed : Fm := fnM 5 3 ev__law_is_needed
abbrev s_law : Stmt := topS 29
abbrev N_law : List Str := ["script", "pen", "turn", "web", "seen", "roads", "first", "lengths", "due", "other", "told", "road"]
theorem sc_law : FnScope N_law ["script"] (defScope s_law) := ⟨rfl, rfl, rfl, by decide +kernel, rfl, by decide +kernel, by decide +kernel⟩
noncomputable def ev_law : Ev Out := evSeq (evSetC 1 (evCall m__law_open (evCons (evName 0) (evNil)))) (evSeq (evForS (evRng1 (evCons (evC (.int 3)) (evNil))) (tgName 2) (evSeq (evSet 3 (evCall m__law_draw_web (evCons (evName 1) (evCons (evC (.int 6)) (evCons (ev2 dIx (evV (evLst (evCons (evC (.int 10)) (evCons (evC (.int 7)) (evCons (evC (.int 5)) (evNil)))))) (evSlot 2)) (evNil)))))) (evSeq (evPar 4 5 (evN dRepr (evConsB (evSlot 3) (evNilB))) (evRgL (evN dLen (evConsB (evV (ev2 dIx (evSlot 3) (evV (evC (.int 1))))) (evNilB))))) (evSeq (evSet 6 (evCall m__law_draw_lengths (evCons (evName 1) (evCons (evName 3) (evNil))))) (evForS (evItS (evLst (evCons (evName 6) (evCons (evCall m__law_raised (evCons (evName 3) (evCons (evLst (evNil)) (evNil)))) (evCons (evCall m__law_raised (evCons (evName 3) (evCons (evName 5) (evNil)))) (evCons (evName 6) (evNil))))))) (tgName 7) (evSeq (evSet 8 (evLc (evItS (evName 5)) [3, 7] [11] (tgName 11) (evTru (evV (evCall m__law_is_used (evCons (evName 3) (evCons (evName 7) (evCons (evName 11) (evNil))))))) (evName 11))) (evSeq (evSet 9 (evLc (evItS (evName 5)) [3, 7] [11] (tgName 11) (evTru (evV (evCall m__law_is_needed (evCons (evName 3) (evCons (evName 7) (evCons (evName 11) (evNil))))))) (evName 11))) (evSeq (evTold 10 (evCall m_used (evCons (evName 3) (evCons (evName 7) (evNil)))) (evCall m_needed (evCons (evName 3) (evCons (evName 7) (evNil)))) (evOr (evNot (evTru (evV (evQuiet (evCall (m__law_same 5) (evCons (evName 10) (evCons (evLst (evCons (evName 8) (evCons (evName 9) (evNil)))) (evNil)))))))) (evB (ev2 dNe (evV (evN dRepr (evConsB (evSlot 3) (evNilB)))) (evSlot 4))))) (evIf (evAnd (evB (ev2 dEq (evSlot 2) (evV (evC (.int 2))))) (evB (ev2 dNe (evV (evLst (evCons (evCall m_used (evCons (evName 3) (evCons (evName 7) (evNil)))) (evCons (evCall m_needed (evCons (evName 3) (evCons (evName 7) (evNil)))) (evNil))))) (evV (evLst (evCons (evName 8) (evCons (evName 9) (evNil)))))))) (evRet (evC (.bl false))) (evPass)))))))))) (evRet (evC (.bl true))))
noncomputable def m_law : Fm := fnM 12 1 ev_law
structure Tx (K : PySem.W.Frag) (mg : Str → Option Value) where
  f_reached : Addr
  fd_reached : FuncData
  F_reached : Fun K "reached" "reached" s_reached f_reached fd_reached
  b_reached : Binds K fd_reached ["pairs", "house"] []
  g_reached : mg "reached" = some (.ref f_reached)
  f_ends_of : Addr
  fd_ends_of : FuncData
  F_ends_of : Fun K "ends_of" "ends_of" s_ends_of f_ends_of fd_ends_of
  b_ends_of : Binds K fd_ends_of ["web", "road"] []
  g_ends_of : mg "ends_of" = some (.ref f_ends_of)
  f_choices : Addr
  fd_choices : FuncData
  F_choices : Fun K "choices" "choices" s_choices f_choices fd_choices
  b_choices : Binds K fd_choices ["size", "many"] []
  g_choices : mg "choices" = some (.ref f_choices)
  f_do_join : Addr
  fd_do_join : FuncData
  F_do_join : Fun K "do_join" "do_join" s_do_join f_do_join fd_do_join
  b_do_join : Binds K fd_do_join ["web", "roads"] []
  g_do_join : mg "do_join" = some (.ref f_do_join)
  f_trees : Addr
  fd_trees : FuncData
  F_trees : Fun K "trees" "trees" s_trees f_trees fd_trees
  b_trees : Binds K fd_trees ["web"] []
  g_trees : mg "trees" = some (.ref f_trees)
  f_total : Addr
  fd_total : FuncData
  F_total : Fun K "total" "total" s_total f_total fd_total
  b_total : Binds K fd_total ["lengths", "tree"] []
  g_total : mg "total" = some (.ref f_total)
  f_greedy : Addr
  fd_greedy : FuncData
  F_greedy : Fun K "greedy" "greedy" s_greedy f_greedy fd_greedy
  b_greedy : Binds K fd_greedy ["web", "order"] []
  g_greedy : mg "greedy" = some (.ref f_greedy)
  f_one_least : Addr
  fd_one_least : FuncData
  F_one_least : Fun K "one_least" "one_least" s_one_least f_one_least fd_one_least
  b_one_least : Binds K fd_one_least ["web", "lengths"] []
  g_one_least : mg "one_least" = some (.ref f_one_least)
  f_least_total : Addr
  fd_least_total : FuncData
  F_least_total : Fun K "least_total" "least_total" s_least_total f_least_total fd_least_total
  b_least_total : Binds K fd_least_total ["web", "lengths"] []
  g_least_total : mg "least_total" = some (.ref f_least_total)
  f_least_trees : Addr
  fd_least_trees : FuncData
  F_least_trees : Fun K "least_trees" "least_trees" s_least_trees f_least_trees fd_least_trees
  b_least_trees : Binds K fd_least_trees ["web", "lengths"] []
  g_least_trees : mg "least_trees" = some (.ref f_least_trees)
  f_used : Addr
  fd_used : FuncData
  F_used : Fun K "used" "used" s_used f_used fd_used
  b_used : Binds K fd_used ["web", "lengths"] []
  g_used : mg "used" = some (.ref f_used)
  f_needed : Addr
  fd_needed : FuncData
  F_needed : Fun K "needed" "needed" s_needed f_needed fd_needed
  b_needed : Binds K fd_needed ["web", "lengths"] []
  g_needed : mg "needed" = some (.ref f_needed)
  f__law_open : Addr
  fd__law_open : FuncData
  F__law_open : Fun K "_law_open" "_law_open" s__law_open f__law_open fd__law_open
  b__law_open : Binds K fd__law_open ["script"] []
  g__law_open : mg "_law_open" = some (.ref f__law_open)
  f__law_spread : Addr
  fd__law_spread : FuncData
  F__law_spread : Fun K "_law_spread" "_law_spread" s__law_spread f__law_spread fd__law_spread
  b__law_spread : Binds K fd__law_spread ["cell", "at"] []
  g__law_spread : mg "_law_spread" = some (.ref f__law_spread)
  f__law_take : Addr
  fd__law_take : FuncData
  F__law_take : Fun K "_law_take" "_law_take" s__law_take f__law_take fd__law_take
  b__law_take : Binds K fd__law_take ["pen", "amount"] []
  g__law_take : mg "_law_take" = some (.ref f__law_take)
  f__law_same : Addr
  fd__law_same : FuncData
  F__law_same : Fun K "_law_same" "_law_same" s__law_same f__law_same fd__law_same
  b__law_same : Binds K fd__law_same ["found", "due"] []
  g__law_same : mg "_law_same" = some (.ref f__law_same)
  f__law_one_of : Addr
  fd__law_one_of : FuncData
  F__law_one_of : Fun K "_law_one_of" "_law_one_of" s__law_one_of f__law_one_of fd__law_one_of
  b__law_one_of : Binds K fd__law_one_of ["pen", "some"] []
  g__law_one_of : mg "_law_one_of" = some (.ref f__law_one_of)
  f__law_draw_bounds : Addr
  fd__law_draw_bounds : FuncData
  F__law_draw_bounds : Fun K "_law_draw_bounds" "_law_draw_bounds" s__law_draw_bounds f__law_draw_bounds fd__law_draw_bounds
  b__law_draw_bounds : Binds K fd__law_draw_bounds ["pen"] []
  g__law_draw_bounds : mg "_law_draw_bounds" = some (.ref f__law_draw_bounds)
  f__law_draw_web : Addr
  fd__law_draw_web : FuncData
  F__law_draw_web : Fun K "_law_draw_web" "_law_draw_web" s__law_draw_web f__law_draw_web fd__law_draw_web
  b__law_draw_web : Binds K fd__law_draw_web ["pen", "houses", "most"] []
  g__law_draw_web : mg "_law_draw_web" = some (.ref f__law_draw_web)
  f__law_draw_lengths : Addr
  fd__law_draw_lengths : FuncData
  F__law_draw_lengths : Fun K "_law_draw_lengths" "_law_draw_lengths" s__law_draw_lengths f__law_draw_lengths fd__law_draw_lengths
  b__law_draw_lengths : Binds K fd__law_draw_lengths ["pen", "web"] []
  g__law_draw_lengths : mg "_law_draw_lengths" = some (.ref f__law_draw_lengths)
  f__law_raised : Addr
  fd__law_raised : FuncData
  F__law_raised : Fun K "_law_raised" "_law_raised" s__law_raised f__law_raised fd__law_raised
  b__law_raised : Binds K fd__law_raised ["web", "some"] []
  g__law_raised : mg "_law_raised" = some (.ref f__law_raised)
  f__law_reach : Addr
  fd__law_reach : FuncData
  F__law_reach : Fun K "_law_reach" "_law_reach" s__law_reach f__law_reach fd__law_reach
  b__law_reach : Binds K fd__law_reach ["web", "roads", "house"] []
  g__law_reach : mg "_law_reach" = some (.ref f__law_reach)
  f__law_is_apart : Addr
  fd__law_is_apart : FuncData
  F__law_is_apart : Fun K "_law_is_apart" "_law_is_apart" s__law_is_apart f__law_is_apart fd__law_is_apart
  b__law_is_apart : Binds K fd__law_is_apart ["web", "roads", "road"] []
  g__law_is_apart : mg "_law_is_apart" = some (.ref f__law_is_apart)
  f__law_is_used : Addr
  fd__law_is_used : FuncData
  F__law_is_used : Fun K "_law_is_used" "_law_is_used" s__law_is_used f__law_is_used fd__law_is_used
  b__law_is_used : Binds K fd__law_is_used ["web", "lengths", "road"] []
  g__law_is_used : mg "_law_is_used" = some (.ref f__law_is_used)
  f__law_is_needed : Addr
  fd__law_is_needed : FuncData
  F__law_is_needed : Fun K "_law_is_needed" "_law_is_needed" s__law_is_needed f__law_is_needed fd__law_is_needed
  b__law_is_needed : Binds K fd__law_is_needed ["web", "lengths", "road"] []
  g__law_is_needed : mg "_law_is_needed" = some (.ref f__law_is_needed)
  f_law : Addr
  fd_law : FuncData
  F_law : Fun K "law" "law" s_law f_law fd_law
  b_law : Binds K fd_law ["script"] []
  g_law : mg "law" = some (.ref f_law)
  lc_one_least : Addr
  lP_one_least : Addr
  lcd_one_least : fd_one_least.code = .ref lc_one_least
  lin_one_least : (lP_one_least, ((("one_least" : Str) ++ ".<locals>.") ++ "<lambda>")) ∈ TabL.tl
  luq_one_least : ∀ p ∈ TabL.tl, p.1 = lP_one_least → p.2 = ((("one_least" : Str) ++ ".<locals>.") ++ "<lambda>")
  n_all : mg "all" = none
  n_any : mg "any" = none
  n_bool : mg "bool" = none
  n_enumerate : mg "enumerate" = none
  n_int : mg "int" = none
  n_isinstance : mg "isinstance" = none
  n_len : mg "len" = none
  n_list : mg "list" = none
  n_max : mg "max" = none
  n_min : mg "min" = none
  n_range : mg "range" = none
  n_repr : mg "repr" = none
  n_sorted : mg "sorted" = none
  n_str : mg "str" = none
  n_sum : mg "sum" = none
  n_tuple : mg "tuple" = none
  n_zip : mg "zip" = none
structure TB {K : PySem.W.Frag} {mg : Str → Option Value} (T : Tx K mg) (base : Heap) : Prop where
  t_one_least : LamX.TabB base mg T.lc_one_least T.lP_one_least
theorem ok_reached {P : Program} {w : World} {K : PySem.W.Frag} {mg : Str → Option Value} {base : Heap} (T : Tx K mg) (B : TB T base) : FnG P w K mg base CX0 1 T.f_reached T.fd_reached ["pairs", "house"] (spF K 2 m_reached) := fn_ok T.F_reached sc_reached fun cdv hcd A outer s H E hr => by
    have hu := hr.hu
    have hgd := hr.gd
    have nd := sc_reached.nd
    exact (ss_cons (ss_par (i := 2) (j := 3) rfl nd (sr_lst (sa_cons (sr_name 1) sa_nil)) sr_bl)
    (ss_cons (ss_while PassesOwn.never (st_tru (sb_name 3)) (ss_cons (ss_set (i := 3) nd sr_bl)
    (ss_one (ss_for (vs := [4, 5]) PassesOwn.never rfl (si_seq (sr_name 0)) (sg_tup rfl (sgs_cons (sg_name 4 nd) (sgs_cons (sg_name 5 nd) sgs_nil))) (ss_one (ss_if (st_cmp (dop_ne hu) (sb_of (sr_cmp (dop_in hu) (sb_name 4) (sb_name 2) rfl)) (sb_of (sr_cmp (dop_in hu) (sb_name 5) (sb_name 2) rfl)) (nomark _)) (ss_cons (ss_expr (sr_mut (i := 2) PySem.F.plainAttrs_list PySem.F.slot_list_append PySem.F.type_list_append dm_append (sa_cons (sr_ite (st_cmp (dop_in hu) (sb_name 4) (sb_name 2) rfl) (sr_name 5) (sr_name 4)) sa_nil)))
    (ss_one (ss_set (i := 3) nd sr_bl))) ss_nil))))))
    (ss_one (ss_ret (sr_callB (dcall_sortedA hu) (by rfl) T.n_sorted bb_sorted (sbs_cons (sb_name 2) sbs_nil))))))
theorem ok_ends_of {P : Program} {w : World} {K : PySem.W.Frag} {mg : Str → Option Value} {base : Heap} (T : Tx K mg) (B : TB T base) : FnG P w K mg base CX0 1 T.f_ends_of T.fd_ends_of ["web", "road"] (spF K 2 m_ends_of) := fn_ok T.F_ends_of sc_ends_of fun cdv hcd A outer s H E hr => by
    have hu := hr.hu
    have hgd := hr.gd
    have nd := sc_ends_of.nd
    exact (ss_one (ss_ret (sr_slice (sb_of (sr_ix (dix hu) (sb_of (sr_ix (dix hu) (sb_name 0) (sb_of sr_int) fun _ _ => rfl)) (sb_name 1) fun _ _ => rfl)) sp_none (sp_some (sb_of sr_int)))))
theorem ok_choices {P : Program} {w : World} {K : PySem.W.Frag} {mg : Str → Option Value} {base : Heap} (T : Tx K mg) (B : TB T base) : FnG P w K mg base CX0 1 T.f_choices T.fd_choices ["size", "many"] (spF K 2 m_choices) := fn_ok T.F_choices sc_choices fun cdv hcd A outer s H E hr => by
    have hu := hr.hu
    have hgd := hr.gd
    have nd := sc_choices.nd
    exact (ss_cons (ss_set (i := 2) nd (sr_lst (sa_cons (sr_tup sa_nil) sa_nil)))
    (ss_cons (ss_for (vs := [3]) PassesOwn.never rfl (si_range1 (by rfl) T.n_range (sa_cons (sr_name 1) sa_nil)) (sg_name 3 nd) (ss_cons (ss_set (i := 4) nd (sr_lst sa_nil))
    (ss_cons (ss_for (vs := [5]) PassesOwn.never rfl (si_seq (sr_name 2)) (sg_name 5 nd) (ss_one (ss_expr (sr_mut (i := 4) PySem.F.plainAttrs_list PySem.F.slot_list_extend PySem.F.type_list_extend dm_extend (sa_cons (sr_lc [5] [("k", 6)] rfl nd (si_range2 (by rfl) T.n_range (sa_cons (sr_ite (st_cmp (dop_ne hu) (sb_name 5) (sb_of (sr_tup sa_nil)) (nomark _)) (sr_bin dop_add (sb_of (sr_ix (dix hu) (sb_name 5) (sb_of (sr_neg (sb_of sr_int))) fun _ _ => rfl)) (sb_of sr_int)) sr_int) (sa_cons (sr_name 0) sa_nil))) (blkOk_by (N := N_choices) (sc := defScope s_choices) (by decide +kernel)) (fun _ _ _ _ _ => (sg_name 6 nd)) (fun _ _ _ _ _ => sts_nil) (fun _ _ _ _ _ => (sr_bin dop_add (sb_name 5) (sb_of (sr_tup (sa_cons (sr_name 6) sa_nil)))))) sa_nil)))))
    (ss_one (ss_set (i := 2) nd (sr_name 4))))))
    (ss_one (ss_retOwn 2))))
theorem ok_do_join {P : Program} {w : World} {K : PySem.W.Frag} {mg : Str → Option Value} {base : Heap} (T : Tx K mg) (B : TB T base) : FnG P w K mg base CX0 2 T.f_do_join T.fd_do_join ["web", "roads"] (spF K 2 m_do_join) := fn_ok T.F_do_join sc_do_join fun cdv hcd A outer s H E hr => by
    have hu := hr.hu
    have hgd := hr.gd
    have nd := sc_do_join.nd
    exact (ss_one (ss_ret (sr_cmp (dop_eq hu) (sb_of (sr_callB dcall_len (by rfl) T.n_len bb_len (sbs_cons (sb_of (sr_call (ok_reached T B) (hr.mono (by omega)) (by rfl) T.g_reached T.F_reached.kp T.b_reached (fun ds st r h => fnM_len h) (sa_cons (sr_lc [0] [("road", 2)] rfl nd (si_seq (sr_name 1)) (blkOk_by (N := N_do_join) (sc := defScope s_do_join) (by decide +kernel)) (fun _ _ _ _ _ => (sg_name 2 nd)) (fun _ _ _ _ _ => sts_nil) (fun _ _ _ _ _ => (sr_call (ok_ends_of T B) (hr.mono (by omega)) (by rfl) T.g_ends_of T.F_ends_of.kp T.b_ends_of (fun ds st r h => fnM_len h) (sa_cons (sr_name 0) (sa_cons (sr_name 2) sa_nil))))) (sa_cons sr_int sa_nil)))) sbs_nil))) (sb_of (sr_ix (dix hu) (sb_name 0) (sb_of sr_int) fun _ _ => rfl)) (nomark _))))
theorem ok_trees {P : Program} {w : World} {K : PySem.W.Frag} {mg : Str → Option Value} {base : Heap} (T : Tx K mg) (B : TB T base) : FnG P w K mg base CX0 3 T.f_trees T.fd_trees ["web"] (spF K 1 m_trees) := fn_ok T.F_trees sc_trees fun cdv hcd A outer s H E hr => by
    have hu := hr.hu
    have hgd := hr.gd
    have nd := sc_trees.nd
    exact (ss_one (ss_ret (sr_lc [0] [("roads", 1)] rfl nd (si_seq (sr_call (ok_choices T B) (hr.mono (by omega)) (by rfl) T.g_choices T.F_choices.kp T.b_choices (fun ds st r h => fnM_len h) (sa_cons (sr_callB dcall_len (by rfl) T.n_len bb_len (sbs_cons (sb_of (sr_ix (dix hu) (sb_name 0) (sb_of sr_int) fun _ _ => rfl)) sbs_nil)) (sa_cons (sr_bin dop_sub (sb_of (sr_ix (dix hu) (sb_name 0) (sb_of sr_int) fun _ _ => rfl)) (sb_of sr_int)) sa_nil)))) (blkOk_by (N := N_trees) (sc := defScope s_trees) (by decide +kernel)) (fun _ _ _ _ _ => (sg_name 1 nd)) (fun _ _ _ _ _ => (sts_one (st_tru (sb_of (sr_call (ok_do_join T B) (hr.mono (by omega)) (by rfl) T.g_do_join T.F_do_join.kp T.b_do_join (fun ds st r h => fnM_len h) (sa_cons (sr_name 0) (sa_cons (sr_name 1) sa_nil))))))) (fun _ _ _ _ _ => (sr_name 1)))))
theorem ok_total {P : Program} {w : World} {K : PySem.W.Frag} {mg : Str → Option Value} {base : Heap} (T : Tx K mg) (B : TB T base) : FnG P w K mg base CX0 1 T.f_total T.fd_total ["lengths", "tree"] (spF K 2 m_total) := fn_ok T.F_total sc_total fun cdv hcd A outer s H E hr => by
    have hu := hr.hu
    have hgd := hr.gd
    have nd := sc_total.nd
    exact (ss_one (ss_ret (sr_callB (dcall_sum rfl) (by rfl) T.n_sum bb_sum (sbs_cons (sb_of (sr_lc [0] [("road", 2)] rfl nd (si_seq (sr_name 1)) (blkOk_by (N := N_total) (sc := defScope s_total) (by decide +kernel)) (fun _ _ _ _ _ => (sg_name 2 nd)) (fun _ _ _ _ _ => sts_nil) (fun _ _ _ _ _ => (sr_ix (dix hu) (sb_name 0) (sb_name 2) fun _ _ => rfl)))) sbs_nil))))
theorem ok_greedy {P : Program} {w : World} {K : PySem.W.Frag} {mg : Str → Option Value} {base : Heap} (T : Tx K mg) (B : TB T base) : FnG P w K mg base CX0 2 T.f_greedy T.fd_greedy ["web", "order"] (spF K 2 m_greedy) := fn_ok T.F_greedy sc_greedy fun cdv hcd A outer s H E hr => by
    have hu := hr.hu
    have hgd := hr.gd
    have nd := sc_greedy.nd
    exact (ss_cons (ss_par (i := 2) (j := 3) rfl nd (sr_rgL rfl (by rfl) T.n_list (by rfl) T.n_range (sr_ix (dix hu) (sb_name 0) (sb_of sr_int) fun _ _ => rfl)) (sr_lst sa_nil))
    (ss_cons (ss_for (vs := [4]) PassesOwn.never rfl (si_seq (sr_name 1)) (sg_name 4 nd) (ss_cons (ss_asg (vs := [5, 6]) (sr_call (ok_ends_of T B) (hr.mono (by omega)) (by rfl) T.g_ends_of T.F_ends_of.kp T.b_ends_of (fun ds st r h => fnM_len h) (sa_cons (sr_name 0) (sa_cons (sr_name 4) sa_nil))) (sg_tup rfl (sgs_cons (sg_name 5 nd) (sgs_cons (sg_name 6 nd) sgs_nil))))
    (ss_cons (ss_parC (i := 7) (j := 8) rfl nd (sr_ix (dix hu) (sb_name 2) (sb_name 5) fun _ _ => rfl) (sr_ix (dix hu) (sb_name 2) (sb_name 6) fun _ _ => rfl))
    (ss_one (ss_if (st_cmp (dop_ne hu) (sb_name 7) (sb_name 8) (nomark _)) (ss_cons (ss_setLc (i := 2) [7, 8] [("label", 9)] rfl nd (sw_true rfl rfl rfl (by decide +kernel)) (si_seq (sr_name 2)) (blkOk_by (N := N_greedy) (sc := defScope s_greedy) (by decide +kernel)) (fun _ _ _ _ _ => (sg_name 9 nd)) (fun _ _ _ _ _ => sts_nil) (fun _ _ _ _ _ => (sr_ite (st_cmp (dop_eq hu) (sb_name 9) (sb_name 8) (nomark _)) (sr_name 7) (sr_name 9))))
    (ss_one (ss_expr (sr_mut (i := 3) PySem.F.plainAttrs_list PySem.F.slot_list_append PySem.F.type_list_append dm_append (sa_cons (sr_name 4) sa_nil))))) ss_nil)))))
    (ss_one (ss_ret (sr_callTy dcall_tuple (by rfl) T.n_tuple bb_tuple (sbs_cons (sb_of (sr_callB (dcall_sortedA hu) (by rfl) T.n_sorted bb_sorted (sbs_cons (sb_name 3) sbs_nil))) sbs_nil))))))
theorem ok_one_least {P : Program} {w : World} {K : PySem.W.Frag} {mg : Str → Option Value} {base : Heap} (T : Tx K mg) (B : TB T base) : FnG P w K mg base CX0 3 T.f_one_least T.fd_one_least ["web", "lengths"] (spF K 2 m_one_least) := fn_ok T.F_one_least sc_one_least fun cdv hcd A outer s H E hr => by
    have hu := hr.hu
    have hgd := hr.gd
    have nd := sc_one_least.nd
    exact (ss_one (ss_ret (sr_call (ok_greedy T B) (hr.mono (by omega)) (by rfl) T.g_greedy T.F_greedy.kp T.b_greedy (fun ds st r h => fnM_len h) (sa_cons (sr_name 0) (sa_cons (sr_sortR (p := "road") (caps := ["lengths"]) (cx := [1]) rfl hr.dp5 hr.un150 (by exact ⟨⟨T.lc_one_least, T.lP_one_least, hcd.symm.trans T.lcd_one_least, B.t_one_least, T.lin_one_least, T.luq_one_least⟩⟩) (by rfl) T.n_sorted (by rfl) T.n_range (sr_callB dcall_len (by rfl) T.n_len bb_len (sbs_cons (sb_of (sr_ix (dix hu) (sb_name 0) (sb_of sr_int) fun _ _ => rfl)) sbs_nil)) ⟨by rfl, by rfl, by rfl, by rfl, nocell_of (by rfl), frees_of (by rfl)⟩ (kok_pair (kok_ix (kok_name 1) (kok_name 0) (fun _ _ => rfl)) (kok_name 0)) (by rfl) (fr_of (by rfl)) (by rfl) (by intros; rfl)) sa_nil)))))
theorem ok_least_total {P : Program} {w : World} {K : PySem.W.Frag} {mg : Str → Option Value} {base : Heap} (T : Tx K mg) (B : TB T base) : FnG P w K mg base CX0 4 T.f_least_total T.fd_least_total ["web", "lengths"] (spF K 2 m_least_total) := fn_ok T.F_least_total sc_least_total fun cdv hcd A outer s H E hr => by
    have hu := hr.hu
    have hgd := hr.gd
    have nd := sc_least_total.nd
    exact (ss_one (ss_ret (sr_call (ok_total T B) (hr.mono (by omega)) (by rfl) T.g_total T.F_total.kp T.b_total (fun ds st r h => fnM_len h) (sa_cons (sr_name 1) (sa_cons (sr_call (ok_one_least T B) (hr.mono (by omega)) (by rfl) T.g_one_least T.F_one_least.kp T.b_one_least (fun ds st r h => fnM_len h) (sa_cons (sr_name 0) (sa_cons (sr_name 1) sa_nil))) sa_nil)))))
theorem ok_least_trees {P : Program} {w : World} {K : PySem.W.Frag} {mg : Str → Option Value} {base : Heap} (T : Tx K mg) (B : TB T base) : FnG P w K mg base CX0 5 T.f_least_trees T.fd_least_trees ["web", "lengths"] (spF K 2 m_least_trees) := fn_ok T.F_least_trees sc_least_trees fun cdv hcd A outer s H E hr => by
    have hu := hr.hu
    have hgd := hr.gd
    have nd := sc_least_trees.nd
    exact (ss_cons (ss_set (i := 2) nd (sr_call (ok_least_total T B) (hr.mono (by omega)) (by rfl) T.g_least_total T.F_least_total.kp T.b_least_total (fun ds st r h => fnM_len h) (sa_cons (sr_name 0) (sa_cons (sr_name 1) sa_nil))))
    (ss_one (ss_ret (sr_lc [2, 1] [("tree", 3)] rfl nd (si_seq (sr_call (ok_trees T B) (hr.mono (by omega)) (by rfl) T.g_trees T.F_trees.kp T.b_trees (fun ds st r h => fnM_len h) (sa_cons (sr_name 0) sa_nil))) (blkOk_by (N := N_least_trees) (sc := defScope s_least_trees) (by decide +kernel)) (fun _ _ _ _ _ => (sg_name 3 nd)) (fun _ _ _ _ _ => (sts_one (st_cmp (dop_eq hu) (sb_of (sr_call (ok_total T B) (hr.mono (by omega)) (by rfl) T.g_total T.F_total.kp T.b_total (fun ds st r h => fnM_len h) (sa_cons (sr_name 1) (sa_cons (sr_name 3) sa_nil)))) (sb_name 2) (nomark _)))) (fun _ _ _ _ _ => (sr_name 3))))))
theorem ok_used {P : Program} {w : World} {K : PySem.W.Frag} {mg : Str → Option Value} {base : Heap} (T : Tx K mg) (B : TB T base) : FnG P w K mg base CX0 6 T.f_used T.fd_used ["web", "lengths"] (spF K 2 m_used) := fn_ok T.F_used sc_used fun cdv hcd A outer s H E hr => by
    have hu := hr.hu
    have hgd := hr.gd
    have nd := sc_used.nd
    exact (ss_cons (ss_set (i := 2) nd (sr_call (ok_least_trees T B) (hr.mono (by omega)) (by rfl) T.g_least_trees T.F_least_trees.kp T.b_least_trees (fun ds st r h => fnM_len h) (sa_cons (sr_name 0) (sa_cons (sr_name 1) sa_nil))))
    (ss_one (ss_ret (sr_lc [4, 2] [("road", 3)] rfl nd (si_range1 (by rfl) T.n_range (sa_cons (sr_callB dcall_len (by rfl) T.n_len bb_len (sbs_cons (sb_of (sr_ix (dix hu) (sb_name 0) (sb_of sr_int) fun _ _ => rfl)) sbs_nil)) sa_nil)) (blkOk_by (N := N_used) (sc := defScope s_used) (by decide +kernel)) (fun _ _ _ _ _ => (sg_name 3 nd)) (fun _ _ _ _ _ => (sts_one (st_tru (sb_of (sr_callB (dcall_any rfl) (by rfl) T.n_any bb_any (sbs_cons (sb_of (sr_lc [3] [("tree", 4)] rfl nd (si_seq (sr_name 2)) (blkOk_by (N := N_used) (sc := relS _ (defScope s_used)) (by decide +kernel)) (fun _ _ _ _ _ => (sg_name 4 nd)) (fun _ _ _ _ _ => sts_nil) (fun _ _ _ _ _ => (sr_cmp (dop_in hu) (sb_name 3) (sb_name 4) rfl)))) sbs_nil)))))) (fun _ _ _ _ _ => (sr_name 3))))))
theorem ok_needed {P : Program} {w : World} {K : PySem.W.Frag} {mg : Str → Option Value} {base : Heap} (T : Tx K mg) (B : TB T base) : FnG P w K mg base CX0 6 T.f_needed T.fd_needed ["web", "lengths"] (spF K 2 m_needed) := fn_ok T.F_needed sc_needed fun cdv hcd A outer s H E hr => by
    have hu := hr.hu
    have hgd := hr.gd
    have nd := sc_needed.nd
    exact (ss_cons (ss_set (i := 2) nd (sr_call (ok_least_trees T B) (hr.mono (by omega)) (by rfl) T.g_least_trees T.F_least_trees.kp T.b_least_trees (fun ds st r h => fnM_len h) (sa_cons (sr_name 0) (sa_cons (sr_name 1) sa_nil))))
    (ss_one (ss_ret (sr_lc [4, 2] [("road", 3)] rfl nd (si_range1 (by rfl) T.n_range (sa_cons (sr_callB dcall_len (by rfl) T.n_len bb_len (sbs_cons (sb_of (sr_ix (dix hu) (sb_name 0) (sb_of sr_int) fun _ _ => rfl)) sbs_nil)) sa_nil)) (blkOk_by (N := N_needed) (sc := defScope s_needed) (by decide +kernel)) (fun _ _ _ _ _ => (sg_name 3 nd)) (fun _ _ _ _ _ => (sts_one (st_tru (sb_of (sr_callB (dcall_all rfl) (by rfl) T.n_all bb_all (sbs_cons (sb_of (sr_lc [3] [("tree", 4)] rfl nd (si_seq (sr_name 2)) (blkOk_by (N := N_needed) (sc := relS _ (defScope s_needed)) (by decide +kernel)) (fun _ _ _ _ _ => (sg_name 4 nd)) (fun _ _ _ _ _ => sts_nil) (fun _ _ _ _ _ => (sr_cmp (dop_in hu) (sb_name 3) (sb_name 4) rfl)))) sbs_nil)))))) (fun _ _ _ _ _ => (sr_name 3))))))
theorem ok__law_open {P : Program} {w : World} {K : PySem.W.Frag} {mg : Str → Option Value} {base : Heap} (T : Tx K mg) (B : TB T base) : FnG P w K mg base CX0 1 T.f__law_open T.fd__law_open ["script"] (spF K 1 m__law_open) := fn_ok T.F__law_open sc__law_open fun cdv hcd A outer s H E hr => by
    have hu := hr.hu
    have hgd := hr.gd
    have nd := sc__law_open.nd
    exact (ss_cons (ss_set (i := 1) nd (sr_callTy dcall_list (by rfl) T.n_list bb_list (sbs_cons (sb_of (sr_slice (sb_name 0) sp_none (sp_some (sb_of sr_int)))) sbs_nil)))
    (ss_cons (ss_for (vs := [2, 3]) PassesOwn.never rfl (si_enumS (by rfl) T.n_enumerate (sa_cons (sr_slice (sb_name 0) (sp_some (sb_of sr_int)) (sp_some (sb_of sr_int))) sa_nil)) (sg_tup rfl (sgs_cons (sg_name 2 nd) (sgs_cons (sg_name 3 nd) sgs_nil))) (ss_one (ss_setI (i := 1) (dset hu) (sb_of (sr_bin dop_mod (sb_name 2) (sb_of sr_int))) (sr_bin dop_add (sb_of (sr_ix (dix hu) (sb_name 1) (sb_of (sr_bin dop_mod (sb_name 2) (sb_of sr_int))) fun _ _ => rfl)) (sb_name 3)))))
    (ss_one (ss_ret (sr_lst (sa_cons (sr_name 1) (sa_cons sr_int (sa_cons sr_int sa_nil))))))))
theorem ok__law_spread {P : Program} {w : World} {K : PySem.W.Frag} {mg : Str → Option Value} {base : Heap} (T : Tx K mg) (B : TB T base) : FnG P w K mg base CX0 1 T.f__law_spread T.fd__law_spread ["cell", "at"] (spF K 2 m__law_spread) := fn_ok T.F__law_spread sc__law_spread fun cdv hcd A outer s H E hr => by
    have hu := hr.hu
    have hgd := hr.gd
    have nd := sc__law_spread.nd
    exact (ss_cons (ss_if (st_cmp dop_ge (sb_name 0) (sb_of (sr_bin dop_pow (sb_of sr_int) (sb_of sr_int))) (nomark _)) (ss_one (ss_retOwn 0)) ss_nil)
    (ss_cons (ss_set (i := 2) nd (sr_lst (sa_cons sr_int (sa_cons sr_int (sa_cons sr_int (sa_cons sr_int (sa_cons sr_int (sa_cons sr_int (sa_cons sr_int (sa_cons sr_int sa_nil))))))))))
    (ss_cons (ss_set (i := 2) nd (sr_bin dop_add (sb_name 2) (sb_of (sr_lst (sa_cons sr_int (sa_cons sr_int (sa_cons sr_int (sa_cons sr_int (sa_cons sr_int sa_nil)))))))))
    (ss_cons (ss_set (i := 3) nd (sr_bin dop_mod (sb_of (sr_bin dop_pow (sb_of (sr_bin dop_add (sb_of (sr_bin dop_add (sb_of (sr_bin dop_mul (sb_of (sr_bin dop_mod (sb_name 0) (sb_of sr_int))) (sb_of (sr_bin dop_add (sb_of (sr_bin dop_mul (sb_of sr_int) (sb_name 1))) (sb_of sr_int))))) (sb_of (sr_bin dop_mul (sb_name 1) (sb_of sr_int))))) (sb_of sr_int))) (sb_of sr_int))) (sb_of (sr_ix (dix hu) (sb_name 2) (sb_of (sr_bin dop_mod (sb_name 1) (sb_of sr_int))) fun _ _ => rfl))))
    (ss_cons (ss_set (i := 4) nd (sr_bin dop_mod (sb_of (sr_bin dop_pow (sb_of (sr_bin dop_add (sb_of (sr_bin dop_add (sb_of (sr_bin dop_mul (sb_name 3) (sb_of (sr_bin dop_add (sb_name 1) (sb_of sr_int))))) (sb_of (sr_bin dop_mod (sb_name 0) (sb_of sr_int))))) (sb_of sr_int))) (sb_of sr_int))) (sb_of (sr_ix (dix hu) (sb_name 2) (sb_of (sr_bin dop_mod (sb_of (sr_bin dop_add (sb_name 1) (sb_of sr_int))) (sb_of sr_int))) fun _ _ => rfl))))
    (ss_cons (ss_set (i := 5) nd (sr_bin dop_mod (sb_of (sr_bin dop_pow (sb_of (sr_bin dop_add (sb_of (sr_bin dop_add (sb_name 4) (sb_of (sr_bin dop_mod (sb_name 3) (sb_of sr_int))))) (sb_name 1))) (sb_of sr_int))) (sb_of (sr_ix (dix hu) (sb_name 2) (sb_of (sr_bin dop_mod (sb_of (sr_bin dop_add (sb_name 1) (sb_of sr_int))) (sb_of sr_int))) fun _ _ => rfl))))
    (ss_one (ss_ret (sr_bin dop_add (sb_of (sr_bin dop_mul (sb_of (sr_bin dop_add (sb_of (sr_bin dop_mul (sb_name 3) (sb_of sr_int))) (sb_name 4))) (sb_of sr_int))) (sb_name 5))))))))))
theorem ok__law_take {P : Program} {w : World} {K : PySem.W.Frag} {mg : Str → Option Value} {base : Heap} (T : Tx K mg) (B : TB T base) : FnG P w K mg base CX0 2 T.f__law_take T.fd__law_take ["pen", "amount"] (spF K 2 m__law_take) := fn_ok T.F__law_take sc__law_take fun cdv hcd A outer s H E hr => by
    have hu := hr.hu
    have hgd := hr.gd
    have nd := sc__law_take.nd
    exact (ss_cons (ss_if (st_cmp (dop_lt hu) (sb_of (sr_ix (dix hu) (sb_name 0) (sb_of sr_int) fun _ _ => rfl)) (sb_name 1) (nomark _)) (ss_cons (ss_set (i := 2) nd (sr_ix (dix hu) (sb_name 0) (sb_of sr_int) fun _ _ => rfl))
    (ss_cons (ss_set (i := 3) nd sr_int)
    (ss_cons (ss_if (st_cmp (dop_lt hu) (sb_name 2) (sb_of (sr_callB dcall_len (by rfl) T.n_len bb_len (sbs_cons (sb_of (sr_ix (dix hu) (sb_name 0) (sb_of sr_int) fun _ _ => rfl)) sbs_nil))) (nomark _)) (ss_one (ss_set (i := 3) nd (sr_ix (dix hu) (sb_of (sr_ix (dix hu) (sb_name 0) (sb_of sr_int) fun _ _ => rfl)) (sb_name 2) fun _ _ => rfl))) (ss_one (ss_if (st_cmp dop_gt (sb_of (sr_callB dcall_len (by rfl) T.n_len bb_len (sbs_cons (sb_of (sr_ix (dix hu) (sb_name 0) (sb_of sr_int) fun _ _ => rfl)) sbs_nil))) (sb_of sr_int) (nomark _)) (ss_one (ss_set (i := 3) nd (sr_bin dop_mod (sb_of (sr_ix (dix hu) (sb_of (sr_ix (dix hu) (sb_name 0) (sb_of sr_int) fun _ _ => rfl)) (sb_of (sr_bin dop_mod (sb_of (sr_bin dop_add (sb_of (sr_bin dop_mul (sb_name 2) (sb_of sr_int))) (sb_of sr_int))) (sb_of (sr_callB dcall_len (by rfl) T.n_len bb_len (sbs_cons (sb_of (sr_ix (dix hu) (sb_name 0) (sb_of sr_int) fun _ _ => rfl)) sbs_nil))))) fun _ _ => rfl)) (sb_of (sr_bin dop_add (sb_of (sr_bin dop_pow (sb_of sr_int) (sb_of sr_int))) (sb_name 2)))))) ss_nil)))
    (ss_cons (ss_setI (i := 0) (dset hu) (sb_of sr_int) (sr_bin dop_add (sb_name 2) (sb_of sr_int)))
    (ss_one (ss_setI (i := 0) (dset hu) (sb_of sr_int) (sr_call (ok__law_spread T B) (hr.mono (by omega)) (by rfl) T.g__law_spread T.F__law_spread.kp T.b__law_spread (fun ds st r h => fnM_len h) (sa_cons (sr_name 3) (sa_cons (sr_name 2) sa_nil))))))))) ss_nil)
    (ss_cons (ss_set (i := 4) nd (sr_bin dop_mod (sb_of (sr_ix (dix hu) (sb_name 0) (sb_of sr_int) fun _ _ => rfl)) (sb_name 1)))
    (ss_cons (ss_setI (i := 0) (dset hu) (sb_of sr_int) (sr_bin dop_fdiv (sb_of (sr_ix (dix hu) (sb_name 0) (sb_of sr_int) fun _ _ => rfl)) (sb_name 1)))
    (ss_one (ss_retOwn 4)))))
theorem ok__law_same {P : Program} {w : World} {K : PySem.W.Frag} {mg : Str → Option Value} {base : Heap} (T : Tx K mg) (B : TB T base) : ∀ k : Nat, FnG P w K mg base CX0 (k + 1) T.f__law_same T.fd__law_same ["found", "due"] (spF K 2 (m__law_same k))
  | 0 => fn_void
  | k + 1 => fn_ok T.F__law_same sc__law_same fun cdv hcd A outer s H E hr => by
    have hu := hr.hu
    have hgd := hr.gd
    have nd := sc__law_same.nd
    have hrec := ok__law_same (P := P) (w := w) (base := base) T B k
    have hlen := len__law_same k
    exact (ss_cons (ss_if (sw_st (sw_or (st_cmp dop_is (sb_name 1) (sb_of sr_non) (nomark _)) (sw_or1 (st_cmp dop_is (sb_name 0) (sb_of sr_non) (nomark _))))) (ss_one (ss_ret (sr_and (sr_cmp dop_is (sb_name 1) (sb_of sr_non) (nomark _)) (sr_one (sr_cmp dop_is (sb_name 0) (sb_of sr_non) (nomark _)))))) ss_nil)
    (ss_cons (ss_if (sw_st (sw_or (st_tru (sb_of (sr_isi (by rfl) T.n_isinstance (by rfl) T.n_bool bb_bool (sb_name 1)))) (sw_or1 (st_tru (sb_of (sr_isi (by rfl) T.n_isinstance (by rfl) T.n_bool bb_bool (sb_name 0))))))) (ss_one (ss_ret (sr_and (sr_isi (by rfl) T.n_isinstance (by rfl) T.n_bool bb_bool (sb_name 1)) (sr_and (sr_isi (by rfl) T.n_isinstance (by rfl) T.n_bool bb_bool (sb_name 0)) (sr_one (sr_cmp (dop_eq hu) (sb_name 0) (sb_name 1) (nomark _))))))) ss_nil)
    (ss_cons (ss_if (st_tru (sb_of (sr_isi2 (by rfl) T.n_isinstance (by rfl) T.n_int bb_int (by rfl) T.n_str bb_str (sb_name 1)))) (ss_cons (ss_if (st_cmp (dop_ne hu) (sb_of (sr_isi (by rfl) T.n_isinstance (by rfl) T.n_int bb_int (sb_name 0))) (sb_of (sr_isi (by rfl) T.n_isinstance (by rfl) T.n_int bb_int (sb_name 1))) (nomark _)) (ss_one (ss_ret sr_bl)) ss_nil)
    (ss_one (ss_ret (sr_and (sr_isi2 (by rfl) T.n_isinstance (by rfl) T.n_int bb_int (by rfl) T.n_str bb_str (sb_name 0)) (sr_one (sr_cmp (dop_eq hu) (sb_name 0) (sb_name 1) (nomark _))))))) ss_nil)
    (ss_cons (ss_if (sw_st (sw_or (st_cmp (dop_ne hu) (sb_of (sr_isi (by rfl) T.n_isinstance (by rfl) T.n_tuple bb_tuple (sb_name 1))) (sb_of (sr_isi (by rfl) T.n_isinstance (by rfl) T.n_tuple bb_tuple (sb_name 0))) (nomark _)) (sw_or1 (st_cmp (dop_ne hu) (sb_of (sr_isi (by rfl) T.n_isinstance (by rfl) T.n_list bb_list (sb_name 1))) (sb_of (sr_isi (by rfl) T.n_isinstance (by rfl) T.n_list bb_list (sb_name 0))) (nomark _))))) (ss_one (ss_ret sr_bl)) ss_nil)
    (ss_cons (ss_if (st_cmp (dop_ne hu) (sb_of (sr_callB dcall_len (by rfl) T.n_len bb_len (sbs_cons (sb_name 0) sbs_nil))) (sb_of (sr_callB dcall_len (by rfl) T.n_len bb_len (sbs_cons (sb_name 1) sbs_nil))) (nomark _)) (ss_one (ss_ret sr_bl)) ss_nil)
    (ss_one (ss_ret (sr_cmp (dop_notin hu) (sb_of sr_bl) (sb_of (sr_lc [] [("one", 2), ("other", 3)] rfl nd (si_zip (by rfl) T.n_zip (sa_cons (sr_name 0) (sa_cons (sr_name 1) sa_nil))) (blkOk_by (N := N__law_same) (sc := defScope s__law_same) (by decide +kernel)) (fun _ _ _ _ _ => (sg_tup rfl (sgs_cons (sg_name 2 nd) (sgs_cons (sg_name 3 nd) sgs_nil)))) (fun _ _ _ _ _ => sts_nil) (fun _ _ _ _ _ => (sr_call hrec (hr.mono (by omega)) (by rfl) T.g__law_same T.F__law_same.kp T.b__law_same (fun ds st r h => hlen ds st r h) (sa_cons (sr_name 2) (sa_cons (sr_name 3) sa_nil)))))) rfl))))))))
theorem ok__law_one_of {P : Program} {w : World} {K : PySem.W.Frag} {mg : Str → Option Value} {base : Heap} (T : Tx K mg) (B : TB T base) : FnG P w K mg base CX0 3 T.f__law_one_of T.fd__law_one_of ["pen", "some"] (spF K 2 m__law_one_of) := fn_ok T.F__law_one_of sc__law_one_of fun cdv hcd A outer s H E hr => by
    have hu := hr.hu
    have hgd := hr.gd
    have nd := sc__law_one_of.nd
    exact (ss_one (ss_ret (sr_ix (dix hu) (sb_name 1) (sb_of (sr_call (ok__law_take T B) (hr.mono (by omega)) (by rfl) T.g__law_take T.F__law_take.kp T.b__law_take (fun ds st r h => fnM_len h) (sa_cons (sr_name 0) (sa_cons (sr_callB dcall_len (by rfl) T.n_len bb_len (sbs_cons (sb_name 1) sbs_nil)) sa_nil)))) fun _ _ => rfl)))
theorem ok__law_draw_bounds {P : Program} {w : World} {K : PySem.W.Frag} {mg : Str → Option Value} {base : Heap} (T : Tx K mg) (B : TB T base) : FnG P w K mg base CX0 4 T.f__law_draw_bounds T.fd__law_draw_bounds ["pen"] (spF K 1 m__law_draw_bounds) := fn_ok T.F__law_draw_bounds sc__law_draw_bounds fun cdv hcd A outer s H E hr => by
    have hu := hr.hu
    have hgd := hr.gd
    have nd := sc__law_draw_bounds.nd
    exact (ss_cons (ss_set (i := 1) nd (sr_call (ok__law_one_of T B) (hr.mono (by omega)) (by rfl) T.g__law_one_of T.F__law_one_of.kp T.b__law_one_of (fun ds st r h => fnM_len h) (sa_cons (sr_name 0) (sa_cons (sr_lst (sa_cons sr_int (sa_cons sr_int (sa_cons sr_int (sa_cons sr_int (sa_cons sr_int (sa_cons (sr_call (ok__law_take T B) (hr.mono (by omega)) (by rfl) T.g__law_take T.F__law_take.kp T.b__law_take (fun ds st r h => fnM_len h) (sa_cons (sr_name 0) (sa_cons sr_int sa_nil))) (sa_cons (sr_call (ok__law_take T B) (hr.mono (by omega)) (by rfl) T.g__law_take T.F__law_take.kp T.b__law_take (fun ds st r h => fnM_len h) (sa_cons (sr_name 0) (sa_cons sr_int sa_nil))) sa_nil)))))))) sa_nil))))
    (ss_one (ss_ret (sr_tup (sa_cons (sr_name 1) (sa_cons (sr_callB (dcall_minA rfl hu) (by rfl) T.n_min bb_min (sbs_cons (sb_of sr_int) (sbs_cons (sb_of (sr_bin dop_add (sb_name 1) (sb_of (sr_call (ok__law_one_of T B) (hr.mono (by omega)) (by rfl) T.g__law_one_of T.F__law_one_of.kp T.b__law_one_of (fun ds st r h => fnM_len h) (sa_cons (sr_name 0) (sa_cons (sr_lst (sa_cons sr_int (sa_cons sr_int (sa_cons sr_int (sa_cons sr_int (sa_cons sr_int (sa_cons (sr_call (ok__law_take T B) (hr.mono (by omega)) (by rfl) T.g__law_take T.F__law_take.kp T.b__law_take (fun ds st r h => fnM_len h) (sa_cons (sr_name 0) (sa_cons sr_int sa_nil))) (sa_cons (sr_call (ok__law_take T B) (hr.mono (by omega)) (by rfl) T.g__law_take T.F__law_take.kp T.b__law_take (fun ds st r h => fnM_len h) (sa_cons (sr_name 0) (sa_cons sr_int sa_nil))) sa_nil)))))))) sa_nil)))))) sbs_nil))) sa_nil))))))
theorem ok__law_draw_web {P : Program} {w : World} {K : PySem.W.Frag} {mg : Str → Option Value} {base : Heap} (T : Tx K mg) (B : TB T base) : FnG P w K mg base CX0 5 T.f__law_draw_web T.fd__law_draw_web ["pen", "houses", "most"] (spF K 3 m__law_draw_web) := fn_ok T.F__law_draw_web sc__law_draw_web fun cdv hcd A outer s H E hr => by
    have hu := hr.hu
    have hgd := hr.gd
    have nd := sc__law_draw_web.nd
    exact (ss_cons (ss_par (i := 3) (j := 4) rfl nd (sr_bin dop_add (sb_of sr_int) (sb_of (sr_call (ok__law_take T B) (hr.mono (by omega)) (by rfl) T.g__law_take T.F__law_take.kp T.b__law_take (fun ds st r h => fnM_len h) (sa_cons (sr_name 0) (sa_cons (sr_name 1) sa_nil))))) (sr_lst sa_nil))
    (ss_cons (ss_for (vs := [5]) PassesOwn.never rfl (si_range2 (by rfl) T.n_range (sa_cons sr_int (sa_cons (sr_name 3) sa_nil))) (sg_name 5 nd) (ss_one (ss_expr (sr_mut (i := 4) PySem.F.plainAttrs_list PySem.F.slot_list_insert PySem.F.type_list_insert dm_insert (sa_cons (sr_call (ok__law_take T B) (hr.mono (by omega)) (by rfl) T.g__law_take T.F__law_take.kp T.b__law_take (fun ds st r h => fnM_len h) (sa_cons (sr_name 0) (sa_cons (sr_bin dop_add (sb_of (sr_callB dcall_len (by rfl) T.n_len bb_len (sbs_cons (sb_name 4) sbs_nil))) (sb_of sr_int)) sa_nil))) (sa_cons (sr_bin dop_add (sb_of (sr_tup (sa_cons (sr_call (ok__law_take T B) (hr.mono (by omega)) (by rfl) T.g__law_take T.F__law_take.kp T.b__law_take (fun ds st r h => fnM_len h) (sa_cons (sr_name 0) (sa_cons (sr_name 5) sa_nil))) (sa_cons (sr_name 5) sa_nil)))) (sb_of (sr_call (ok__law_draw_bounds T B) (hr.mono (by omega)) (by rfl) T.g__law_draw_bounds T.F__law_draw_bounds.kp T.b__law_draw_bounds (fun ds st r h => fnM_len h) (sa_cons (sr_name 0) sa_nil)))) sa_nil))))))
    (ss_cons (ss_for (vs := [6]) PassesOwn.never rfl (si_range1 (by rfl) T.n_range (sa_cons (sr_call (ok__law_take T B) (hr.mono (by omega)) (by rfl) T.g__law_take T.F__law_take.kp T.b__law_take (fun ds st r h => fnM_len h) (sa_cons (sr_name 0) (sa_cons (sr_bin dop_add (sb_name 2) (sb_of sr_int)) sa_nil))) sa_nil)) (sg_name 6 nd) (ss_one (ss_if (sw_st (sw_and (st_cmp dop_gt (sb_name 3) (sb_of sr_int) (nomark _)) (sw_and1 (st_cmp (dop_lt hu) (sb_of (sr_callB dcall_len (by rfl) T.n_len bb_len (sbs_cons (sb_name 4) sbs_nil))) (sb_name 2) (nomark _))))) (ss_cons (ss_set (i := 7) nd (sr_bin dop_add (sb_of sr_int) (sb_of (sr_call (ok__law_take T B) (hr.mono (by omega)) (by rfl) T.g__law_take T.F__law_take.kp T.b__law_take (fun ds st r h => fnM_len h) (sa_cons (sr_name 0) (sa_cons (sr_bin dop_sub (sb_name 3) (sb_of sr_int)) sa_nil))))))
    (ss_one (ss_expr (sr_mut (i := 4) PySem.F.plainAttrs_list PySem.F.slot_list_insert PySem.F.type_list_insert dm_insert (sa_cons (sr_call (ok__law_take T B) (hr.mono (by omega)) (by rfl) T.g__law_take T.F__law_take.kp T.b__law_take (fun ds st r h => fnM_len h) (sa_cons (sr_name 0) (sa_cons (sr_bin dop_add (sb_of (sr_callB dcall_len (by rfl) T.n_len bb_len (sbs_cons (sb_name 4) sbs_nil))) (sb_of sr_int)) sa_nil))) (sa_cons (sr_bin dop_add (sb_of (sr_tup (sa_cons (sr_call (ok__law_take T B) (hr.mono (by omega)) (by rfl) T.g__law_take T.F__law_take.kp T.b__law_take (fun ds st r h => fnM_len h) (sa_cons (sr_name 0) (sa_cons (sr_name 7) sa_nil))) (sa_cons (sr_name 7) sa_nil)))) (sb_of (sr_call (ok__law_draw_bounds T B) (hr.mono (by omega)) (by rfl) T.g__law_draw_bounds T.F__law_draw_bounds.kp T.b__law_draw_bounds (fun ds st r h => fnM_len h) (sa_cons (sr_name 0) sa_nil)))) sa_nil)))))) ss_nil)))
    (ss_cons (ss_par (i := 8) (j := 9) rfl nd (sr_lst sa_nil) (sr_lst sa_nil))
    (ss_cons (ss_for (vs := [5]) PassesOwn.never rfl (si_range1 (by rfl) T.n_range (sa_cons (sr_name 3) sa_nil)) (sg_name 5 nd) (ss_one (ss_expr (sr_mut (i := 8) PySem.F.plainAttrs_list PySem.F.slot_list_insert PySem.F.type_list_insert dm_insert (sa_cons (sr_call (ok__law_take T B) (hr.mono (by omega)) (by rfl) T.g__law_take T.F__law_take.kp T.b__law_take (fun ds st r h => fnM_len h) (sa_cons (sr_name 0) (sa_cons (sr_bin dop_add (sb_name 5) (sb_of sr_int)) sa_nil))) (sa_cons (sr_name 5) sa_nil))))))
    (ss_cons (ss_for (vs := [10, 7, 11, 12]) PassesOwn.never rfl (si_seq (sr_name 4)) (sg_tup rfl (sgs_cons (sg_name 10 nd) (sgs_cons (sg_name 7 nd) (sgs_cons (sg_name 11 nd) (sgs_cons (sg_name 12 nd) sgs_nil))))) (ss_one (ss_expr (sr_mut (i := 9) PySem.F.plainAttrs_list PySem.F.slot_list_append PySem.F.type_list_append dm_append (sa_cons (sr_tup (sa_cons (sr_callB (dcall_minA rfl hu) (by rfl) T.n_min bb_min (sbs_cons (sb_of (sr_ix (dix hu) (sb_name 8) (sb_name 10) fun _ _ => rfl)) (sbs_cons (sb_of (sr_ix (dix hu) (sb_name 8) (sb_name 7) fun _ _ => rfl)) sbs_nil))) (sa_cons (sr_callB (dcall_maxA rfl hu) (by rfl) T.n_max bb_max (sbs_cons (sb_of (sr_ix (dix hu) (sb_name 8) (sb_name 10) fun _ _ => rfl)) (sbs_cons (sb_of (sr_ix (dix hu) (sb_name 8) (sb_name 7) fun _ _ => rfl)) sbs_nil))) (sa_cons (sr_name 11) (sa_cons (sr_name 12) sa_nil))))) sa_nil)))))
    (ss_one (ss_ret (sr_tup (sa_cons (sr_name 3) (sa_cons (sr_callTy dcall_tuple (by rfl) T.n_tuple bb_tuple (sbs_cons (sb_name 9) sbs_nil)) sa_nil)))))))))))
theorem ok__law_draw_lengths {P : Program} {w : World} {K : PySem.W.Frag} {mg : Str → Option Value} {base : Heap} (T : Tx K mg) (B : TB T base) : FnG P w K mg base CX0 3 T.f__law_draw_lengths T.fd__law_draw_lengths ["pen", "web"] (spF K 2 m__law_draw_lengths) := fn_ok T.F__law_draw_lengths sc__law_draw_lengths fun cdv hcd A outer s H E hr => by
    have hu := hr.hu
    have hgd := hr.gd
    have nd := sc__law_draw_lengths.nd
    exact (ss_one (ss_ret (sr_callTy dcall_tuple (by rfl) T.n_tuple bb_tuple (sbs_cons (sb_of (sr_lc [0] [("a", 2), ("b", 3), ("low", 4), ("high", 5)] rfl nd (si_seq (sr_ix (dix hu) (sb_name 1) (sb_of sr_int) fun _ _ => rfl)) (blkOk_by (N := N__law_draw_lengths) (sc := defScope s__law_draw_lengths) (by decide +kernel)) (fun _ _ _ _ _ => (sg_tup rfl (sgs_cons (sg_name 2 nd) (sgs_cons (sg_name 3 nd) (sgs_cons (sg_name 4 nd) (sgs_cons (sg_name 5 nd) sgs_nil)))))) (fun _ _ _ _ _ => sts_nil) (fun _ _ _ _ _ => (sr_bin dop_add (sb_name 4) (sb_of (sr_call (ok__law_take T B) (hr.mono (by omega)) (by rfl) T.g__law_take T.F__law_take.kp T.b__law_take (fun ds st r h => fnM_len h) (sa_cons (sr_name 0) (sa_cons (sr_bin dop_add (sb_of (sr_bin dop_sub (sb_name 5) (sb_name 4))) (sb_of sr_int)) sa_nil)))))))) sbs_nil))))
theorem ok__law_raised {P : Program} {w : World} {K : PySem.W.Frag} {mg : Str → Option Value} {base : Heap} (T : Tx K mg) (B : TB T base) : FnG P w K mg base CX0 1 T.f__law_raised T.fd__law_raised ["web", "some"] (spF K 2 m__law_raised) := fn_ok T.F__law_raised sc__law_raised fun cdv hcd A outer s H E hr => by
    have hu := hr.hu
    have hgd := hr.gd
    have nd := sc__law_raised.nd
    exact (ss_one (ss_ret (sr_callTy dcall_tuple (by rfl) T.n_tuple bb_tuple (sbs_cons (sb_of (sr_lc [1] [("road", 2), ("one", 3)] rfl nd (si_enumS (by rfl) T.n_enumerate (sa_cons (sr_ix (dix hu) (sb_name 0) (sb_of sr_int) fun _ _ => rfl) sa_nil)) (blkOk_by (N := N__law_raised) (sc := defScope s__law_raised) (by decide +kernel)) (fun _ _ _ _ _ => (sg_tup rfl (sgs_cons (sg_name 2 nd) (sgs_cons (sg_name 3 nd) sgs_nil)))) (fun _ _ _ _ _ => sts_nil) (fun _ _ _ _ _ => (sr_ite (st_cmp (dop_in hu) (sb_name 2) (sb_name 1) rfl) (sr_ix (dix hu) (sb_name 3) (sb_of sr_int) fun _ _ => rfl) (sr_ix (dix hu) (sb_name 3) (sb_of sr_int) fun _ _ => rfl))))) sbs_nil))))
theorem ok__law_reach {P : Program} {w : World} {K : PySem.W.Frag} {mg : Str → Option Value} {base : Heap} (T : Tx K mg) (B : TB T base) : FnG P w K mg base CX0 1 T.f__law_reach T.fd__law_reach ["web", "roads", "house"] (spF K 3 m__law_reach) := fn_ok T.F__law_reach sc__law_reach fun cdv hcd A outer s H E hr => by
    have hu := hr.hu
    have hgd := hr.gd
    have nd := sc__law_reach.nd
    exact (ss_cons (ss_par (i := 3) (j := 4) rfl nd (sr_lst (sa_cons (sr_name 2) sa_nil)) (sr_lst (sa_cons (sr_name 2) sa_nil)))
    (ss_cons (ss_while PassesOwn.never (st_cmp (dop_ne hu) (sb_name 4) (sb_of (sr_lst sa_nil)) (nomark _)) (ss_cons (ss_set (i := 5) nd (sr_mut0 (i := 4) PySem.F.plainAttrs_list PySem.F.slot_list_pop PySem.F.type_list_pop dm_pop))
    (ss_one (ss_for (vs := [6]) PassesOwn.never rfl (si_seq (sr_name 1)) (sg_name 6 nd) (ss_cons (ss_asg (vs := [7, 8]) (sr_slice (sb_of (sr_ix (dix hu) (sb_of (sr_ix (dix hu) (sb_name 0) (sb_of sr_int) fun _ _ => rfl)) (sb_name 6) fun _ _ => rfl)) sp_none (sp_some (sb_of sr_int))) (sg_tup rfl (sgs_cons (sg_name 7 nd) (sgs_cons (sg_name 8 nd) sgs_nil))))
    (ss_one (ss_for (vs := [9]) PassesOwn.never rfl (si_seq (sr_lst (sa_cons (sr_name 7) (sa_cons (sr_name 8) sa_nil)))) (sg_name 9 nd) (ss_one (ss_if (sw_st (sw_and (st_cmp (dop_in hu) (sb_name 5) (sb_of (sr_tup (sa_cons (sr_name 7) (sa_cons (sr_name 8) sa_nil)))) rfl) (sw_and1 (st_cmp (dop_notin hu) (sb_name 9) (sb_name 3) rfl)))) (ss_cons (ss_expr (sr_mut (i := 3) PySem.F.plainAttrs_list PySem.F.slot_list_append PySem.F.type_list_append dm_append (sa_cons (sr_name 9) sa_nil)))
    (ss_one (ss_expr (sr_mut (i := 4) PySem.F.plainAttrs_list PySem.F.slot_list_append PySem.F.type_list_append dm_append (sa_cons (sr_name 9) sa_nil))))) ss_nil)))))))))
    (ss_one (ss_ret (sr_callB (dcall_sortedA hu) (by rfl) T.n_sorted bb_sorted (sbs_cons (sb_name 3) sbs_nil))))))
theorem ok__law_is_apart {P : Program} {w : World} {K : PySem.W.Frag} {mg : Str → Option Value} {base : Heap} (T : Tx K mg) (B : TB T base) : FnG P w K mg base CX0 2 T.f__law_is_apart T.fd__law_is_apart ["web", "roads", "road"] (spF K 3 m__law_is_apart) := fn_ok T.F__law_is_apart sc__law_is_apart fun cdv hcd A outer s H E hr => by
    have hu := hr.hu
    have hgd := hr.gd
    have nd := sc__law_is_apart.nd
    exact (ss_cons (ss_asg (vs := [3, 4]) (sr_slice (sb_of (sr_ix (dix hu) (sb_of (sr_ix (dix hu) (sb_name 0) (sb_of sr_int) fun _ _ => rfl)) (sb_name 2) fun _ _ => rfl)) sp_none (sp_some (sb_of sr_int))) (sg_tup rfl (sgs_cons (sg_name 3 nd) (sgs_cons (sg_name 4 nd) sgs_nil))))
    (ss_one (ss_ret (sr_cmp (dop_notin hu) (sb_name 4) (sb_of (sr_call (ok__law_reach T B) (hr.mono (by omega)) (by rfl) T.g__law_reach T.F__law_reach.kp T.b__law_reach (fun ds st r h => fnM_len h) (sa_cons (sr_name 0) (sa_cons (sr_lc [2] [("one", 5)] rfl nd (si_seq (sr_name 1)) (blkOk_by (N := N__law_is_apart) (sc := defScope s__law_is_apart) (by decide +kernel)) (fun _ _ _ _ _ => (sg_name 5 nd)) (fun _ _ _ _ _ => (sts_one (st_cmp (dop_ne hu) (sb_name 5) (sb_name 2) (nomark _)))) (fun _ _ _ _ _ => (sr_name 5))) (sa_cons (sr_name 3) sa_nil))))) rfl))))
theorem ok__law_is_used {P : Program} {w : World} {K : PySem.W.Frag} {mg : Str → Option Value} {base : Heap} (T : Tx K mg) (B : TB T base) : FnG P w K mg base CX0 3 T.f__law_is_used T.fd__law_is_used ["web", "lengths", "road"] (spF K 3 m__law_is_used) := fn_ok T.F__law_is_used sc__law_is_used fun cdv hcd A outer s H E hr => by
    have hu := hr.hu
    have hgd := hr.gd
    have nd := sc__law_is_used.nd
    exact (ss_one (ss_ret (sr_call (ok__law_is_apart T B) (hr.mono (by omega)) (by rfl) T.g__law_is_apart T.F__law_is_apart.kp T.b__law_is_apart (fun ds st r h => fnM_len h) (sa_cons (sr_name 0) (sa_cons (sr_lc [1, 2] [("one", 3), ("number", 4)] rfl nd (si_enumS (by rfl) T.n_enumerate (sa_cons (sr_name 1) sa_nil)) (blkOk_by (N := N__law_is_used) (sc := defScope s__law_is_used) (by decide +kernel)) (fun _ _ _ _ _ => (sg_tup rfl (sgs_cons (sg_name 3 nd) (sgs_cons (sg_name 4 nd) sgs_nil)))) (fun _ _ _ _ _ => (sts_one (st_cmp (dop_lt hu) (sb_name 4) (sb_of (sr_ix (dix hu) (sb_name 1) (sb_name 2) fun _ _ => rfl)) (nomark _)))) (fun _ _ _ _ _ => (sr_name 3))) (sa_cons (sr_name 2) sa_nil))))))
theorem ok__law_is_needed {P : Program} {w : World} {K : PySem.W.Frag} {mg : Str → Option Value} {base : Heap} (T : Tx K mg) (B : TB T base) : FnG P w K mg base CX0 3 T.f__law_is_needed T.fd__law_is_needed ["web", "lengths", "road"] (spF K 3 m__law_is_needed) := fn_ok T.F__law_is_needed sc__law_is_needed fun cdv hcd A outer s H E hr => by
    have hu := hr.hu
    have hgd := hr.gd
    have nd := sc__law_is_needed.nd
    exact (ss_one (ss_ret (sr_call (ok__law_is_apart T B) (hr.mono (by omega)) (by rfl) T.g__law_is_apart T.F__law_is_apart.kp T.b__law_is_apart (fun ds st r h => fnM_len h) (sa_cons (sr_name 0) (sa_cons (sr_lc [1, 2] [("one", 3), ("number", 4)] rfl nd (si_enumS (by rfl) T.n_enumerate (sa_cons (sr_name 1) sa_nil)) (blkOk_by (N := N__law_is_needed) (sc := defScope s__law_is_needed) (by decide +kernel)) (fun _ _ _ _ _ => (sg_tup rfl (sgs_cons (sg_name 3 nd) (sgs_cons (sg_name 4 nd) sgs_nil)))) (fun _ _ _ _ _ => (sts_one (st_cmp dop_le (sb_name 4) (sb_of (sr_ix (dix hu) (sb_name 1) (sb_name 2) fun _ _ => rfl)) (nomark _)))) (fun _ _ _ _ _ => (sr_name 3))) (sa_cons (sr_name 2) sa_nil))))))
theorem ok_law {P : Program} {w : World} {K : PySem.W.Frag} {mg : Str → Option Value} {base : Heap} (T : Tx K mg) (B : TB T base) : FnG P w K mg base CX0 7 T.f_law T.fd_law ["script"] (spF K 1 m_law) := fn_ok T.F_law sc_law fun cdv hcd A outer s H E hr => by
    have hu := hr.hu
    have hgd := hr.gd
    have nd := sc_law.nd
    exact (ss_cons (ss_setC (i := 1) nd (sr_call (ok__law_open T B) (hr.mono (by omega)) (by rfl) T.g__law_open T.F__law_open.kp T.b__law_open (fun ds st r h => fnM_len h) (sa_cons (sr_name 0) sa_nil)))
    (ss_cons (ss_for (vs := [2]) PassesOwn.never rfl (si_range1 (by rfl) T.n_range (sa_cons sr_int sa_nil)) (sg_name 2 nd) (ss_cons (ss_set (i := 3) nd (sr_call (ok__law_draw_web T B) (hr.mono (by omega)) (by rfl) T.g__law_draw_web T.F__law_draw_web.kp T.b__law_draw_web (fun ds st r h => fnM_len h) (sa_cons (sr_name 1) (sa_cons sr_int (sa_cons (sr_ix (dix hu) (sb_of (sr_lst (sa_cons sr_int (sa_cons sr_int (sa_cons sr_int sa_nil))))) (sb_name 2) fun _ _ => rfl) sa_nil)))))
    (ss_cons (ss_par (i := 4) (j := 5) rfl nd (sr_callB (dcall_repr hu hgd) (by rfl) T.n_repr bb_repr (sbs_cons (sb_name 3) sbs_nil)) (sr_rgL rfl (by rfl) T.n_list (by rfl) T.n_range (sr_callB dcall_len (by rfl) T.n_len bb_len (sbs_cons (sb_of (sr_ix (dix hu) (sb_name 3) (sb_of sr_int) fun _ _ => rfl)) sbs_nil))))
    (ss_cons (ss_set (i := 6) nd (sr_call (ok__law_draw_lengths T B) (hr.mono (by omega)) (by rfl) T.g__law_draw_lengths T.F__law_draw_lengths.kp T.b__law_draw_lengths (fun ds st r h => fnM_len h) (sa_cons (sr_name 1) (sa_cons (sr_name 3) sa_nil))))
    (ss_one (ss_for (vs := [7]) PassesOwn.never rfl (si_seq (sr_lst (sa_cons (sr_name 6) (sa_cons (sr_call (ok__law_raised T B) (hr.mono (by omega)) (by rfl) T.g__law_raised T.F__law_raised.kp T.b__law_raised (fun ds st r h => fnM_len h) (sa_cons (sr_name 3) (sa_cons (sr_lst sa_nil) sa_nil))) (sa_cons (sr_call (ok__law_raised T B) (hr.mono (by omega)) (by rfl) T.g__law_raised T.F__law_raised.kp T.b__law_raised (fun ds st r h => fnM_len h) (sa_cons (sr_name 3) (sa_cons (sr_name 5) sa_nil))) (sa_cons (sr_name 6) sa_nil)))))) (sg_name 7 nd) (ss_cons (ss_setLc (i := 8) [3, 7] [("road", 11)] rfl nd (sw_true rfl rfl rfl (by decide +kernel)) (si_seq (sr_name 5)) (blkOk_by (N := N_law) (sc := defScope s_law) (by decide +kernel)) (fun _ _ _ _ _ => (sg_name 11 nd)) (fun _ _ _ _ _ => (sts_one (st_tru (sb_of (sr_call (ok__law_is_used T B) (hr.mono (by omega)) (by rfl) T.g__law_is_used T.F__law_is_used.kp T.b__law_is_used (fun ds st r h => fnM_len h) (sa_cons (sr_name 3) (sa_cons (sr_name 7) (sa_cons (sr_name 11) sa_nil)))))))) (fun _ _ _ _ _ => (sr_name 11)))
    (ss_cons (ss_setLc (i := 9) [3, 7] [("road", 11)] rfl nd (sw_true rfl rfl rfl (by decide +kernel)) (si_seq (sr_name 5)) (blkOk_by (N := N_law) (sc := defScope s_law) (by decide +kernel)) (fun _ _ _ _ _ => (sg_name 11 nd)) (fun _ _ _ _ _ => (sts_one (st_tru (sb_of (sr_call (ok__law_is_needed T B) (hr.mono (by omega)) (by rfl) T.g__law_is_needed T.F__law_is_needed.kp T.b__law_is_needed (fun ds st r h => fnM_len h) (sa_cons (sr_name 3) (sa_cons (sr_name 7) (sa_cons (sr_name 11) sa_nil)))))))) (fun _ _ _ _ _ => (sr_name 11)))
    (sss_told (i := 10) (ps_set nd rfl (by first | exact Or.inl rfl | exact Or.inr rfl) (pe_lst (pa_cons (sr_call (ok_used T B) (hr.mono (by omega)) (by rfl) T.g_used T.F_used.kp T.b_used (fun ds st r h => fnM_len h) (sa_cons (sr_name 3) (sa_cons (sr_name 7) sa_nil))) (pa_cons (sr_call (ok_needed T B) (hr.mono (by omega)) (by rfl) T.g_needed T.F_needed.kp T.b_needed (fun ds st r h => fnM_len h) (sa_cons (sr_name 3) (sa_cons (sr_name 7) sa_nil))) pa_nil)))) (sw_st (sw_or (st_not (st_tru (sb_of (sr_quiet (sr_call (ok__law_same T B 5) (hr.mono (by omega)) (by rfl) T.g__law_same T.F__law_same.kp T.b__law_same (fun ds st r h => len__law_same 5 ds st r h) (sa_cons (sr_name 10) (sa_cons (sr_lst (sa_cons (sr_name 8) (sa_cons (sr_name 9) sa_nil))) sa_nil))))))) (sw_or1 (st_cmp (dop_ne hu) (sb_of (sr_callB (dcall_repr hu hgd) (by rfl) T.n_repr bb_repr (sbs_cons (sb_name 3) sbs_nil))) (sb_name 4) (nomark _))))) (ss_one (ss_ret sr_bl)) (ps_expr (pe_bm PySem.F.plainAttrs_list PySem.F.slot_list_append PySem.F.type_list_append dm_append (pe_ix ix_list (pe_var rfl (by first | exact Or.inl rfl | exact Or.inr (Or.inl rfl) | exact Or.inr (Or.inr rfl))) pe_int fun _ _ => rfl) (pa_cons pe_non pa_nil))) (ps_expr (pe_bm PySem.F.plainAttrs_list PySem.F.slot_list_append PySem.F.type_list_append dm_append (pe_ix ix_list (pe_var rfl (by first | exact Or.inl rfl | exact Or.inr (Or.inl rfl) | exact Or.inr (Or.inr rfl))) pe_int fun _ _ => rfl) (pa_cons pe_non pa_nil))) (fun _ _ _ h => h) (fun _ _ _ h => h)
    (ss_one (ss_if (sw_st (sw_and (st_cmp (dop_eq hu) (sb_name 2) (sb_of sr_int) (nomark _)) (sw_and1 (st_cmp (dop_ne hu) (sb_of (sr_lst (sa_cons (sr_call (ok_used T B) (hr.mono (by omega)) (by rfl) T.g_used T.F_used.kp T.b_used (fun ds st r h => fnM_len h) (sa_cons (sr_name 3) (sa_cons (sr_name 7) sa_nil))) (sa_cons (sr_call (ok_needed T B) (hr.mono (by omega)) (by rfl) T.g_needed T.F_needed.kp T.b_needed (fun ds st r h => fnM_len h) (sa_cons (sr_name 3) (sa_cons (sr_name 7) sa_nil))) sa_nil)))) (sb_of (sr_lst (sa_cons (sr_name 8) (sa_cons (sr_name 9) sa_nil)))) (nomark _))))) (ss_one (ss_ret sr_bl)) ss_nil)))))))))))
    (ss_one (ss_ret sr_bl))))
end G
namespace G
open PySem PySem.Spec L2 Pv
set_option maxHeartbeats 0 in
theorem all_mk {l : PySem.W.OpenLaw} {w : World} {K : PySem.W.Frag} {h : Heap} {mg : Str → Option Value} {fa : Addr} (X : K.In h) (G : h.Ns mainGlobals mg) (hfa : mg "law" = some (.ref fa))
    {f0 : Addr} {od0 an0 : Option Addr} {sl0 : Array (Option Value)} {oc0 kV0 dc0 pm0 cd0 ct0 : Value}
    {f1 : Addr} {od1 an1 : Option Addr} {sl1 : Array (Option Value)} {oc1 kV1 dc1 pm1 cd1 ct1 : Value}
    {f2 : Addr} {od2 an2 : Option Addr} {sl2 : Array (Option Value)} {oc2 kV2 dc2 pm2 cd2 ct2 : Value}
    {f3 : Addr} {od3 an3 : Option Addr} {sl3 : Array (Option Value)} {oc3 kV3 dc3 pm3 cd3 ct3 : Value}
    {f4 : Addr} {od4 an4 : Option Addr} {sl4 : Array (Option Value)} {oc4 kV4 dc4 pm4 cd4 ct4 : Value}
    {f5 : Addr} {od5 an5 : Option Addr} {sl5 : Array (Option Value)} {oc5 kV5 dc5 pm5 cd5 ct5 : Value}
    {f6 : Addr} {od6 an6 : Option Addr} {sl6 : Array (Option Value)} {oc6 kV6 dc6 pm6 cd6 ct6 : Value}
    {f7 : Addr} {od7 an7 : Option Addr} {sl7 : Array (Option Value)} {oc7 kV7 dc7 pm7 ct7 : Value}
    {lc7 lP7 : Addr} {le7 : Value} {ld7 : Option Addr} {lv7 : Array Value} {ls7 : Array (Option Value)}
    {f8 : Addr} {od8 an8 : Option Addr} {sl8 : Array (Option Value)} {oc8 kV8 dc8 pm8 cd8 ct8 : Value}
    {f9 : Addr} {od9 an9 : Option Addr} {sl9 : Array (Option Value)} {oc9 kV9 dc9 pm9 cd9 ct9 : Value}
    {f10 : Addr} {od10 an10 : Option Addr} {sl10 : Array (Option Value)} {oc10 kV10 dc10 pm10 cd10 ct10 : Value}
    {f11 : Addr} {od11 an11 : Option Addr} {sl11 : Array (Option Value)} {oc11 kV11 dc11 pm11 cd11 ct11 : Value}
    {f12 : Addr} {od12 an12 : Option Addr} {sl12 : Array (Option Value)} {oc12 kV12 dc12 pm12 cd12 ct12 : Value}
    {f13 : Addr} {od13 an13 : Option Addr} {sl13 : Array (Option Value)} {oc13 kV13 dc13 pm13 cd13 ct13 : Value}
    {f14 : Addr} {od14 an14 : Option Addr} {sl14 : Array (Option Value)} {oc14 kV14 dc14 pm14 cd14 ct14 : Value}
    {f15 : Addr} {od15 an15 : Option Addr} {sl15 : Array (Option Value)} {oc15 kV15 dc15 pm15 cd15 ct15 : Value}
    {f16 : Addr} {od16 an16 : Option Addr} {sl16 : Array (Option Value)} {oc16 kV16 dc16 pm16 cd16 ct16 : Value}
    {f17 : Addr} {od17 an17 : Option Addr} {sl17 : Array (Option Value)} {oc17 kV17 dc17 pm17 cd17 ct17 : Value}
    {f18 : Addr} {od18 an18 : Option Addr} {sl18 : Array (Option Value)} {oc18 kV18 dc18 pm18 cd18 ct18 : Value}
    {f19 : Addr} {od19 an19 : Option Addr} {sl19 : Array (Option Value)} {oc19 kV19 dc19 pm19 cd19 ct19 : Value}
    {f20 : Addr} {od20 an20 : Option Addr} {sl20 : Array (Option Value)} {oc20 kV20 dc20 pm20 cd20 ct20 : Value}
    {f21 : Addr} {od21 an21 : Option Addr} {sl21 : Array (Option Value)} {oc21 kV21 dc21 pm21 cd21 ct21 : Value}
    {f22 : Addr} {od22 an22 : Option Addr} {sl22 : Array (Option Value)} {oc22 kV22 dc22 pm22 cd22 ct22 : Value}
    {f23 : Addr} {od23 an23 : Option Addr} {sl23 : Array (Option Value)} {oc23 kV23 dc23 pm23 cd23 ct23 : Value}
    {f24 : Addr} {od24 an24 : Option Addr} {sl24 : Array (Option Value)} {oc24 kV24 dc24 pm24 cd24 ct24 : Value}
    {f25 : Addr} {od25 an25 : Option Addr} {sl25 : Array (Option Value)} {oc25 kV25 dc25 pm25 cd25 ct25 : Value}
    (a0 : PySem.W.nsIn K mainGlobals "reached" = some (some (.ref f0))) (l0 : K.lookup f0 = some ⟨oc0, od0, .func (PySem.W.fnOf "reached" "reached" (defArgs s_reached) (defBody s_reached) (defScope s_reached) .none kV0 dc0 pm0 an0 cd0 ct0), sl0⟩) (c0 : PySem.W.codeIn K cd0 "reached" = true) (k0 : PySem.W.keepIn K (.ref f0) = true)
    (a1 : PySem.W.nsIn K mainGlobals "ends_of" = some (some (.ref f1))) (l1 : K.lookup f1 = some ⟨oc1, od1, .func (PySem.W.fnOf "ends_of" "ends_of" (defArgs s_ends_of) (defBody s_ends_of) (defScope s_ends_of) .none kV1 dc1 pm1 an1 cd1 ct1), sl1⟩) (c1 : PySem.W.codeIn K cd1 "ends_of" = true) (k1 : PySem.W.keepIn K (.ref f1) = true)
    (a2 : PySem.W.nsIn K mainGlobals "choices" = some (some (.ref f2))) (l2 : K.lookup f2 = some ⟨oc2, od2, .func (PySem.W.fnOf "choices" "choices" (defArgs s_choices) (defBody s_choices) (defScope s_choices) .none kV2 dc2 pm2 an2 cd2 ct2), sl2⟩) (c2 : PySem.W.codeIn K cd2 "choices" = true) (k2 : PySem.W.keepIn K (.ref f2) = true)
    (a3 : PySem.W.nsIn K mainGlobals "do_join" = some (some (.ref f3))) (l3 : K.lookup f3 = some ⟨oc3, od3, .func (PySem.W.fnOf "do_join" "do_join" (defArgs s_do_join) (defBody s_do_join) (defScope s_do_join) .none kV3 dc3 pm3 an3 cd3 ct3), sl3⟩) (c3 : PySem.W.codeIn K cd3 "do_join" = true) (k3 : PySem.W.keepIn K (.ref f3) = true)
    (a4 : PySem.W.nsIn K mainGlobals "trees" = some (some (.ref f4))) (l4 : K.lookup f4 = some ⟨oc4, od4, .func (PySem.W.fnOf "trees" "trees" (defArgs s_trees) (defBody s_trees) (defScope s_trees) .none kV4 dc4 pm4 an4 cd4 ct4), sl4⟩) (c4 : PySem.W.codeIn K cd4 "trees" = true) (k4 : PySem.W.keepIn K (.ref f4) = true)
    (a5 : PySem.W.nsIn K mainGlobals "total" = some (some (.ref f5))) (l5 : K.lookup f5 = some ⟨oc5, od5, .func (PySem.W.fnOf "total" "total" (defArgs s_total) (defBody s_total) (defScope s_total) .none kV5 dc5 pm5 an5 cd5 ct5), sl5⟩) (c5 : PySem.W.codeIn K cd5 "total" = true) (k5 : PySem.W.keepIn K (.ref f5) = true)
    (a6 : PySem.W.nsIn K mainGlobals "greedy" = some (some (.ref f6))) (l6 : K.lookup f6 = some ⟨oc6, od6, .func (PySem.W.fnOf "greedy" "greedy" (defArgs s_greedy) (defBody s_greedy) (defScope s_greedy) .none kV6 dc6 pm6 an6 cd6 ct6), sl6⟩) (c6 : PySem.W.codeIn K cd6 "greedy" = true) (k6 : PySem.W.keepIn K (.ref f6) = true)
    (a7 : PySem.W.nsIn K mainGlobals "one_least" = some (some (.ref f7))) (l7 : K.lookup f7 = some ⟨oc7, od7, .func (PySem.W.fnOf "one_least" "one_least" (defArgs s_one_least) (defBody s_one_least) (defScope s_one_least) .none kV7 dc7 pm7 an7 (.ref lc7) ct7), sl7⟩) (c7 : PySem.W.codeIn K (.ref lc7) "one_least" = true) (k7 : PySem.W.keepIn K (.ref f7) = true)
    (m7 : K.lookup lc7 = some ⟨le7, ld7, .fields lv7, ls7⟩) (i7 : lv7[11]? = some (.ref lP7)) (n7 : K.lookup lP7 = none)
    (a8 : PySem.W.nsIn K mainGlobals "least_total" = some (some (.ref f8))) (l8 : K.lookup f8 = some ⟨oc8, od8, .func (PySem.W.fnOf "least_total" "least_total" (defArgs s_least_total) (defBody s_least_total) (defScope s_least_total) .none kV8 dc8 pm8 an8 cd8 ct8), sl8⟩) (c8 : PySem.W.codeIn K cd8 "least_total" = true) (k8 : PySem.W.keepIn K (.ref f8) = true)
    (a9 : PySem.W.nsIn K mainGlobals "least_trees" = some (some (.ref f9))) (l9 : K.lookup f9 = some ⟨oc9, od9, .func (PySem.W.fnOf "least_trees" "least_trees" (defArgs s_least_trees) (defBody s_least_trees) (defScope s_least_trees) .none kV9 dc9 pm9 an9 cd9 ct9), sl9⟩) (c9 : PySem.W.codeIn K cd9 "least_trees" = true) (k9 : PySem.W.keepIn K (.ref f9) = true)
    (a10 : PySem.W.nsIn K mainGlobals "used" = some (some (.ref f10))) (l10 : K.lookup f10 = some ⟨oc10, od10, .func (PySem.W.fnOf "used" "used" (defArgs s_used) (defBody s_used) (defScope s_used) .none kV10 dc10 pm10 an10 cd10 ct10), sl10⟩) (c10 : PySem.W.codeIn K cd10 "used" = true) (k10 : PySem.W.keepIn K (.ref f10) = true)
    (a11 : PySem.W.nsIn K mainGlobals "needed" = some (some (.ref f11))) (l11 : K.lookup f11 = some ⟨oc11, od11, .func (PySem.W.fnOf "needed" "needed" (defArgs s_needed) (defBody s_needed) (defScope s_needed) .none kV11 dc11 pm11 an11 cd11 ct11), sl11⟩) (c11 : PySem.W.codeIn K cd11 "needed" = true) (k11 : PySem.W.keepIn K (.ref f11) = true)
    (a12 : PySem.W.nsIn K mainGlobals "_law_open" = some (some (.ref f12))) (l12 : K.lookup f12 = some ⟨oc12, od12, .func (PySem.W.fnOf "_law_open" "_law_open" (defArgs s__law_open) (defBody s__law_open) (defScope s__law_open) .none kV12 dc12 pm12 an12 cd12 ct12), sl12⟩) (c12 : PySem.W.codeIn K cd12 "_law_open" = true) (k12 : PySem.W.keepIn K (.ref f12) = true)
    (a13 : PySem.W.nsIn K mainGlobals "_law_spread" = some (some (.ref f13))) (l13 : K.lookup f13 = some ⟨oc13, od13, .func (PySem.W.fnOf "_law_spread" "_law_spread" (defArgs s__law_spread) (defBody s__law_spread) (defScope s__law_spread) .none kV13 dc13 pm13 an13 cd13 ct13), sl13⟩) (c13 : PySem.W.codeIn K cd13 "_law_spread" = true) (k13 : PySem.W.keepIn K (.ref f13) = true)
    (a14 : PySem.W.nsIn K mainGlobals "_law_take" = some (some (.ref f14))) (l14 : K.lookup f14 = some ⟨oc14, od14, .func (PySem.W.fnOf "_law_take" "_law_take" (defArgs s__law_take) (defBody s__law_take) (defScope s__law_take) .none kV14 dc14 pm14 an14 cd14 ct14), sl14⟩) (c14 : PySem.W.codeIn K cd14 "_law_take" = true) (k14 : PySem.W.keepIn K (.ref f14) = true)
    (a15 : PySem.W.nsIn K mainGlobals "_law_same" = some (some (.ref f15))) (l15 : K.lookup f15 = some ⟨oc15, od15, .func (PySem.W.fnOf "_law_same" "_law_same" (defArgs s__law_same) (defBody s__law_same) (defScope s__law_same) .none kV15 dc15 pm15 an15 cd15 ct15), sl15⟩) (c15 : PySem.W.codeIn K cd15 "_law_same" = true) (k15 : PySem.W.keepIn K (.ref f15) = true)
    (a16 : PySem.W.nsIn K mainGlobals "_law_one_of" = some (some (.ref f16))) (l16 : K.lookup f16 = some ⟨oc16, od16, .func (PySem.W.fnOf "_law_one_of" "_law_one_of" (defArgs s__law_one_of) (defBody s__law_one_of) (defScope s__law_one_of) .none kV16 dc16 pm16 an16 cd16 ct16), sl16⟩) (c16 : PySem.W.codeIn K cd16 "_law_one_of" = true) (k16 : PySem.W.keepIn K (.ref f16) = true)
    (a17 : PySem.W.nsIn K mainGlobals "_law_draw_bounds" = some (some (.ref f17))) (l17 : K.lookup f17 = some ⟨oc17, od17, .func (PySem.W.fnOf "_law_draw_bounds" "_law_draw_bounds" (defArgs s__law_draw_bounds) (defBody s__law_draw_bounds) (defScope s__law_draw_bounds) .none kV17 dc17 pm17 an17 cd17 ct17), sl17⟩) (c17 : PySem.W.codeIn K cd17 "_law_draw_bounds" = true) (k17 : PySem.W.keepIn K (.ref f17) = true)
    (a18 : PySem.W.nsIn K mainGlobals "_law_draw_web" = some (some (.ref f18))) (l18 : K.lookup f18 = some ⟨oc18, od18, .func (PySem.W.fnOf "_law_draw_web" "_law_draw_web" (defArgs s__law_draw_web) (defBody s__law_draw_web) (defScope s__law_draw_web) .none kV18 dc18 pm18 an18 cd18 ct18), sl18⟩) (c18 : PySem.W.codeIn K cd18 "_law_draw_web" = true) (k18 : PySem.W.keepIn K (.ref f18) = true)
    (a19 : PySem.W.nsIn K mainGlobals "_law_draw_lengths" = some (some (.ref f19))) (l19 : K.lookup f19 = some ⟨oc19, od19, .func (PySem.W.fnOf "_law_draw_lengths" "_law_draw_lengths" (defArgs s__law_draw_lengths) (defBody s__law_draw_lengths) (defScope s__law_draw_lengths) .none kV19 dc19 pm19 an19 cd19 ct19), sl19⟩) (c19 : PySem.W.codeIn K cd19 "_law_draw_lengths" = true) (k19 : PySem.W.keepIn K (.ref f19) = true)
    (a20 : PySem.W.nsIn K mainGlobals "_law_raised" = some (some (.ref f20))) (l20 : K.lookup f20 = some ⟨oc20, od20, .func (PySem.W.fnOf "_law_raised" "_law_raised" (defArgs s__law_raised) (defBody s__law_raised) (defScope s__law_raised) .none kV20 dc20 pm20 an20 cd20 ct20), sl20⟩) (c20 : PySem.W.codeIn K cd20 "_law_raised" = true) (k20 : PySem.W.keepIn K (.ref f20) = true)
    (a21 : PySem.W.nsIn K mainGlobals "_law_reach" = some (some (.ref f21))) (l21 : K.lookup f21 = some ⟨oc21, od21, .func (PySem.W.fnOf "_law_reach" "_law_reach" (defArgs s__law_reach) (defBody s__law_reach) (defScope s__law_reach) .none kV21 dc21 pm21 an21 cd21 ct21), sl21⟩) (c21 : PySem.W.codeIn K cd21 "_law_reach" = true) (k21 : PySem.W.keepIn K (.ref f21) = true)
    (a22 : PySem.W.nsIn K mainGlobals "_law_is_apart" = some (some (.ref f22))) (l22 : K.lookup f22 = some ⟨oc22, od22, .func (PySem.W.fnOf "_law_is_apart" "_law_is_apart" (defArgs s__law_is_apart) (defBody s__law_is_apart) (defScope s__law_is_apart) .none kV22 dc22 pm22 an22 cd22 ct22), sl22⟩) (c22 : PySem.W.codeIn K cd22 "_law_is_apart" = true) (k22 : PySem.W.keepIn K (.ref f22) = true)
    (a23 : PySem.W.nsIn K mainGlobals "_law_is_used" = some (some (.ref f23))) (l23 : K.lookup f23 = some ⟨oc23, od23, .func (PySem.W.fnOf "_law_is_used" "_law_is_used" (defArgs s__law_is_used) (defBody s__law_is_used) (defScope s__law_is_used) .none kV23 dc23 pm23 an23 cd23 ct23), sl23⟩) (c23 : PySem.W.codeIn K cd23 "_law_is_used" = true) (k23 : PySem.W.keepIn K (.ref f23) = true)
    (a24 : PySem.W.nsIn K mainGlobals "_law_is_needed" = some (some (.ref f24))) (l24 : K.lookup f24 = some ⟨oc24, od24, .func (PySem.W.fnOf "_law_is_needed" "_law_is_needed" (defArgs s__law_is_needed) (defBody s__law_is_needed) (defScope s__law_is_needed) .none kV24 dc24 pm24 an24 cd24 ct24), sl24⟩) (c24 : PySem.W.codeIn K cd24 "_law_is_needed" = true) (k24 : PySem.W.keepIn K (.ref f24) = true)
    (a25 : PySem.W.nsIn K mainGlobals "law" = some (some (.ref f25))) (l25 : K.lookup f25 = some ⟨oc25, od25, .func (PySem.W.fnOf "law" "law" (defArgs s_law) (defBody s_law) (defScope s_law) .none kV25 dc25 pm25 an25 cd25 ct25), sl25⟩) (c25 : PySem.W.codeIn K cd25 "law" = true) (k25 : PySem.W.keepIn K (.ref f25) = true)
    (z_all : PySem.W.nsIn K mainGlobals "all" = some none)
    (z_any : PySem.W.nsIn K mainGlobals "any" = some none)
    (z_bool : PySem.W.nsIn K mainGlobals "bool" = some none)
    (z_enumerate : PySem.W.nsIn K mainGlobals "enumerate" = some none)
    (z_int : PySem.W.nsIn K mainGlobals "int" = some none)
    (z_isinstance : PySem.W.nsIn K mainGlobals "isinstance" = some none)
    (z_len : PySem.W.nsIn K mainGlobals "len" = some none)
    (z_list : PySem.W.nsIn K mainGlobals "list" = some none)
    (z_max : PySem.W.nsIn K mainGlobals "max" = some none)
    (z_min : PySem.W.nsIn K mainGlobals "min" = some none)
    (z_range : PySem.W.nsIn K mainGlobals "range" = some none)
    (z_repr : PySem.W.nsIn K mainGlobals "repr" = some none)
    (z_sorted : PySem.W.nsIn K mainGlobals "sorted" = some none)
    (z_str : PySem.W.nsIn K mainGlobals "str" = some none)
    (z_sum : PySem.W.nsIn K mainGlobals "sum" = some none)
    (z_tuple : PySem.W.nsIn K mainGlobals "tuple" = some none)
    (z_zip : PySem.W.nsIn K mainGlobals "zip" = some none) :
    ∃ (ts : List LamT) (fd : FuncData), (∀ t ∈ ts, t.x ∈ [("one_least" : Str)] ∧ LamOk K t) ∧ (∀ (s : Shared) (v : Value), BindsTo s fd ⟨[v], []⟩ [("script", v)]) ∧ ∀ base : Heap, (∀ t ∈ ts, LamX.TabB base mg t.c t.P) → FnG l.prog w K mg base CX0 7 fa fd ["script"] (@spF ⟨lamTL ts⟩ K 1 m_law) := by
  have e := hfa.symm.trans (PySem.W.mg_of X G a25)
  cases e
  letI : TabL := ⟨lamTL [⟨"one_least", lc7, lP7, ((("one_least" : Str) ++ ".<locals>.") ++ "<lambda>")⟩]⟩
  refine ⟨[⟨"one_least", lc7, lP7, ((("one_least" : Str) ++ ".<locals>.") ++ "<lambda>")⟩], PySem.W.fnOf "law" "law" (defArgs s_law) (defBody s_law) (defScope s_law) .none kV25 dc25 pm25 an25 cd25 ct25, (fun t ht => (match t, ht with | _, .head _ => ⟨.head _, tabIn_of a7 l7 rfl m7 i7, n7⟩)), fun s v => .of_eq rfl, fun base tb => ?_⟩
  exact ok_law (T :=
    { f_reached := f0, fd_reached := _, F_reached := fun_mk (st := s_reached) l0 c0 k0, b_reached := (fun_mk (st := s_reached) l0 c0 k0).binds fun _ _ _ _ _ _ us hl => match us, hl with | [_, _], _ => rfl, g_reached := PySem.W.mg_of X G a0,
      f_ends_of := f1, fd_ends_of := _, F_ends_of := fun_mk (st := s_ends_of) l1 c1 k1, b_ends_of := (fun_mk (st := s_ends_of) l1 c1 k1).binds fun _ _ _ _ _ _ us hl => match us, hl with | [_, _], _ => rfl, g_ends_of := PySem.W.mg_of X G a1,
      f_choices := f2, fd_choices := _, F_choices := fun_mk (st := s_choices) l2 c2 k2, b_choices := (fun_mk (st := s_choices) l2 c2 k2).binds fun _ _ _ _ _ _ us hl => match us, hl with | [_, _], _ => rfl, g_choices := PySem.W.mg_of X G a2,
      f_do_join := f3, fd_do_join := _, F_do_join := fun_mk (st := s_do_join) l3 c3 k3, b_do_join := (fun_mk (st := s_do_join) l3 c3 k3).binds fun _ _ _ _ _ _ us hl => match us, hl with | [_, _], _ => rfl, g_do_join := PySem.W.mg_of X G a3,
      f_trees := f4, fd_trees := _, F_trees := fun_mk (st := s_trees) l4 c4 k4, b_trees := (fun_mk (st := s_trees) l4 c4 k4).binds fun _ _ _ _ _ _ us hl => match us, hl with | [_], _ => rfl, g_trees := PySem.W.mg_of X G a4,
      f_total := f5, fd_total := _, F_total := fun_mk (st := s_total) l5 c5 k5, b_total := (fun_mk (st := s_total) l5 c5 k5).binds fun _ _ _ _ _ _ us hl => match us, hl with | [_, _], _ => rfl, g_total := PySem.W.mg_of X G a5,
      f_greedy := f6, fd_greedy := _, F_greedy := fun_mk (st := s_greedy) l6 c6 k6, b_greedy := (fun_mk (st := s_greedy) l6 c6 k6).binds fun _ _ _ _ _ _ us hl => match us, hl with | [_, _], _ => rfl, g_greedy := PySem.W.mg_of X G a6,
      f_one_least := f7, fd_one_least := _, F_one_least := fun_mk (st := s_one_least) l7 c7 k7, b_one_least := (fun_mk (st := s_one_least) l7 c7 k7).binds fun _ _ _ _ _ _ us hl => match us, hl with | [_, _], _ => rfl, g_one_least := PySem.W.mg_of X G a7,
      f_least_total := f8, fd_least_total := _, F_least_total := fun_mk (st := s_least_total) l8 c8 k8, b_least_total := (fun_mk (st := s_least_total) l8 c8 k8).binds fun _ _ _ _ _ _ us hl => match us, hl with | [_, _], _ => rfl, g_least_total := PySem.W.mg_of X G a8,
      f_least_trees := f9, fd_least_trees := _, F_least_trees := fun_mk (st := s_least_trees) l9 c9 k9, b_least_trees := (fun_mk (st := s_least_trees) l9 c9 k9).binds fun _ _ _ _ _ _ us hl => match us, hl with | [_, _], _ => rfl, g_least_trees := PySem.W.mg_of X G a9,
      f_used := f10, fd_used := _, F_used := fun_mk (st := s_used) l10 c10 k10, b_used := (fun_mk (st := s_used) l10 c10 k10).binds fun _ _ _ _ _ _ us hl => match us, hl with | [_, _], _ => rfl, g_used := PySem.W.mg_of X G a10,
      f_needed := f11, fd_needed := _, F_needed := fun_mk (st := s_needed) l11 c11 k11, b_needed := (fun_mk (st := s_needed) l11 c11 k11).binds fun _ _ _ _ _ _ us hl => match us, hl with | [_, _], _ => rfl, g_needed := PySem.W.mg_of X G a11,
      f__law_open := f12, fd__law_open := _, F__law_open := fun_mk (st := s__law_open) l12 c12 k12, b__law_open := (fun_mk (st := s__law_open) l12 c12 k12).binds fun _ _ _ _ _ _ us hl => match us, hl with | [_], _ => rfl, g__law_open := PySem.W.mg_of X G a12,
      f__law_spread := f13, fd__law_spread := _, F__law_spread := fun_mk (st := s__law_spread) l13 c13 k13, b__law_spread := (fun_mk (st := s__law_spread) l13 c13 k13).binds fun _ _ _ _ _ _ us hl => match us, hl with | [_, _], _ => rfl, g__law_spread := PySem.W.mg_of X G a13,
      f__law_take := f14, fd__law_take := _, F__law_take := fun_mk (st := s__law_take) l14 c14 k14, b__law_take := (fun_mk (st := s__law_take) l14 c14 k14).binds fun _ _ _ _ _ _ us hl => match us, hl with | [_, _], _ => rfl, g__law_take := PySem.W.mg_of X G a14,
      f__law_same := f15, fd__law_same := _, F__law_same := fun_mk (st := s__law_same) l15 c15 k15, b__law_same := (fun_mk (st := s__law_same) l15 c15 k15).binds fun _ _ _ _ _ _ us hl => match us, hl with | [_, _], _ => rfl, g__law_same := PySem.W.mg_of X G a15,
      f__law_one_of := f16, fd__law_one_of := _, F__law_one_of := fun_mk (st := s__law_one_of) l16 c16 k16, b__law_one_of := (fun_mk (st := s__law_one_of) l16 c16 k16).binds fun _ _ _ _ _ _ us hl => match us, hl with | [_, _], _ => rfl, g__law_one_of := PySem.W.mg_of X G a16,
      f__law_draw_bounds := f17, fd__law_draw_bounds := _, F__law_draw_bounds := fun_mk (st := s__law_draw_bounds) l17 c17 k17, b__law_draw_bounds := (fun_mk (st := s__law_draw_bounds) l17 c17 k17).binds fun _ _ _ _ _ _ us hl => match us, hl with | [_], _ => rfl, g__law_draw_bounds := PySem.W.mg_of X G a17,
      f__law_draw_web := f18, fd__law_draw_web := _, F__law_draw_web := fun_mk (st := s__law_draw_web) l18 c18 k18, b__law_draw_web := (fun_mk (st := s__law_draw_web) l18 c18 k18).binds fun _ _ _ _ _ _ us hl => match us, hl with | [_, _, _], _ => rfl, g__law_draw_web := PySem.W.mg_of X G a18,
      f__law_draw_lengths := f19, fd__law_draw_lengths := _, F__law_draw_lengths := fun_mk (st := s__law_draw_lengths) l19 c19 k19, b__law_draw_lengths := (fun_mk (st := s__law_draw_lengths) l19 c19 k19).binds fun _ _ _ _ _ _ us hl => match us, hl with | [_, _], _ => rfl, g__law_draw_lengths := PySem.W.mg_of X G a19,
      f__law_raised := f20, fd__law_raised := _, F__law_raised := fun_mk (st := s__law_raised) l20 c20 k20, b__law_raised := (fun_mk (st := s__law_raised) l20 c20 k20).binds fun _ _ _ _ _ _ us hl => match us, hl with | [_, _], _ => rfl, g__law_raised := PySem.W.mg_of X G a20,
      f__law_reach := f21, fd__law_reach := _, F__law_reach := fun_mk (st := s__law_reach) l21 c21 k21, b__law_reach := (fun_mk (st := s__law_reach) l21 c21 k21).binds fun _ _ _ _ _ _ us hl => match us, hl with | [_, _, _], _ => rfl, g__law_reach := PySem.W.mg_of X G a21,
      f__law_is_apart := f22, fd__law_is_apart := _, F__law_is_apart := fun_mk (st := s__law_is_apart) l22 c22 k22, b__law_is_apart := (fun_mk (st := s__law_is_apart) l22 c22 k22).binds fun _ _ _ _ _ _ us hl => match us, hl with | [_, _, _], _ => rfl, g__law_is_apart := PySem.W.mg_of X G a22,
      f__law_is_used := f23, fd__law_is_used := _, F__law_is_used := fun_mk (st := s__law_is_used) l23 c23 k23, b__law_is_used := (fun_mk (st := s__law_is_used) l23 c23 k23).binds fun _ _ _ _ _ _ us hl => match us, hl with | [_, _, _], _ => rfl, g__law_is_used := PySem.W.mg_of X G a23,
      f__law_is_needed := f24, fd__law_is_needed := _, F__law_is_needed := fun_mk (st := s__law_is_needed) l24 c24 k24, b__law_is_needed := (fun_mk (st := s__law_is_needed) l24 c24 k24).binds fun _ _ _ _ _ _ us hl => match us, hl with | [_, _, _], _ => rfl, g__law_is_needed := PySem.W.mg_of X G a24,
      f_law := fa, fd_law := _, F_law := fun_mk (st := s_law) l25 c25 k25, b_law := (fun_mk (st := s_law) l25 c25 k25).binds fun _ _ _ _ _ _ us hl => match us, hl with | [_], _ => rfl, g_law := PySem.W.mg_of X G a25,
      lc_one_least := lc7, lP_one_least := lP7, lcd_one_least := rfl, lin_one_least := .head _, luq_one_least := fun p hp hq => (match p, hp, hq with | _, .head _, hq => rfl),
      n_all := PySem.W.mg_none_of X G z_all,
      n_any := PySem.W.mg_none_of X G z_any,
      n_bool := PySem.W.mg_none_of X G z_bool,
      n_enumerate := PySem.W.mg_none_of X G z_enumerate,
      n_int := PySem.W.mg_none_of X G z_int,
      n_isinstance := PySem.W.mg_none_of X G z_isinstance,
      n_len := PySem.W.mg_none_of X G z_len,
      n_list := PySem.W.mg_none_of X G z_list,
      n_max := PySem.W.mg_none_of X G z_max,
      n_min := PySem.W.mg_none_of X G z_min,
      n_range := PySem.W.mg_none_of X G z_range,
      n_repr := PySem.W.mg_none_of X G z_repr,
      n_sorted := PySem.W.mg_none_of X G z_sorted,
      n_str := PySem.W.mg_none_of X G z_str,
      n_sum := PySem.W.mg_none_of X G z_sum,
      n_tuple := PySem.W.mg_none_of X G z_tuple,
      n_zip := PySem.W.mg_none_of X G z_zip }) ⟨tb _ (.head _)⟩
end G

namespace Pv
inductive Ctl (σ R : Type) where
  | nx (v : σ) | bk (v : σ) | rt (r : R)
section
variable {α β σ R τ : Type}
def forP (b : α → σ → Option σ) : List α → σ → Option σ
  | [], v => some v
  | x :: xs, v => (b x v).bind fun w => forP b xs w
def forC (b : α → σ → Option (Ctl σ R)) : List α → σ → Option (R ⊕ σ)
  | [], v => some (.inr v)
  | x :: xs, v => (b x v).bind fun c => match c with
    | .nx w => forC b xs w
    | .bk w => some (.inr w)
    | .rt r => some (.inl r)
/-- how it goes on behind a loop with ways out -/
def contC {γ : Type} (f : R → Option γ) (g : σ → Option γ) : R ⊕ σ → Option γ
  | .inl r => f r
  | .inr w => g w
@[simp] theorem contC_l {γ : Type} (f : R → Option γ) (g : σ → Option γ) (r : R) : contC f g (.inl r) = f r := rfl
@[simp] theorem contC_r {γ : Type} (f : R → Option γ) (g : σ → Option γ) (w : σ) : contC f g (.inr w) = g w := rfl
def whP (c : σ → Option Bool) (b : σ → Option σ) : Nat → σ → Option σ
  | 0, _ => none
  | n + 1, v => (c v).bind fun t => if t = true then (b v).bind fun w => whP c b n w else some v
def whC (c : σ → Option Bool) (b : σ → Option (Ctl σ R)) : Nat → σ → Option (R ⊕ σ)
  | 0, _ => none
  | n + 1, v => (c v).bind fun t => if t = true then (b v).bind fun k => match k with
      | .nx w => whC c b n w
      | .bk w => some (.inr w)
      | .rt r => some (.inl r)
    else some (.inr v)
def lcT (c : α → Bool) (e : α → β) (xs : List α) : Option (List β) := if xs.length ≤ 1000000 then some ((xs.filter c).map e) else none
def lcG (c : α → Option Bool) (e : α → Option β) : List α → Option (List β)
  | [] => some []
  | x :: xs => (c x).bind fun b => if b = true then (e x).bind fun y => (lcG c e xs).map fun ys => y :: ys else lcG c e xs
def lcP (c : α → Option Bool) (e : α → Option β) (xs : List α) : Option (List β) := if xs.length ≤ 1000000 then lcG c e xs else none
def lcH (c : α → τ → Option (Bool × τ)) (e : α → τ → Option (β × τ)) : List α → τ → Option (List β × τ)
  | [], t => some ([], t)
  | x :: xs, t => (c x t).bind fun b => if b.1 = true then (e x b.2).bind fun y => (lcH c e xs y.2).map fun ys => (y.1 :: ys.1, ys.2) else lcH c e xs b.2
def lcS (c : α → τ → Option (Bool × τ)) (e : α → τ → Option (β × τ)) (xs : List α) (t : τ) : Option (List β × τ) := if xs.length ≤ 1000000 then lcH c e xs t else none
def addP (a b : List α) : Option (List α) := if a.length + b.length ≤ 1000000 then some (a ++ b) else none
def appP (a : List α) (x : α) : Option (List α) := if a.length < 1000000 then some (a ++ [x]) else none
def insP (a : List α) (i : Nat) (x : α) : Option (List α) := if a.length < 1000000 ∧ i < 1000000 then some (a.take i ++ [x] ++ a.drop i) else none
def popP (a : List α) : Option (α × List α) := a[a.length - 1]?.map fun x => (x, a.dropLast)
def rngP (n : Nat) : Option (List Nat) := if n ≤ 1000000 then some (List.range n) else none
def rng2P (a b : Nat) : Option (List Nat) := if a ≤ 1000000 ∧ b ≤ 1000000 then some (List.range' a (b - a)) else none
/-- pairs with their numbers -/
def numd (xs : List α) : List (Nat × α) := (List.range xs.length).zip xs
def natP (i : Int) : Option Nat := if 0 ≤ i then some i.toNat else none
def setP (a : List α) (i : Nat) (x : α) : Option (List α) := if i < a.length then some (a.set i x) else none
theorem bs {o : Option α} {f : α → Option β} {b : β} : o.bind f = some b → ∃ a, o = some a ∧ f a = some b := by
  cases o with
  | none => intro h; cases h
  | some a => intro h; exact ⟨a, rfl, h⟩
theorem ite_t {b : Bool} {x y : Option α} {r : α} (h : b = true) (hp : (if b = true then x else y) = some r) : x = some r := by rwa [if_pos h] at hp
theorem ite_f {b : Bool} {x y : Option α} {r : α} (h : b = false) (hp : (if b = true then x else y) = some r) : y = some r := by rwa [if_neg (by simp [h])] at hp
theorem lcG_T {c : α → Bool} {e : α → β} : ∀ xs : List α, lcG (fun x => some (c x)) (fun x => some (e x)) xs = some ((xs.filter c).map e)
  | [] => rfl
  | x :: xs => by
    unfold lcG
    cases h : c x with
    | true => simp [h, lcG_T xs]
    | false => simp [h, lcG_T xs]
theorem lcT_P {c : α → Bool} {e : α → β} (xs : List α) : lcP (fun x => some (c x)) (fun x => some (e x)) xs = lcT c e xs := by
  unfold lcP lcT; rw [lcG_T]
end
end Pv

namespace Pv
open PySem PySem.Spec L2
local instance noTabsTy_1 : TabL := ⟨[]⟩
def lC {α : Type} (f : α → D) (xs : List α) : D := .lst (xs.map f)
def tC {α : Type} (f : α → D) (xs : List α) : D := .tup (xs.map f)
def oC {α : Type} (f : α → D) : Option α → D
  | some a => f a
  | none => .non
def p1 {α : Type} (f : α → D) (x : α) : D := .tup [f x]
def p2 {α β : Type} (f : α → D) (g : β → D) (x : α × β) : D := .tup [f x.1, g x.2]
def p3 {α β γ : Type} (f : α → D) (g : β → D) (h : γ → D) (x : α × β × γ) : D := .tup [f x.1, g x.2.1, h x.2.2]
def p4 {α β γ δ : Type} (f : α → D) (g : β → D) (h : γ → D) (k : δ → D) (x : α × β × γ × δ) : D := .tup [f x.1, g x.2.1, h x.2.2.1, k x.2.2.2]
def p5 {α β γ δ ε : Type} (f : α → D) (g : β → D) (h : γ → D) (k : δ → D) (l : ε → D) (x : α × β × γ × δ × ε) : D := .tup [f x.1, g x.2.1, h x.2.2.1, k x.2.2.2.1, l x.2.2.2.2]
def h2 {α β : Type} (f : α → D) (g : β → D) (x : α × β) : D := .lst [f x.1, g x.2]
def h3 {α β γ : Type} (f : α → D) (g : β → D) (h : γ → D) (x : α × β × γ) : D := .lst [f x.1, g x.2.1, h x.2.2]
def uC (_ : Unit) : D := .non
/-- any value -/
def rw (d : D) : D := match d with
  | .hd _ => .non
  | d => d
class Nh (d : D) : Prop where
  nh : ∀ s, deref s d = d
instance (i : Int) : Nh (.int i) := ⟨fun _ => rfl⟩
instance (i : Bool) : Nh (.bl i) := ⟨fun _ => rfl⟩
instance (i : Str) : Nh (.str i) := ⟨fun _ => rfl⟩
instance (i : List D) : Nh (.tup i) := ⟨fun _ => rfl⟩
instance (i : List D) : Nh (.lst i) := ⟨fun _ => rfl⟩
instance (t : Bool) (i : List (D × D)) : Nh (.dct t i) := ⟨fun _ => rfl⟩
instance : Nh .non := ⟨fun _ => rfl⟩
instance (i : List Int) : Nh (.scr i) := ⟨fun _ => rfl⟩
instance (i : Nat) : Nh (nD i) := ⟨fun _ => rfl⟩
instance (i : Unit) : Nh (uC i) := ⟨fun _ => rfl⟩
instance {α : Type} (f : α → D) (x : List α) : Nh (lC f x) := ⟨fun _ => rfl⟩
instance {α : Type} (f : α → D) (x : List α) : Nh (tC f x) := ⟨fun _ => rfl⟩
instance {α : Type} (f : α → D) (x : Option α) [h : ∀ a, Nh (f a)] : Nh (oC f x) := ⟨fun s => by cases x with
  | none => rfl
  | some a => exact (h a).nh s⟩
instance {α : Type} (f : α → D) (x) : Nh (p1 f x) := ⟨fun _ => rfl⟩
instance {α β : Type} (f : α → D) (g : β → D) (x) : Nh (p2 f g x) := ⟨fun _ => rfl⟩
instance {α β γ : Type} (f : α → D) (g : β → D) (h : γ → D) (x) : Nh (p3 f g h x) := ⟨fun _ => rfl⟩
instance {α β γ δ : Type} (f : α → D) (g : β → D) (h : γ → D) (k : δ → D) (x) : Nh (p4 f g h k x) := ⟨fun _ => rfl⟩
instance {α β γ δ ε : Type} (f : α → D) (g : β → D) (h : γ → D) (k : δ → D) (l : ε → D) (x) : Nh (p5 f g h k l x) := ⟨fun _ => rfl⟩
instance {α β : Type} (f : α → D) (g : β → D) (x) : Nh (h2 f g x) := ⟨fun _ => rfl⟩
instance {α β γ : Type} (f : α → D) (g : β → D) (h : γ → D) (x) : Nh (h3 f g h x) := ⟨fun _ => rfl⟩
instance (w : Web) : Nh (webD w) := ⟨fun _ => rfl⟩
instance (w : Rd) : Nh (rdD w) := ⟨fun _ => rfl⟩
instance (d : D) : Nh (rw d) := ⟨fun s => by cases d <;> rfl⟩
def Slot.dd : Slot → Option D
  | .non => none
  | .fro d => some d
  | .own d => some d
def Has (s : Sg) (i : Nat) (d : D) : Prop := (s.env[i]?).bind Slot.dd = some d
def Keep (s s' : Sg) : Prop := ∀ i d, Has s i d → Has s' i d
theorem Keep.refl (s : Sg) : Keep s s := fun _ _ h => h
theorem Keep.trans {a b c : Sg} (h : Keep a b) (k : Keep b c) : Keep a c := fun i d x => k i d (h i d x)
structure E (ev : Ev RV) (s : Sg) (rv : RV) (s' : Sg) : Prop where
  eq : ev s = some (rv, s')
  kp : Keep s s'
structure O (ev : Ev Bor) (s : Sg) (d : D) (s' : Sg) : Prop where
  ex : ∃ b, ev s = some (b, s') ∧ ∀ s2, Keep s' s2 → fetch s2 b = some d
  kp : Keep s s'
structure A (ev : Ev (List D)) (s : Sg) (ds : List D) (s' : Sg) : Prop where
  eq : ev s = some (ds, s')
  kp : Keep s s'
structure L (ev : Ev (List Bor)) (s : Sg) (ds : List D) (s' : Sg) : Prop where
  ex : ∃ b, ev s = some (b, s') ∧ ∀ s2, Keep s' s2 → fetchAll s2 b = some ds
  kp : Keep s s'
structure B (ev : Ev Bool) (s : Sg) (b : Bool) (s' : Sg) : Prop where
  eq : ev s = some (b, s')
  kp : Keep s s'
structure P (ev : Ev (Option Int)) (s : Sg) (b : Option Int) (s' : Sg) : Prop where
  eq : ev s = some (b, s')
  kp : Keep s s'
structure I (ev : Ev (List D)) (s : Sg) (ds : List D) (s' : Sg) : Prop where
  eq : ev s = some (ds, s')
  kp : Keep s s'
section
variable {s s1 s2 s3 s4 s' : Sg} {d da db dc : D} {i : Nat} {rv r : RV}
theorem E_name (h : s.env[i]? = some (.fro d)) : E (evName i) s (.fro d) s := ⟨by unfold evName; rw [h], Keep.refl s⟩
theorem E_nameO (h : s.env[i]? = some (.own d)) (h' : (⟨s.env.set i (.fro d), s.st⟩ : Sg) = s') : E (evName i) s (.fro d) s' := ⟨by unfold evName; rw [h, ← h'], fun j x hx => by
  subst h'
  unfold Has at hx ⊢
  by_cases hj : i = j
  · subst hj
    rw [h] at hx
    obtain ⟨hl, _⟩ := List.getElem?_eq_some_iff.mp h
    rw [List.getElem?_set_self hl]
    exact hx
  · rw [List.getElem?_set_ne hj]; exact hx⟩
/-- own, or frozen -/
def eiS (b : Bool) (d : D) : Slot := match b with
  | true => .own d
  | false => .fro d
theorem E_nameE {b : Bool} (h : s.env[i]? = some (eiS b d)) (h' : (⟨s.env.set i (.fro d), s.st⟩ : Sg) = s') : E (evName i) s (.fro d) s' := by
  cases b with
  | true => exact E_nameO h h'
  | false =>
    have h : s.env[i]? = some (.fro d) := h
    have : s.env.set i (.fro d) = s.env := by
      obtain ⟨hl, e⟩ := List.getElem?_eq_some_iff.mp h
      rw [← e]; exact List.set_getElem_self _
    rw [this] at h'
    subst h'
    exact E_name h
theorem E_c : E (evC d) s (.fro d) s := ⟨rfl, Keep.refl s⟩
theorem E_n (n : Nat) {i : Int} (h : (n : Int) = i) : E (evC (.int i)) s (.fro (nD n)) s := by subst h; exact ⟨rfl, Keep.refl s⟩
theorem fetch_has (h : Has s i d) [n : Nh d] : fetch s (.slot i) = some d := by
  unfold Has at h
  show (match s.env[i]? with
    | some (.fro d) => some (deref s d)
    | some (.own d) => some d
    | _ => none) = some d
  cases e : s.env[i]? with
  | none => rw [e] at h; cases h
  | some sl =>
    rw [e] at h
    cases sl with
    | non => cases h
    | fro x => cases h; exact congrArg some (n.nh s)
    | own x => cases h; rfl
theorem O_slot (h : Has s i d) [Nh d] : O (evSlot i) s d s := ⟨⟨.slot i, by
  unfold Has at h
  unfold evSlot
  cases e : s.env[i]? with
  | none => rw [e] at h; cases h
  | some sl =>
    rw [e] at h
    cases sl with
    | non => cases h
    | fro x => rfl
    | own x => rfl, fun s2 k => fetch_has (k i d h)⟩, Keep.refl s⟩
theorem O_slotE {b : Bool} (h : s.env[i]? = some (eiS b d)) [Nh d] : O (evSlot i) s d s := O_slot (by unfold Has; rw [h]; cases b <;> rfl)
theorem O_v {ev : Ev RV} (h : E ev s rv s') (e : rv.d = d) [n : Nh d] : O (evV ev) s d s' := ⟨⟨.val d, by rw [evV_ap, h.eq]; cases rv <;> (cases e; rfl), fun s2 _ => congrArg some (n.nh s2)⟩, h.kp⟩
theorem O_vf {ev : Ev RV} (h : E ev s (.fro d) s') [n : Nh d] : O (evV ev) s d s' := O_v h rfl
theorem O_vo {ev : Ev RV} (h : E ev s (.own d) s') [n : Nh d] : O (evV ev) s d s' := O_v h rfl
theorem E_2 {f : Op2} {a b : Ev Bor} (ha : O a s da s1) (hb : O b s1 db s2) (hf : f da db = some r) : E (ev2 f a b) s r s2 := by
  obtain ⟨x, e1, f1⟩ := ha.ex
  obtain ⟨y, e2, f2⟩ := hb.ex
  refine ⟨?_, ha.kp.trans hb.kp⟩
  unfold ev2
  rw [e1, Option.bind_some, e2, Option.bind_some, f1 s2 hb.kp, Option.bind_some, f2 s2 (Keep.refl _), Option.bind_some, hf]
  rfl
theorem A_nil : A evNil s [] s := ⟨rfl, Keep.refl s⟩
theorem A_cons {e : Ev RV} {es : Ev (List D)} {ds : List D} (h : E e s rv s1) (hs : A es s1 ds s2) : A (evCons e es) s (rv.d :: ds) s2 := ⟨by
  simp [h.eq, hs.eq], h.kp.trans hs.kp⟩
theorem A_f {e : Ev RV} {es : Ev (List D)} {ds : List D} (h : E e s (.fro d) s1) (hs : A es s1 ds s2) : A (evCons e es) s (d :: ds) s2 := A_cons h hs
theorem A_o {e : Ev RV} {es : Ev (List D)} {ds : List D} (h : E e s (.own d) s1) (hs : A es s1 ds s2) : A (evCons e es) s (d :: ds) s2 := A_cons h hs
theorem A_v {e : Ev RV} {es : Ev (List D)} {ds : List D} (h : E e s rv s1) (q : rv.d = d) (hs : A es s1 ds s2) : A (evCons e es) s (d :: ds) s2 := q ▸ A_cons h hs
theorem L_nil : L evNilB s [] s := ⟨⟨[], rfl, fun _ _ => rfl⟩, Keep.refl s⟩
theorem L_cons {e : Ev Bor} {es : Ev (List Bor)} {ds : List D} (h : O e s d s1) (hs : L es s1 ds s2) : L (evConsB e es) s (d :: ds) s2 := by
  obtain ⟨x, e1, f1⟩ := h.ex
  obtain ⟨y, e2, f2⟩ := hs.ex
  refine ⟨⟨x :: y, by simp [e1, e2], fun s3 k => ?_⟩, h.kp.trans hs.kp⟩
  unfold fetchAll
  rw [f1 s3 (hs.kp.trans k), Option.bind_some, f2 s3 k]
  rfl
theorem E_N {f : OpN} {a : Ev (List Bor)} {ds : List D} (h : L a s ds s1) (hf : f ds = some r) : E (evN f a) s r s1 := by
  obtain ⟨x, e1, f1⟩ := h.ex
  refine ⟨?_, h.kp⟩
  unfold evN
  rw [e1, Option.bind_some, f1 s1 (Keep.refl _), Option.bind_some, hf]
  rfl
theorem E_tup {a : Ev (List D)} {ds : List D} (h : A a s ds s1) (hl : Nat.ble ds.length 1000 = true) : E (evTup a) s (.fro (.tup ds)) s1 := ⟨by
  unfold evTup; rw [h.eq, Option.bind_some, if_pos (Nat.le_of_ble_eq_true hl)], h.kp⟩
theorem E_lst {a : Ev (List D)} {ds : List D} (h : A a s ds s1) (hl : Nat.ble ds.length 1000 = true) : E (evLst a) s (.own (.lst ds)) s1 := ⟨by
  unfold evLst; rw [h.eq, Option.bind_some, if_pos (Nat.le_of_ble_eq_true hl)], h.kp⟩
theorem E_call {m : Fm} {a : Ev (List D)} {ds : List D} (h : A a s ds s1) (hm : m ds s1.st = some (r, s1.st)) : E (evCall m a) s r s1 := ⟨by
  unfold evCall; rw [h.eq, Option.bind_some, hm]; rfl, h.kp⟩
theorem E_callS {m : Fm} {a : Ev (List D)} {ds : List D} {st : List Cell} (h : A a s ds s1) (hm : m ds s1.st = some (r, st)) (hs : (⟨s1.env, st⟩ : Sg) = s') : E (evCall m a) s r s' := ⟨by
  unfold evCall; rw [h.eq, Option.bind_some, hm]; exact congrArg (fun z => some (r, z)) hs, fun i d x => by subst hs; exact h.kp i d x⟩
theorem E_opt {α : Type} {f : α → D} {e : Ev RV} {v : Option α} {y : α} (q : v = some y) (h : E e s (.fro (oC f v)) s') : E e s (.fro (f y)) s' := by subst q; exact h
theorem O_opt {α : Type} {f : α → D} {e : Ev Bor} {v : Option α} {y : α} (q : v = some y) (h : O e s (oC f v) s') : O e s (f y) s' := by subst q; exact h
theorem natP_D {i : Int} {y : Nat} (q : natP i = some y) : D.int i = nD y := by
  unfold natP at q
  split at q
  · rename_i h
    have := Option.some.inj q
    subst this
    show D.int i = D.int ((i.toNat : Nat) : Int)
    rw [Int.toNat_of_nonneg h]
  · cases q
theorem E_nat {e : Ev RV} {i : Int} {y : Nat} (q : natP i = some y) (h : E e s (.fro (.int i)) s') : E e s (.fro (nD y)) s' := natP_D q ▸ h
theorem O_nat {e : Ev Bor} {i : Int} {y : Nat} (q : natP i = some y) (h : O e s (.int i) s') : O e s (nD y) s' := natP_D q ▸ h
theorem E_castO {e : Ev RV} {d' : D} (q : d = d') (h : E e s (.own d) s') : E e s (.own d') s' := q ▸ h
theorem E_castF {e : Ev RV} {d' : D} (q : d = d') (h : E e s (.fro d) s') : E e s (.fro d') s' := q ▸ h
theorem O_cast {e : Ev Bor} {d' : D} (q : d = d') (h : O e s d s') : O e s d' s' := q ▸ h
def toRd (x : Nat × Nat × Nat × Nat) : Rd := ⟨x.1, x.2.1, x.2.2.1, x.2.2.2⟩
theorem webD_p2 (n : Nat) (xs : List (Nat × Nat × Nat × Nat)) : p2 nD (tC (p4 nD nD nD nD)) (n, xs) = webD ⟨n, xs.map toRd⟩ := by
  show D.tup [nD n, .tup (xs.map (p4 nD nD nD nD))] = .tup [nD n, .tup ((xs.map toRd).map rdD)]
  rw [List.map_map]
  rfl
theorem lC_some {α : Type} (f : α → D) (xs : List α) : lC f xs = lC (oC f) (xs.map some) := by unfold lC; rw [List.map_map]; rfl
theorem tC_some {α : Type} (f : α → D) (xs : List α) : tC f xs = tC (oC f) (xs.map some) := by unfold tC; rw [List.map_map]; rfl
theorem lC_int (xs : List Nat) : lC nD xs = lC D.int (xs.map fun x : Nat => (x : Int)) := by unfold lC; rw [List.map_map]; rfl
theorem tC_int (xs : List Nat) : tC nD xs = tC D.int (xs.map fun x : Nat => (x : Int)) := by unfold tC; rw [List.map_map]; rfl
theorem E_as {e : Ev RV} {r' : RV} (h : E e s r s') (q : r = r') : E e s r' s' := q ▸ h
class Hf (d : D) : Prop where
  hf : hdFree d = true
theorem hfA : ∀ {ds : List D}, (∀ d ∈ ds, hdFree d = true) → hdFreeAll ds = true
  | [], _ => rfl
  | d :: ds, h => by rw [hdFreeAll, h d (.head _), hfA fun x hx => h x (.tail _ hx)]; rfl
theorem hfAll {α : Type} {f : α → D} (h : ∀ a, Hf (f a)) (xs : List α) : hdFreeAll (xs.map f) = true := by
  refine hfA fun d hd => ?_
  obtain ⟨a, _, rfl⟩ := List.mem_map.mp hd
  exact (h a).hf
theorem hf_tup {ds : List D} (h : ∀ d ∈ ds, hdFree d = true) : hdFree (.tup ds) = true := by rw [hdFree]; exact hfA h
theorem hf_lst {ds : List D} (h : ∀ d ∈ ds, hdFree d = true) : hdFree (.lst ds) = true := by rw [hdFree]; exact hfA h
instance (i : Int) : Hf (.int i) := ⟨by simp [hdFree]⟩
instance (i : Bool) : Hf (.bl i) := ⟨by simp [hdFree]⟩
instance (i : Str) : Hf (.str i) := ⟨by simp [hdFree]⟩
instance : Hf .non := ⟨by simp [hdFree]⟩
instance (i : Nat) : Hf (nD i) := ⟨by simp [nD, hdFree]⟩
instance (i : Unit) : Hf (uC i) := ⟨by simp [uC, hdFree]⟩
instance {α : Type} (f : α → D) (x : List α) [h : ∀ a, Hf (f a)] : Hf (lC f x) := ⟨by rw [lC, hdFree]; exact hfAll h x⟩
instance {α : Type} (f : α → D) (x : List α) [h : ∀ a, Hf (f a)] : Hf (tC f x) := ⟨by rw [tC, hdFree]; exact hfAll h x⟩
instance {α : Type} (f : α → D) (x : Option α) [h : ∀ a, Hf (f a)] : Hf (oC f x) := ⟨by cases x with
  | none => simp [oC, hdFree]
  | some a => exact (h a).hf⟩
instance {α β : Type} (f : α → D) (g : β → D) (x) [h : ∀ a, Hf (f a)] [k : ∀ a, Hf (g a)] : Hf (p2 f g x) := ⟨hf_tup fun d hd => by
  simp at hd
  rcases hd with rfl | rfl
  · exact (h _).hf
  · exact (k _).hf⟩
instance {α β : Type} (f : α → D) (g : β → D) (x) [h : ∀ a, Hf (f a)] [k : ∀ a, Hf (g a)] : Hf (h2 f g x) := ⟨hf_lst fun d hd => by
  simp at hd
  rcases hd with rfl | rfl
  · exact (h _).hf
  · exact (k _).hf⟩
instance {α β γ : Type} (f : α → D) (g : β → D) (m : γ → D) (x) [h : ∀ a, Hf (f a)] [k : ∀ a, Hf (g a)] [l : ∀ a, Hf (m a)] : Hf (p3 f g m x) := ⟨hf_tup fun d hd => by
  simp at hd
  rcases hd with rfl | rfl | rfl
  · exact (h _).hf
  · exact (k _).hf
  · exact (l _).hf⟩
instance (r : Rd) : Hf (rdD r) := ⟨hf_tup fun d hd => by
  simp at hd
  rcases hd with rfl | rfl | rfl | rfl <;> simp [hdFree]⟩
instance (w : Web) : Hf (webD w) := ⟨hf_tup fun d hd => by
  simp at hd
  rcases hd with rfl | rfl
  · simp [hdFree]
  · exact hf_tup fun d hd => by
      obtain ⟨r, _, rfl⟩ := List.mem_map.mp hd
      exact (inferInstance : Hf (rdD r)).hf⟩
theorem qs_own {d : D} (h : hdFree d = true) : quietSlot (.own d) = .fro d := if_pos h
theorem qs_fro {d : D} (h : hdFree d = true) : quietSlot (.fro d) = .fro d := if_pos h
inductive QE : List Slot → List Slot → Prop
  | nil : QE [] []
  | own {d : D} {e f : List Slot} [Hf d] : QE e f → QE (.own d :: e) (.fro d :: f)
  | fro {d : D} {e f : List Slot} [Hf d] : QE e f → QE (.fro d :: e) (.fro d :: f)
  | eit {b : Bool} {d : D} {e f : List Slot} [Hf d] : QE e f → QE (eiS b d :: e) (.fro d :: f)
  | skip {sl : Slot} {e f : List Slot} : QE e f → QE (sl :: e) (quietSlot sl :: f)
theorem QE.eq {e f : List Slot} (h : QE e f) : e.map quietSlot = f := by
  induction h with
  | nil => rfl
  | @own d e f i _ ih => rw [List.map_cons, ih, qs_own i.hf]
  | @fro d e f i _ ih => rw [List.map_cons, ih, qs_fro i.hf]
  | @eit b d e f i _ ih =>
    rw [List.map_cons, ih]
    cases b
    · rw [show eiS false d = .fro d from rfl, qs_fro i.hf]
    · rw [show eiS true d = .own d from rfl, qs_own i.hf]
  | skip _ ih => rw [List.map_cons, ih]
theorem E_quiet {ev : Ev RV} {env : List Slot} {b : Bool} (q : QE s.env env) (h : E ev ⟨env, []⟩ (.fro (.bl b)) s') : E (evQuiet ev) s (.fro (.bl b)) s := ⟨by
  unfold evQuiet
  rw [q.eq, h.eq]
  rfl, Keep.refl s⟩
theorem E_quietL {α : Type} {f : α → D} {ys : List α} {ev : Ev RV} {env : List Slot} (q : QE s.env env) (h : E ev ⟨env, []⟩ (.own (lC f ys)) s') (hs : ∀ y, scalarD (f y) = true) : E (evQuietL ev) s (.own (lC f ys)) s := ⟨by
  unfold evQuietL
  rw [q.eq, h.eq]
  show (if (ys.map f).all scalarD = true then some (RV.own (.lst (ys.map f)), s) else none) = _
  rw [if_pos]
  · rfl
  · rw [List.all_eq_true]
    rintro _ hx
    obtain ⟨a, _, rfl⟩ := List.mem_map.mp hx
    exact hs a, Keep.refl s⟩
variable {b b' x y : Bool}
theorem B_B {e : Ev RV} (h : E e s (.fro (.bl b)) s') : B (evB e) s b s' := ⟨by unfold evB; rw [h.eq]; rfl, h.kp⟩
theorem B_tru {a : Ev Bor} (h : O a s d s') (ht : tru d = some b) : B (evTru a) s b s' := by
  obtain ⟨x, e1, f1⟩ := h.ex
  refine ⟨?_, h.kp⟩
  unfold evTru
  rw [e1, Option.bind_some, f1 s' (Keep.refl _), Option.bind_some, ht]
  rfl
theorem B_yes : B evYes s true s := ⟨rfl, Keep.refl s⟩
theorem B_as {e : Ev Bool} (h : B e s b s') (q : b = b') : B e s b' s' := q ▸ h
theorem B_env {e : Ev Bool} (he : s1 = s2) (h : B e s2 b s2) : B e s1 b s1 := by subst he; exact h
theorem E_env {e : Ev RV} (he : s1 = s2) (h : E e s2 rv s2) : E e s1 rv s1 := by subst he; exact h
theorem B_not {e : Ev Bool} (h : B e s b s') : B (evNot e) s (!b) s' := ⟨by unfold evNot; rw [h.eq]; rfl, h.kp⟩
theorem B_and {a e : Ev Bool} (h : B a s x s1) (h2 : B e s1 y s1) : B (evAnd a e) s (x && y) s1 := ⟨by
  unfold evAnd; rw [h.eq, Option.bind_some]; cases x
  · rfl
  · exact h2.eq, h.kp⟩
theorem B_or {a e : Ev Bool} (h : B a s x s1) (h2 : B e s1 y s1) : B (evOr a e) s (x || y) s1 := ⟨by
  unfold evOr; rw [h.eq, Option.bind_some]; cases x
  · exact h2.eq
  · rfl, h.kp⟩
theorem B_andS {a e : Ev Bool} (h : B a s x s1) (h2 : B e s1 y s2) (hs : (if x = true then s2 else s1) = s') : B (evAnd a e) s (x && y) s' := by
  subst hs
  cases x with
  | false => exact ⟨by unfold evAnd; rw [h.eq]; rfl, h.kp⟩
  | true => exact ⟨by unfold evAnd; rw [h.eq]; exact h2.eq, h.kp.trans h2.kp⟩
theorem B_orS {a e : Ev Bool} (h : B a s x s1) (h2 : B e s1 y s2) (hs : (if x = true then s1 else s2) = s') : B (evOr a e) s (x || y) s' := by
  subst hs
  cases x with
  | true => exact ⟨by unfold evOr; rw [h.eq]; rfl, h.kp⟩
  | false => exact ⟨by unfold evOr; rw [h.eq]; exact h2.eq, h.kp.trans h2.kp⟩
def andP (x : Bool) (y : Option Bool) : Option Bool := if x = true then y else some false
def orP (x : Bool) (y : Option Bool) : Option Bool := if x = true then some true else y
theorem B_andP {a e : Ev Bool} {p : Option Bool} (h : B a s x s1) (hp : andP x p = some y) (h2 : x = true → p = some y → B e s1 y s1) : B (evAnd a e) s y s1 := ⟨by
  unfold evAnd; rw [h.eq, Option.bind_some]; cases x
  · cases hp; rfl
  · exact (h2 rfl hp).eq, h.kp⟩
theorem B_orP {a e : Ev Bool} {p : Option Bool} (h : B a s x s1) (hp : orP x p = some y) (h2 : x = false → p = some y → B e s1 y s1) : B (evOr a e) s y s1 := ⟨by
  unfold evOr; rw [h.eq, Option.bind_some]; cases x
  · exact (h2 rfl hp).eq
  · cases hp; rfl, h.kp⟩
theorem B_andPS {a e : Ev Bool} {p : Option Bool} (h : B a s x s1) (hp : andP x p = some y) (h2 : x = true → p = some y → B e s1 y s2) (hs : (if x = true then s2 else s1) = s') : B (evAnd a e) s y s' := by
  subst hs
  cases x with
  | false => cases hp; exact ⟨by unfold evAnd; rw [h.eq]; rfl, h.kp⟩
  | true => exact ⟨by unfold evAnd; rw [h.eq]; exact (h2 rfl hp).eq, h.kp.trans (h2 rfl hp).kp⟩
theorem B_orPS {a e : Ev Bool} {p : Option Bool} (h : B a s x s1) (hp : orP x p = some y) (h2 : x = false → p = some y → B e s1 y s2) (hs : (if x = true then s1 else s2) = s') : B (evOr a e) s y s' := by
  subst hs
  cases x with
  | true => cases hp; exact ⟨by unfold evOr; rw [h.eq]; rfl, h.kp⟩
  | false => exact ⟨by unfold evOr; rw [h.eq]; exact (h2 rfl hp).eq, h.kp.trans (h2 rfl hp).kp⟩
theorem E_and {a e : Ev RV} (h : E a s (.fro (.bl x)) s1) (h2 : E e s1 (.fro (.bl y)) s1) : E (evVand a e) s (.fro (.bl (x && y))) s1 := ⟨by
  unfold evVand; rw [h.eq, Option.bind_some]; cases x
  · rfl
  · exact h2.eq, h.kp⟩
theorem E_or {a e : Ev RV} (h : E a s (.fro (.bl x)) s1) (h2 : E e s1 (.fro (.bl y)) s1) : E (evVor a e) s (.fro (.bl (x || y))) s1 := ⟨by
  unfold evVor; rw [h.eq, Option.bind_some]; cases x
  · exact h2.eq
  · rfl, h.kp⟩
theorem E_andP {a e : Ev RV} {p : Option Bool} (h : E a s (.fro (.bl x)) s1) (hp : andP x p = some y) (h2 : x = true → p = some y → E e s1 (.fro (.bl y)) s1) : E (evVand a e) s (.fro (.bl y)) s1 := ⟨by
  unfold evVand; rw [h.eq, Option.bind_some]; cases x
  · cases hp; rfl
  · exact (h2 rfl hp).eq, h.kp⟩
theorem E_orP {a e : Ev RV} {p : Option Bool} (h : E a s (.fro (.bl x)) s1) (hp : orP x p = some y) (h2 : x = false → p = some y → E e s1 (.fro (.bl y)) s1) : E (evVor a e) s (.fro (.bl y)) s1 := ⟨by
  unfold evVor; rw [h.eq, Option.bind_some]; cases x
  · exact (h2 rfl hp).eq
  · cases hp; rfl, h.kp⟩
theorem E_not {e : Ev RV} (h : E e s (.fro (.bl b)) s') : E (evVnot e) s (.fro (.bl (!b))) s' := ⟨by unfold evVnot; rw [h.eq]; rfl, h.kp⟩
theorem E_ite {c : Ev Bool} {a e : Ev RV} (h : B c s b s1) (h1 : b = true → E a s1 r s2) (h2 : b = false → E e s1 r s2) : E (evIte c a e) s r s2 := by
  cases b with
  | true => exact ⟨by unfold evIte; rw [h.eq]; exact (h1 rfl).eq, h.kp.trans (h1 rfl).kp⟩
  | false => exact ⟨by unfold evIte; rw [h.eq]; exact (h2 rfl).eq, h.kp.trans (h2 rfl).kp⟩
theorem E_iteT {α : Type} {f : α → D} {u v : α} {c : Ev Bool} {a e : Ev RV} (h : B c s b s1) (h1 : E a s1 (.fro (f u)) s2) (h2 : E e s1 (.fro (f v)) s2) : E (evIte c a e) s (.fro (f (if b = true then u else v))) s2 := by
  cases b with
  | true => exact E_ite h (fun _ => h1) (fun h => by cases h)
  | false => exact E_ite h (fun h => by cases h) (fun _ => h2)
theorem E_iteO {α : Type} {f : α → D} {u v : α} {c : Ev Bool} {a e : Ev RV} (h : B c s b s1) (h1 : E a s1 (.own (f u)) s2) (h2 : E e s1 (.own (f v)) s2) : E (evIte c a e) s (.own (f (if b = true then u else v))) s2 := by
  cases b with
  | true => exact E_ite h (fun _ => h1) (fun h => by cases h)
  | false => exact E_ite h (fun h => by cases h) (fun _ => h2)
theorem E_ch {f g : Op2} {a e c : Ev Bor} (ha : O a s da s1) (hb : O e s1 db s2) (hf : f da db = some (.fro (.bl x))) (hc : O c s2 dc s2) (hg : g db dc = some (.fro (.bl y))) : E (evCh f g a e c) s (.fro (.bl (x && y))) s2 := by
  obtain ⟨x1, e1, f1⟩ := ha.ex
  obtain ⟨x2, e2, f2⟩ := hb.ex
  obtain ⟨x3, e3, f3⟩ := hc.ex
  refine ⟨?_, ha.kp.trans hb.kp⟩
  unfold evCh
  rw [e1, Option.bind_some, e2, Option.bind_some, f1 s2 hb.kp, Option.bind_some, f2 s2 (Keep.refl _), Option.bind_some, hf]
  cases x with
  | false => rfl
  | true =>
    show (c s2).bind _ = _
    rw [e3, Option.bind_some, f2 s2 (Keep.refl _), Option.bind_some, f3 s2 (Keep.refl _), Option.bind_some, hg]
    rfl
theorem P_no : P evNo s none s := ⟨rfl, Keep.refl s⟩
theorem P_pt {a : Ev Bor} {j : Int} (h : O a s (.int j) s') : P (evPt a) s (some j) s' := by
  obtain ⟨x, e1, f1⟩ := h.ex
  refine ⟨?_, h.kp⟩
  unfold evPt
  rw [e1, Option.bind_some, f1 s' (Keep.refl _)]
theorem E_sl {f : Sl} {a : Ev Bor} {l h : Ev (Option Int)} {lo hi : Option Int} (ha : O a s d s1) (hl : P l s1 lo s2) (hh : P h s2 hi s3) (hf : f d lo hi = some r) : E (evSl f a l h) s r s3 := by
  obtain ⟨x, e1, f1⟩ := ha.ex
  refine ⟨?_, (ha.kp.trans hl.kp).trans hh.kp⟩
  unfold evSl
  rw [e1, Option.bind_some, hl.eq, Option.bind_some, hh.eq, Option.bind_some, f1 s3 (hl.kp.trans hh.kp), Option.bind_some, hf]
  rfl
theorem E_isi {T : String} {a : Ev Bor} (ha : O a s d s1) (hf : isiB T d = some r) : E (evIsi T a) s r s1 := by
  obtain ⟨x, e1, f1⟩ := ha.ex
  refine ⟨?_, ha.kp⟩
  unfold evIsi
  rw [e1, Option.bind_some, f1 s1 (Keep.refl _), Option.bind_some, hf]
  rfl
theorem E_isis {T : List String} {a : Ev Bor} (ha : O a s d s1) (hf : isiBs T d = some r) : E (evIsis T a) s r s1 := by
  obtain ⟨x, e1, f1⟩ := ha.ex
  refine ⟨?_, ha.kp⟩
  unfold evIsis
  rw [e1, Option.bind_some, f1 s1 (Keep.refl _), Option.bind_some, hf]
  rfl
theorem E_sset {a : Ev Bor} (ha : O a s d s1) (hf : dSortSet d = some r) : E (evSSet a) s r s1 := by
  obtain ⟨x, e1, f1⟩ := ha.ex
  refine ⟨?_, ha.kp⟩
  rw [evSSet_ap, e1, Option.bind_some, kSSet_ap, f1 s1 (Keep.refl _), Option.bind_some, hf]
  rfl
theorem E_ssetL {a : Ev Bor} (ha : O a s d s1) (hf : dSortSetL d = some r) : E (evSSetL a) s r s1 := by
  obtain ⟨x, e1, f1⟩ := ha.ex
  refine ⟨?_, ha.kp⟩
  rw [evSSetL_ap, e1, Option.bind_some, kSSetL_ap, f1 s1 (Keep.refl _), Option.bind_some, hf]
  rfl
theorem E_to {e : Ev RV} {r : RV} {s2 s3 : Sg} (q : s2 = s3) (h : E e s r s2) : E e s r s3 := q ▸ h
theorem B_andC {a e : Ev Bool} {env : List Slot} {st : List Cell} {y : Bool × List Cell} {p : Option (Bool × List Cell)} (h : B a s x ⟨env, st⟩) (hp : (if x = true then p else some (false, st)) = some y) (h2 : x = true → p = some y → B e ⟨env, st⟩ y.1 ⟨env, y.2⟩) : B (evAnd a e) s y.1 ⟨env, y.2⟩ := by
  cases x with
  | false => cases hp; exact ⟨by unfold evAnd; rw [h.eq]; rfl, h.kp⟩
  | true =>
    have k := h2 rfl hp
    exact ⟨by unfold evAnd; rw [h.eq]; exact k.eq, h.kp.trans k.kp⟩
theorem E_rgL {a : Ev RV} {n : Nat} {xs : List Nat} (h : E a s (.fro (nD n)) s1) (hx : rngP n = some xs) : E (evRgL a) s (.own (lC nD xs)) s1 := by
  unfold rngP at hx
  split at hx
  · rename_i hn
    cases hx
    refine ⟨?_, h.kp⟩
    have s6 : small62 (n : Int) = true := small62_nat hn
    unfold evRgL
    rw [h.eq, Option.bind_some]
    show (if small62 (n : Int) = true then some (RV.own (.lst (upTo 0 (n : Int).toNat)), s1) else none) = _
    rw [if_pos s6, Int.toNat_natCast, upToN]; rfl
  · cases hx
theorem E_rgT {a : Ev RV} {n : Nat} {xs : List Nat} (h : E a s (.fro (nD n)) s1) (hx : rngP n = some xs) : E (evRgT a) s (.fro (tC nD xs)) s1 := by
  unfold rngP at hx
  split at hx
  · rename_i hn
    cases hx
    refine ⟨?_, h.kp⟩
    have s6 : small62 (n : Int) = true := small62_nat hn
    unfold evRgT
    rw [h.eq, Option.bind_some]
    show (if small62 (n : Int) = true then some (RV.fro (.tup (upTo 0 (n : Int).toNat)), s1) else none) = _
    rw [if_pos s6, Int.toNat_natCast, upToN]; rfl
  · cases hx
theorem I_seq {a : Ev RV} {ds : List D} (h : E a s rv s1) (hd : dSeq rv.d = some ds) : I (evItS a) s ds s1 := ⟨by unfold evItS; rw [h.eq, Option.bind_some, hd]; rfl, h.kp⟩
theorem I_args {f : List D → Option (List D)} {a : Ev (List D)} {ds es : List D} (h : A a s ds s1) (hd : f ds = some es) : I (evArgs f a) s es s1 := ⟨by unfold evArgs; rw [h.eq, Option.bind_some, hd]; rfl, h.kp⟩
theorem I_rng1 {a : Ev (List D)} {n : Nat} {xs : List Nat} (h : A a s [nD n] s1) (hx : rngP n = some xs) : I (evRng1 a) s (xs.map nD) s1 := by
  unfold rngP at hx
  split at hx
  · rename_i hn
    cases hx
    have s6 : small62 (n : Int) = true := small62_nat hn
    refine ⟨?_, h.kp⟩
    unfold evRng1
    rw [h.eq, Option.bind_some]
    show (if small62 (n : Int) = true then some (upTo 0 (n : Int).toNat, s1) else none) = _
    rw [if_pos s6, Int.toNat_natCast, upToN]
  · cases hx
theorem I_rng2 {a : Ev (List D)} {n m : Nat} {xs : List Nat} (h : A a s [nD n, nD m] s1) (hx : rng2P n m = some xs) : I (evRng2 a) s (xs.map nD) s1 := by
  unfold rng2P at hx
  split at hx
  · rename_i hn
    cases hx
    have s6 : small62 (n : Int) = true := small62_nat hn.1
    have s7 : small62 (m : Int) = true := small62_nat hn.2
    refine ⟨?_, h.kp⟩
    unfold evRng2
    rw [h.eq, Option.bind_some]
    show (if (small62 (n : Int) && small62 (m : Int)) = true then some (upTo (n : Int) ((m : Int) - (n : Int)).toNat, s1) else none) = _
    rw [if_pos (by rw [s6, s7]; rfl), show ((m : Int) - (n : Int)).toNat = m - n by omega, upTo_map]
    rfl
  · cases hx
/-- a range whose ends are any ints -/
theorem I_rng1i {a : Ev (List D)} {n : Int} {xs : List Nat} (h : A a s [.int n] s1) (hn : -1000000 ≤ n) (hx : rngP n.toNat = some xs) : I (evRng1 a) s (xs.map nD) s1 := by
  unfold rngP at hx
  split at hx
  · rename_i hm
    cases hx
    have s6 : small62 n = true := by simp [small62]; omega
    refine ⟨?_, h.kp⟩
    unfold evRng1
    rw [h.eq, Option.bind_some]
    simp [s6, upToN]
  · cases hx
theorem lcGo_P {α β : Type} {inj : α → D} {out : β → D} {p : α → Option Bool} {v : α → Option β} {t : Tgt} {c : Ev Bool} {e : Ev RV} {env : List Slot} {st : List Cell} (hb : ∀ x b, p x = some b → ∃ s2 s3, t (inj x) ⟨env, st⟩ = some s2 ∧ B c s2 b s3 ∧ s3.st = st ∧ (b = true → ∀ y, v x = some y → ∃ rv s4, E e s3 rv s4 ∧ rv.d = out y ∧ s4.st = st)) : ∀ (xs : List α) (ys : List β), lcG p v xs = some ys →
    evLcGo t c e env (xs.map inj) st = some (ys.map out, st)
  | [], ys, h => by cases h; rfl
  | x :: xs, ys, h => by
    unfold lcG at h
    obtain ⟨b, h1, h⟩ := bs h
    obtain ⟨s2, s3, g1, g2, g3, g4⟩ := hb x b h1
    show (t (inj x) ⟨env, st⟩).bind _ = _
    rw [g1, Option.bind_some, g2.eq, Option.bind_some]
    cases b with
    | true =>
      rw [if_pos rfl] at h
      obtain ⟨y, h2, h⟩ := bs h
      obtain ⟨zs, h3, h⟩ := map_some_iff h
      cases h
      obtain ⟨rv, s4, k1, k2, k3⟩ := g4 rfl y h2
      rw [if_pos rfl, k1.eq, Option.bind_some, k3, lcGo_P hb xs zs h3]
      simp [k2]
    | false =>
      rw [if_neg (by simp)] at h
      rw [if_neg (by simp), g3, lcGo_P hb xs ys h]
theorem E_lc {α β : Type} (inj : α → D) (out : β → D) {p : α → Option Bool} {v : α → Option β} {xs : List α} {ys : List β} {it : Ev (List D)} {cap vs : List Nat} {t : Tgt} {c : Ev Bool} {e : Ev RV} {env : List Slot}
    (hi : I it s (xs.map inj) s1) (hf : freezeCap cap s1 = s') (henv : blkEnv vs s'.env = env) (hp : lcP p v xs = some ys)
    (hb : ∀ x b, p x = some b → ∃ s2 s3, t (inj x) ⟨env, s'.st⟩ = some s2 ∧ B c s2 b s3 ∧ s3.st = s'.st ∧ (b = true → ∀ y, v x = some y → ∃ rv s4, E e s3 rv s4 ∧ rv.d = out y ∧ s4.st = s'.st)) :
    E (evLc it cap vs t c e) s (.own (lC out ys)) s' := by
  have hst : s'.st = s1.st := by rw [← hf]; exact freezeCap_st cap s1
  have kf : Keep s1 s' := by
    subst hf
    clear hi hb henv hst
    induction cap generalizing s1 with
    | nil => exact Keep.refl _
    | cons a cap ih =>
      refine Keep.trans ?_ (ih (s1 := leakSlot s1 a))
      intro j x hx
      unfold Has at hx ⊢
      unfold leakSlot
      split
      · rename_i d0 e0
        by_cases hj : a = j
        · subst hj
          rw [e0] at hx
          obtain ⟨hl, _⟩ := List.getElem?_eq_some_iff.mp e0
          show ((s1.env.set a _)[a]?).bind _ = _
          rw [List.getElem?_set_self hl]
          exact hx
        · show ((s1.env.set a _)[j]?).bind _ = _
          rw [List.getElem?_set_ne hj]; exact hx
      · exact hx
  unfold lcP at hp
  split at hp
  · rename_i hl
    refine ⟨?_, hi.kp.trans kf⟩
    unfold evLc
    rw [hi.eq, Option.bind_some, if_pos (by simpa using hl)]
    show (evLcGo t c e (blkEnv vs (freezeCap cap s1).env) (xs.map inj) s1.st).map _ = _
    rw [hf, henv, ← hst, lcGo_P hb xs ys hp]
    rfl
  · cases hp
theorem lcGo_S {α β τ : Type} {inj : α → D} {out : β → D} {p : α → τ → Option (Bool × τ)} {v : α → τ → Option (β × τ)} {cs : τ → List Cell} {t : Tgt} {c : Ev Bool} {e : Ev RV} {env : List Slot} (hb : ∀ x z b, p x z = some b → ∃ s2 s3, t (inj x) ⟨env, cs z⟩ = some s2 ∧ B c s2 b.1 s3 ∧ s3.st = cs b.2 ∧ (b.1 = true → ∀ y, v x b.2 = some y → ∃ rv s4, E e s3 rv s4 ∧ rv.d = out y.1 ∧ s4.st = cs y.2)) : ∀ (xs : List α) (z : τ) (ys : List β × τ), lcH p v xs z = some ys →
    evLcGo t c e env (xs.map inj) (cs z) = some (ys.1.map out, cs ys.2)
  | [], z, ys, h => by cases h; rfl
  | x :: xs, z, ys, h => by
    unfold lcH at h
    obtain ⟨b, h1, h⟩ := bs h
    obtain ⟨s2, s3, g1, g2, g3, g4⟩ := hb x z b h1
    show (t (inj x) ⟨env, cs z⟩).bind _ = _
    rw [g1, Option.bind_some, g2.eq, Option.bind_some]
    cases hb1 : b.1 with
    | true =>
      rw [if_pos hb1] at h
      obtain ⟨y, h2, h⟩ := bs h
      obtain ⟨zs, h3, h⟩ := map_some_iff h
      cases h
      obtain ⟨rv, s4, k1, k2, k3⟩ := g4 hb1 y h2
      rw [if_pos rfl, k1.eq, Option.bind_some, k3, lcGo_S hb xs y.2 zs h3]
      simp [k2]
    | false =>
      rw [if_neg (by simp [hb1])] at h
      rw [if_neg (by simp), g3, lcGo_S hb xs b.2 ys h]
theorem E_lcS {α β τ : Type} (inj : α → D) (out : β → D) {p : α → τ → Option (Bool × τ)} {v : α → τ → Option (β × τ)} {cs : τ → List Cell} {xs : List α} {z : τ} {ys : List β × τ} {it : Ev (List D)} {cap vs : List Nat} {t : Tgt} {c : Ev Bool} {e : Ev RV} {env : List Slot}
    (hi : I it s (xs.map inj) s1) (hf : freezeCap cap s1 = s2) (henv : blkEnv vs s2.env = env) (hz : s2.st = cs z) (hs : (⟨s2.env, cs ys.2⟩ : Sg) = s') (hp : lcS p v xs z = some ys)
    (hb : ∀ x z b, p x z = some b → ∃ s2 s3, t (inj x) ⟨env, cs z⟩ = some s2 ∧ B c s2 b.1 s3 ∧ s3.st = cs b.2 ∧ (b.1 = true → ∀ y, v x b.2 = some y → ∃ rv s4, E e s3 rv s4 ∧ rv.d = out y.1 ∧ s4.st = cs y.2)) :
    E (evLc it cap vs t c e) s (.own (lC out ys.1)) s' := by
  have hst : s2.st = s1.st := by rw [← hf]; exact freezeCap_st cap s1
  have kf : Keep s1 s2 := by
    subst hf
    clear hi hb henv hst hz hs
    induction cap generalizing s1 with
    | nil => exact Keep.refl _
    | cons a cap ih =>
      refine Keep.trans ?_ (ih (s1 := leakSlot s1 a))
      intro j x hx
      unfold Has at hx ⊢
      unfold leakSlot
      split
      · rename_i d0 e0
        by_cases hj : a = j
        · subst hj
          rw [e0] at hx
          obtain ⟨hl, _⟩ := List.getElem?_eq_some_iff.mp e0
          show ((s1.env.set a _)[a]?).bind _ = _
          rw [List.getElem?_set_self hl]
          exact hx
        · show ((s1.env.set a _)[j]?).bind _ = _
          rw [List.getElem?_set_ne hj]; exact hx
      · exact hx
  unfold lcS at hp
  split at hp
  · rename_i hl
    subst hs
    refine ⟨?_, fun i d x => (hi.kp.trans kf) i d x⟩
    unfold evLc
    rw [hi.eq, Option.bind_some, if_pos (by simpa using hl)]
    show (evLcGo t c e (blkEnv vs (freezeCap cap s1).env) (xs.map inj) s1.st).map _ = _
    rw [hf, henv, ← hst, hz, lcGo_S hb xs z ys hp]
    rfl
  · cases hp
def S (ev : Ev Out) (s : Sg) (k : Out → Sg → Prop) : Prop := ∃ o s', ev s = some (o, s') ∧ k o s'
@[reducible] def sq (b : Ev Out) (k : Out → Sg → Prop) : Out → Sg → Prop := fun o s' => match o with
  | .nx => S b s' k
  | o => k o s'
variable {k : Out → Sg → Prop} {env' : List Slot}
theorem S_seq {a b : Ev Out} (h : S a s (sq b k)) : S (evSeq a b) s k := by
  obtain ⟨o, s', e, q⟩ := h
  cases o with
  | nx =>
    obtain ⟨o2, s2, e2, q2⟩ := q
    exact ⟨o2, s2, by unfold evSeq; rw [e, Option.bind_some]; exact e2, q2⟩
  | bk => exact ⟨.bk, s', by unfold evSeq; rw [e]; rfl, q⟩
  | ct => exact ⟨.ct, s', by unfold evSeq; rw [e]; rfl, q⟩
  | rt r => exact ⟨.rt r, s', by unfold evSeq; rw [e]; rfl, q⟩
theorem S_env {e : Ev Out} {env env' : List Slot} {st : List Cell} (he : env = env') (h : S e ⟨env', st⟩ k) : S e ⟨env, st⟩ k := by subst he; exact h
theorem S_pass (h : k .nx s) : S evPass s k := ⟨_, _, rfl, h⟩
theorem S_break (h : k .bk s) : S evBreak s k := ⟨_, _, rfl, h⟩
theorem S_cont (h : k .ct s) : S evCont s k := ⟨_, _, rfl, h⟩
theorem S_set {e : Ev RV} (h : E e s rv s1) (he : s1.env.set i rv.slot = env') (hk : k .nx ⟨env', s1.st⟩) : S (evSet i e) s k := ⟨_, _, by unfold evSet; rw [h.eq]; rfl, by subst he; exact hk⟩
theorem S_drop {e : Ev RV} (h : E e s rv s1) (hk : k .nx s1) : S (evDrop e) s k := ⟨_, _, by unfold evDrop; rw [h.eq]; rfl, hk⟩
theorem S_ret {e : Ev RV} (h : E e s rv s1) (hk : k (.rt rv) s1) : S (evRet e) s k := ⟨_, _, by unfold evRet; rw [h.eq]; rfl, hk⟩
theorem S_retN (hk : k (.rt (.fro .non)) s) : S evRetN s k := ⟨_, _, rfl, hk⟩
theorem S_retF (h : s.env[i]? = some (.fro d)) (hk : k (.rt (.fro d)) s) : S (evRetOwn i) s k := ⟨_, _, by unfold evRetOwn; rw [h], hk⟩
theorem S_retO (h : s.env[i]? = some (.own d)) (hk : k (.rt (.own d)) ⟨s.env.set i .non, s.st⟩) : S (evRetOwn i) s k := ⟨_, _, by unfold evRetOwn; rw [h], hk⟩
theorem S_retE {b : Bool} (h : s.env[i]? = some (eiS b d)) (hk : ∀ rv s2, rv.d = d → s2.st = s.st → k (.rt rv) s2) : S (evRetOwn i) s k := by
  cases b with
  | true =>
    have h : s.env[i]? = some (.own d) := h
    exact S_retO h (hk _ _ rfl rfl)
  | false =>
    have h : s.env[i]? = some (.fro d) := h
    exact S_retF h (hk _ _ rfl rfl)
theorem S_if {c : Ev Bool} {a e : Ev Out} (h : B c s b s1) (h1 : b = true → S a s1 k) (h2 : b = false → S e s1 k) : S (evIf c a e) s k := by
  cases b with
  | true =>
    obtain ⟨o, s', q1, q2⟩ := h1 rfl
    exact ⟨o, s', by unfold evIf; rw [h.eq]; exact q1, q2⟩
  | false =>
    obtain ⟨o, s', q1, q2⟩ := h2 rfl
    exact ⟨o, s', by unfold evIf; rw [h.eq]; exact q1, q2⟩
@[reducible] def jq {σ γ : Type} (mk : σ → γ → Sg) (v : σ) : Out → Sg → Prop := fun o s' => o = .nx ∧ ∃ g, s' = mk v g
theorem S_ifJ {σ γ : Type} (mk : σ → γ → Sg) {v : σ} {c : Ev Bool} {a e : Ev Out} (h : B c s b s1) (h1 : b = true → S a s1 (jq mk v)) (h2 : b = false → S e s1 (jq mk v)) (hk : ∀ g, k .nx (mk v g)) : S (evIf c a e) s k :=
  S_if h (fun hb => by obtain ⟨o, s', q1, rfl, g, rfl⟩ := h1 hb; exact ⟨_, _, q1, hk g⟩) (fun hb => by obtain ⟨o, s', q1, rfl, g, rfl⟩ := h2 hb; exact ⟨_, _, q1, hk g⟩)
theorem S_setC {e : Ev RV} (h : E e s (.own d) s1) {st' : List Cell} (he : s1.env.set i (.fro (.hd s1.st.length)) = env') (hs : s1.st ++ [.d d] = st') (hk : k .nx ⟨env', st'⟩) : S (evSetC i e) s k := ⟨_, _, by unfold evSetC; rw [h.eq, Option.bind_some], by subst he; subst hs; exact hk⟩
theorem S_asg {t : Tgt} {e : Ev RV} (h : E e s rv s1) (ht : t rv.d s1 = some s2) (hk : k .nx s2) : S (evAsg t e) s k := ⟨_, _, by unfold evAsg; rw [h.eq, Option.bind_some, ht]; rfl, hk⟩
theorem S_par {j : Nat} {e1 e2 : Ev RV} (h : E e1 s rv s1) (h' : E e2 s1 r s2) (he : (s2.env.set i rv.slot).set j r.slot = env') (hk : k .nx ⟨env', s2.st⟩) : S (evPar i j e1 e2) s k := ⟨_, _, by unfold evPar; rw [h.eq, Option.bind_some, h'.eq]; rfl, by subst he; exact hk⟩
/-- x[i] = v -/
theorem S_setI {f : D → D → D → Option D} {ti : Ev Bor} {tv : Ev RV} {di d' : D} (h : E tv s rv s1) (h2 : O ti s1 di s2) (hg : s1.env[i]? = some (.own da)) (ho : s2.env[i]? = some (.own d)) (hf : f d di rv.d = some d') (he : s2.env.set i (.own d') = env') (hk : k .nx ⟨env', s2.st⟩) : S (evSetI i f ti tv) s k := by
  obtain ⟨x, e1, f1⟩ := h2.ex
  refine ⟨_, _, ?_, hk⟩
  unfold evSetI
  rw [h.eq, Option.bind_some, show evSlot i s1 = some (.slot i, s1) by unfold evSlot; rw [hg], Option.bind_some, e1, Option.bind_some, f1 s2 (Keep.refl _), Option.bind_some, show ownAt s2 i = some d by unfold ownAt; rw [ho], Option.bind_some, hf]
  unfold setAt
  rw [ho]
  subst he
  rfl
/-- a method that changes an own slot -/
structure M (ev : Ev RV) (s : Sg) (d : D) (s' : Sg) : Prop where
  eq : ev s = some (.fro d, s')
theorem M_mut {T : String} {f : Mut1} {a : Ev (List D)} {ds : List D} {d' dr : D} (h0 : s.env[i]? = some (.own da)) (ht : tyD T da = true) (h : A a s ds s1) (h1 : s1.env[i]? = some (.own d)) (hf : f d ds = some (d', dr)) (he : s1.env.set i (.own d') = env') : M (evMut T i f a) s dr ⟨env', s1.st⟩ := ⟨by
  unfold evMut
  rw [show ownAt s i = some da by unfold ownAt; rw [h0], Option.bind_some, if_pos ht, h.eq, Option.bind_some, show ownAt s1 i = some d by unfold ownAt; rw [h1], Option.bind_some, hf]
  unfold setAt
  rw [h1]
  subst he
  rfl⟩
theorem S_dropM {e : Ev RV} (h : M e s d s1) (hk : k .nx s1) : S (evDrop e) s k := ⟨_, _, by unfold evDrop; rw [h.eq]; rfl, hk⟩
theorem S_setM {e : Ev RV} (h : M e s d s1) (he : s1.env.set i (.fro d) = env') (hk : k .nx ⟨env', s1.st⟩) : S (evSet i e) s k := ⟨_, _, by unfold evSet; rw [h.eq]; rfl, by subst he; exact hk⟩
theorem evFor_P {α σ γ : Type} {inj : α → D} {mk : σ → γ → Sg} {body : α → σ → Option σ} {t : Tgt} {b : Ev Out}
    (hb : ∀ x w w' g, body x w = some w' → ∃ s2, t (inj x) (mk w g) = some s2 ∧ S b s2 (fun o s' => (o = .nx ∨ o = .ct) ∧ ∃ g', s' = mk w' g')) : ∀ (xs : List α) (w w' : σ) (g : γ), forP body xs w = some w' → ∃ g', evFor t b (xs.map inj) (mk w g) = some (.nx, mk w' g')
  | [], w, w', g, h => by cases h; exact ⟨g, rfl⟩
  | x :: xs, w, w', g, h => by
    obtain ⟨w1, h1, h⟩ := bs h
    obtain ⟨s2, e1, o, s3, e2, ho, g1, rfl⟩ := hb x w w1 g h1
    obtain ⟨g', e3⟩ := evFor_P hb xs w1 w' g1 h
    refine ⟨g', ?_⟩
    show (t (inj x) (mk w g)).bind _ = _
    rw [e1, Option.bind_some, e2, Option.bind_some]
    rcases ho with rfl | rfl <;> exact e3
theorem S_for {α σ γ : Type} (inj : α → D) (mk : σ → γ → Sg) {xs : List α} {body : α → σ → Option σ} {v0 v : σ} (g0 : γ) {it : Ev (List D)} {t : Tgt} {b : Ev Out}
    (hi : I it s (xs.map inj) s1) (h0 : s1 = mk v0 g0) (hp : forP body xs v0 = some v)
    (hb : ∀ x w w' g, body x w = some w' → ∃ s2, t (inj x) (mk w g) = some s2 ∧ S b s2 (fun o s' => (o = .nx ∨ o = .ct) ∧ ∃ g', s' = mk w' g'))
    (hk : ∀ g, k .nx (mk v g)) : S (evForS it t b) s k := by
  obtain ⟨g', e⟩ := evFor_P hb xs v0 v g0 hp
  exact ⟨_, _, by unfold evForS; rw [hi.eq, Option.bind_some, h0]; exact e, hk g'⟩
/-- how a body of a loop with ways out ends -/
@[reducible] def cq {σ γ R : Type} (mk : σ → γ → Sg) (rr : R → RV → Sg → Prop) (c : Ctl σ R) : Out → Sg → Prop := fun o s' => match c with
  | .nx w => (o = .nx ∨ o = .ct) ∧ ∃ g', s' = mk w g'
  | .bk w => o = .bk ∧ ∃ g', s' = mk w g'
  | .rt r => ∃ rv, o = .rt rv ∧ rr r rv s'
def aft (t : Tgt) (b : Ev Out) (ds : List D) (s3 : Sg) : Out → Option (Out × Sg)
  | .nx => evFor t b ds s3
  | .ct => evFor t b ds s3
  | .bk => some (.nx, s3)
  | .rt r => some (.rt r, s3)
theorem evFor_next {t : Tgt} {b : Ev Out} {ds : List D} {o : Out} (e1 : t d s = some s2) (e2 : b s2 = some (o, s3)) (r) (hr : aft t b ds s3 o = r) : evFor t b (d :: ds) s = r := by
  subst hr
  show (t d s).bind _ = _
  rw [e1, Option.bind_some]
  show (b s2).bind _ = _
  rw [e2, Option.bind_some]
  cases o <;> rfl
theorem evFor_C {α σ γ R : Type} {inj : α → D} {mk : σ → γ → Sg} {rr : R → RV → Sg → Prop} {body : α → σ → Option (Ctl σ R)} {t : Tgt} {b : Ev Out}
    (hb : ∀ x w c g, body x w = some c → ∃ s2, t (inj x) (mk w g) = some s2 ∧ S b s2 (cq mk rr c)) : ∀ (xs : List α) (w : σ) (c : R ⊕ σ) (g : γ), forC body xs w = some c →
      (∀ r, c = .inl r → ∃ rv s', evFor t b (xs.map inj) (mk w g) = some (.rt rv, s') ∧ rr r rv s') ∧ (∀ w', c = .inr w' → ∃ g', evFor t b (xs.map inj) (mk w g) = some (.nx, mk w' g'))
  | [], w, c, g, h => by
    cases h
    constructor
    · intro r h; cases h
    · intro w' h; cases h; exact ⟨g, rfl⟩
  | x :: xs, w, c, g, h => by
    obtain ⟨c1, h1, h⟩ := bs h
    obtain ⟨s2, e1, o, s3, e2, q⟩ := hb x w c1 g h1
    have ef := evFor_next (t := t) (b := b) (ds := xs.map inj) e1 e2
    clear e2
    cases c1 with
    | nx w1 =>
      obtain ⟨ho, g1, rfl⟩ := q
      have ih := evFor_C hb xs w1 c g1 h
      constructor
      · intro r hr
        obtain ⟨rv, s', e, q⟩ := ih.1 r hr
        exact ⟨rv, s', ef _ (by rcases ho with rfl | rfl <;> exact e), q⟩
      · intro r hr
        obtain ⟨g', e⟩ := ih.2 r hr
        exact ⟨g', ef _ (by rcases ho with rfl | rfl <;> exact e)⟩
    | bk w1 =>
      obtain ⟨rfl, g1, rfl⟩ := q
      cases h
      constructor
      · intro r h; cases h
      · intro w' h; cases h; exact ⟨g1, ef _ rfl⟩
    | rt r1 =>
      obtain ⟨rv, rfl, q⟩ := q
      cases h
      constructor
      · intro r h; cases h; exact ⟨rv, s3, ef _ rfl, q⟩
      · intro w' h; cases h
theorem S_forC {α σ γ R : Type} (inj : α → D) (mk : σ → γ → Sg) (rr : R → RV → Sg → Prop) {xs : List α} {body : α → σ → Option (Ctl σ R)} {v0 : σ} {c : R ⊕ σ} (g0 : γ) {it : Ev (List D)} {t : Tgt} {b : Ev Out}
    (hi : I it s (xs.map inj) s1) (h0 : s1 = mk v0 g0) (hp : forC body xs v0 = some c)
    (hb : ∀ x w c g, body x w = some c → ∃ s2, t (inj x) (mk w g) = some s2 ∧ S b s2 (cq mk rr c))
    (hr : ∀ r rv s', c = .inl r → rr r rv s' → k (.rt rv) s') (hk : ∀ w g, c = .inr w → k .nx (mk w g)) : S (evForS it t b) s k := by
  have q := evFor_C hb xs v0 c g0 hp
  cases c with
  | inl r =>
    obtain ⟨rv, s', e, q⟩ := q.1 r rfl
    exact ⟨_, _, by unfold evForS; rw [hi.eq, Option.bind_some, h0]; exact e, hr r rv s' rfl q⟩
  | inr w =>
    obtain ⟨g', e⟩ := q.2 w rfl
    exact ⟨_, _, by unfold evForS; rw [hi.eq, Option.bind_some, h0]; exact e, hk w g' rfl⟩
theorem evWhN_P {σ γ : Type} {mk : σ → γ → Sg} {p : σ → Option Bool} {body : σ → Option σ} {c : Ev Bool} {b : Ev Out}
    (hc : ∀ w g x, p w = some x → B c (mk w g) x (mk w g)) (hb : ∀ w w' g, body w = some w' → S b (mk w g) (fun o s' => (o = .nx ∨ o = .ct) ∧ ∃ g', s' = mk w' g')) : ∀ (n : Nat) (w w' : σ) (g : γ), whP p body n w = some w' → ∃ g', evWhN c b n (mk w g) = some (.nx, mk w' g')
  | 0, w, w', g, h => by cases h
  | n + 1, w, w', g, h => by
    obtain ⟨x, h1, h⟩ := bs h
    have e1 := (hc w g x h1).eq
    cases x with
    | false =>
      rw [if_neg (by simp)] at h
      cases h
      exact ⟨g, by show (c (mk w g)).bind _ = _; rw [e1]; rfl⟩
    | true =>
      rw [if_pos rfl] at h
      obtain ⟨w1, h2, h⟩ := bs h
      obtain ⟨o, s3, e2, ho, g1, rfl⟩ := hb w w1 g h2
      obtain ⟨g', e3⟩ := evWhN_P hc hb n w1 w' g1 h
      refine ⟨g', ?_⟩
      show (c (mk w g)).bind _ = _
      rw [e1, Option.bind_some, if_pos rfl, e2, Option.bind_some]
      rcases ho with rfl | rfl <;> exact e3
theorem S_wh {σ γ : Type} (mk : σ → γ → Sg) {p : σ → Option Bool} {body : σ → Option σ} {v0 v : σ} {n : Nat} (g0 : γ) {c : Ev Bool} {b : Ev Out} (h0 : s = mk v0 g0) (hp : whP p body n v0 = some v)
    (hc : ∀ w g x, p w = some x → B c (mk w g) x (mk w g)) (hb : ∀ w w' g, body w = some w' → S b (mk w g) (fun o s' => (o = .nx ∨ o = .ct) ∧ ∃ g', s' = mk w' g')) (hk : ∀ g, k .nx (mk v g)) : S (evWh c b) s k := by
  obtain ⟨g', e⟩ := evWhN_P hc hb n v0 v g0 hp
  exact ⟨_, _, by rw [h0]; exact evWh_of e, hk g'⟩
@[reducible] def fq (st : List Cell) (d : D) : Out → Sg → Prop := fun o s' => ∃ rv, o = .rt rv ∧ rv.d = d ∧ s'.st = st
@[reducible] def fqR (st : List Cell) (r : RV) : Out → Sg → Prop := fun o s' => o = .rt r ∧ s'.st = st
theorem fn_R {N Pn : Nat} {ev : Ev Out} {ds : List D} {st st' : List Cell} (hl : ds.length = Pn) (h : S ev ⟨ds.map Slot.fro ++ List.replicate (N - ds.length) Slot.non, st⟩ (fqR st' r)) : fnM N Pn ev ds st = some (r, st') := by
  obtain ⟨o, s', e, rfl, rfl⟩ := h
  unfold fnM
  rw [if_pos hl, e]
theorem fn_D {N Pn : Nat} {ev : Ev Out} {ds : List D} {st st' : List Cell} (hl : ds.length = Pn) (h : S ev ⟨ds.map Slot.fro ++ List.replicate (N - ds.length) Slot.non, st⟩ (fq st' d)) : ∃ rv, fnM N Pn ev ds st = some (rv, st') ∧ rv.d = d := by
  obtain ⟨o, s', e, rv, rfl, hd, rfl⟩ := h
  refine ⟨rv, ?_, hd⟩
  unfold fnM
  rw [if_pos hl, e]
end
end Pv

namespace Pv
open PySem PySem.Spec L2
local instance noTabsTo_1 : TabL := ⟨[]⟩
class Eqy {α : Type} [DecidableEq α] (f : α → D) where
  k : Nat
  ok : ∀ a m, k ≤ m → eqOk m (f a) = true
  eq : ∀ a b, deq (f a) (f b) = decide (a = b)
class Nn {α : Type} (f : α → D) : Prop where
  l : ∀ a, deq (f a) .non = false
  r : ∀ a, deq .non (f a) = false
  n : ∀ a, f a ≠ .non
instance : Eqy nD := ⟨0, fun a m _ => by cases m <;> rfl, fun a b => by simp [nD]; omega⟩
instance : Eqy D.int := ⟨0, fun a m _ => by cases m <;> rfl, fun a b => by simp⟩
instance : Eqy D.bl := ⟨0, fun a m _ => by cases m <;> rfl, fun a b => by simp⟩
instance : Eqy uC := ⟨0, fun a m _ => by cases m <;> rfl, fun a b => by simp [uC]⟩
instance : Nn nD := ⟨fun a => deq_int_non _, fun a => deq_non_int _, fun a h => by cases h⟩
instance : Nn D.int := ⟨fun a => deq_int_non _, fun a => deq_non_int _, fun a h => by cases h⟩
instance {α : Type} (f : α → D) : Nn (lC f) := ⟨fun a => deq_lst_non _, fun a => deq_non_lst _, fun a h => by cases h⟩
instance {α : Type} (f : α → D) : Nn (tC f) := ⟨fun a => deq_tup_non _, fun a => deq_non_tup _, fun a h => by cases h⟩
instance {α β : Type} (f : α → D) (g : β → D) : Nn (p2 f g) := ⟨fun a => deq_tup_non _, fun a => deq_non_tup _, fun a h => by cases h⟩
instance {α β γ : Type} (f : α → D) (g : β → D) (h : γ → D) : Nn (p3 f g h) := ⟨fun a => deq_tup_non _, fun a => deq_non_tup _, fun a h => by cases h⟩
instance {α β γ δ : Type} (f : α → D) (g : β → D) (h : γ → D) (k : δ → D) : Nn (p4 f g h k) := ⟨fun a => deq_tup_non _, fun a => deq_non_tup _, fun a h => by cases h⟩
instance : Nn webD := ⟨fun a => deq_tup_non _, fun a => deq_non_tup _, fun a h => by cases h⟩
instance : Nn rdD := ⟨fun a => deq_tup_non _, fun a => deq_non_tup _, fun a h => by cases h⟩
section
variable {α β γ δ : Type} [DecidableEq α] [DecidableEq β] [DecidableEq γ] [DecidableEq δ] {f : α → D} {g : β → D}
theorem deqAll_map (e : Eqy f) : ∀ xs ys : List α, deqAll (xs.map f) (ys.map f) = decide (xs = ys)
  | [], [] => rfl
  | x :: xs, [] => by simp [deqAll]
  | [], y :: ys => by simp [deqAll]
  | x :: xs, y :: ys => by simp [deqAll, deqAll_map e xs ys, e.eq]
theorem allOk_map (e : Eqy f) (xs : List α) {m : Nat} (h : e.k ≤ m) : (xs.map f).all (eqOk m) = true := by
  rw [List.all_eq_true]
  rintro _ hx
  obtain ⟨a, _, rfl⟩ := List.mem_map.mp hx
  exact e.ok a m h
instance [e : Eqy f] : Eqy (lC f) := ⟨e.k + 1, fun a m h => by
  cases m with
  | zero => omega
  | succ m => exact allOk_map e a (by omega), fun a b => by rw [lC, lC, deq_lst, deqAll_map e]⟩
instance [e : Eqy f] : Eqy (tC f) := ⟨e.k + 1, fun a m h => by
  cases m with
  | zero => omega
  | succ m => exact allOk_map e a (by omega), fun a b => by rw [tC, tC, deq_tup, deqAll_map e]⟩
instance [e : Eqy f] [n : Nn f] : Eqy (oC f) := ⟨e.k, fun a m h => by
  cases a with
  | none => cases m <;> rfl
  | some a => exact e.ok a m h, fun a b => by
  cases a with
  | none => cases b with
    | none => simp [oC]
    | some b => simp [oC, n.r]
  | some a => cases b with
    | none => simp [oC, n.l]
    | some b => simp [oC, e.eq]⟩
instance [e : Eqy f] [e2 : Eqy g] : Eqy (p2 f g) := ⟨e.k + e2.k + 1, fun a m h => by
  cases m with
  | zero => omega
  | succ m =>
    have h1 := e.ok a.1 m (by omega)
    have h2 := e2.ok a.2 m (by omega)
    show [f a.1, g a.2].all (eqOk m) = true
    simp [h1, h2], fun a b => by
  simp [p2, deqAll, e.eq, e2.eq, Prod.ext_iff]⟩
instance [e : Eqy f] [e2 : Eqy g] : Eqy (h2 f g) := ⟨e.k + e2.k + 1, fun a m h => by
  cases m with
  | zero => omega
  | succ m =>
    have h1 := e.ok a.1 m (by omega)
    have h2 := e2.ok a.2 m (by omega)
    show [f a.1, g a.2].all (eqOk m) = true
    simp [h1, h2], fun a b => by
  simp [h2, deqAll, e.eq, e2.eq, Prod.ext_iff]⟩
instance {h : γ → D} [e : Eqy f] [e2 : Eqy g] [e3 : Eqy h] : Eqy (p3 f g h) := ⟨e.k + e2.k + e3.k + 1, fun a m hm => by
  cases m with
  | zero => omega
  | succ m =>
    have h1 := e.ok a.1 m (by omega)
    have h2 := e2.ok a.2.1 m (by omega)
    have h3 := e3.ok a.2.2 m (by omega)
    show [f a.1, g a.2.1, h a.2.2].all (eqOk m) = true
    simp [h1, h2, h3], fun a b => by
  simp [p3, deqAll, e.eq, e2.eq, e3.eq, Prod.ext_iff]⟩
instance {h : γ → D} {k : δ → D} [e : Eqy f] [e2 : Eqy g] [e3 : Eqy h] [e4 : Eqy k] : Eqy (p4 f g h k) := ⟨e.k + e2.k + e3.k + e4.k + 1, fun a m hm => by
  cases m with
  | zero => omega
  | succ m =>
    have h1 := e.ok a.1 m (by omega)
    have h2 := e2.ok a.2.1 m (by omega)
    have h3 := e3.ok a.2.2.1 m (by omega)
    have h4 := e4.ok a.2.2.2 m (by omega)
    show [f a.1, g a.2.1, h a.2.2.1, k a.2.2.2].all (eqOk m) = true
    simp [h1, h2, h3, h4], fun a b => by
  simp [p4, deqAll, e.eq, e2.eq, e3.eq, e4.eq, Prod.ext_iff]⟩
end
instance : DecidableEq Rd := fun x y => decidable_of_iff (x.a = y.a ∧ x.b = y.b ∧ x.lo = y.lo ∧ x.hi = y.hi) (by cases x; cases y; simp)
instance : DecidableEq Web := fun x y => decidable_of_iff (x.n = y.n ∧ x.rs = y.rs) (by cases x; cases y; simp)
instance : Eqy rdD := ⟨1, fun a m h => by
  cases m with
  | zero => omega
  | succ m =>
    have h0 : ∀ i : Int, eqOk m (.int i) = true := fun i => by cases m <;> rfl
    show [D.int a.a, .int a.b, .int a.lo, .int a.hi].all (eqOk m) = true
    simp [h0], fun a b => by
  cases a; cases b; simp [rdD, deqAll, Int.ofNat_inj]⟩
instance : Eqy webD := ⟨3, fun a m h => by
  cases m with
  | zero => omega
  | succ m =>
    cases m with
    | zero => omega
    | succ m =>
      have h0 : eqOk (m + 1) (.int a.n) = true := rfl
      have h1 : eqOk (m + 1) (.tup (a.rs.map rdD)) = true := allOk_map (f := rdD) inferInstance a.rs (by show 1 ≤ m; omega)
      show [D.int a.n, .tup (a.rs.map rdD)].all (eqOk (m + 1)) = true
      simp [h0, h1], fun a b => by
  have := deqAll_map (f := rdD) inferInstance a.rs b.rs
  cases a; cases b
  simp at this
  simp [webD, deqAll, this, Int.ofNat_inj]⟩
section
variable {α β : Type} {f : α → D} {g : β → D}
section
variable [DecidableEq α]
theorem dEq_gen (a b : D) : dEq a b = if (eqOk 50 a && eqOk 50 b) = true then some (.fro (.bl (deq a b))) else dEq a b := by
  split
  · rename_i h
    unfold dEq
    split
    · rename_i x y
      have : deq (.str x) (.str y) = decide (x = y) := by simp [deq, py, PyData.eqv]; rfl
      rw [this]
    · rw [if_pos h]
  · rfl
theorem dNe_gen (a b : D) : dNe a b = if (eqOk 50 a && eqOk 50 b) = true then some (.fro (.bl (!deq a b))) else dNe a b := by
  split
  · rename_i h
    unfold dNe
    split
    · rename_i x y
      have : deq (.str x) (.str y) = decide (x = y) := by simp [deq, py, PyData.eqv]; rfl
      rw [this]
    · rw [if_pos h]
  · rfl
theorem o_eq [e : Eqy f] (a b : α) (h : e.k ≤ 50 := by decide) : dEq (f a) (f b) = some (.fro (.bl (decide (a = b)))) := by
  rw [dEq_gen, if_pos (by rw [e.ok a 50 h, e.ok b 50 h]; rfl), e.eq]
theorem o_ne [e : Eqy f] (a b : α) (h : e.k ≤ 50 := by decide) : dNe (f a) (f b) = some (.fro (.bl (decide (a ≠ b)))) := by
  rw [dNe_gen, if_pos (by rw [e.ok a 50 h, e.ok b 50 h]; rfl), e.eq]
  simp
theorem any_map [e : Eqy f] (x : α) (ys : List α) : (ys.map f).any (fun z => deq z (f x)) = decide (x ∈ ys) := by
  rw [Bool.eq_iff_iff]
  simp only [List.any_eq_true, List.mem_map, decide_eq_true_eq]
  constructor
  · rintro ⟨_, ⟨a, ha, rfl⟩, h⟩
    rw [e.eq, decide_eq_true_eq] at h
    exact h ▸ ha
  · exact fun h => ⟨_, ⟨x, h, rfl⟩, by rw [e.eq]; simp⟩
theorem o_inL0 [e : Eqy f] (x : α) (ys : List α) (h : e.k ≤ 49 := by decide) : dIn (f x) (lC f ys) = some (.fro (.bl (decide (x ∈ ys)))) := by
  have h1 := e.ok x 49 h
  have h2 := allOk_map e ys h
  simp only [dIn, lC, isIn, h1, h2, any_map, Bool.and_self, if_true, Option.map_some]
theorem o_inL [e : Eqy f] (x : α) (ys : List α) [dec : Decidable (x ∈ ys)] (h : e.k ≤ 49 := by decide) : dIn (f x) (lC f ys) = some (.fro (.bl (decide (x ∈ ys)))) := (o_inL0 x ys h).trans (congrArg (fun b => some (RV.fro (.bl b))) (decide_eq_decide.mpr Iff.rfl))
theorem o_inT [e : Eqy f] (x : α) (ys : List α) [dec : Decidable (x ∈ ys)] (h : e.k ≤ 49 := by decide) : dIn (f x) (tC f ys) = some (.fro (.bl (decide (x ∈ ys)))) := o_inL x ys h
theorem o_ninL0 [e : Eqy f] (x : α) (ys : List α) (h : e.k ≤ 49 := by decide) : dNotIn (f x) (lC f ys) = some (.fro (.bl (decide (x ∉ ys)))) := by
  have h1 := e.ok x 49 h
  have h2 := allOk_map e ys h
  simp only [dNotIn, lC, isIn, h1, h2, any_map, Bool.and_self, if_true, Option.map_some]
  simp
theorem o_ninL [e : Eqy f] (x : α) (ys : List α) [dec : Decidable (x ∉ ys)] (h : e.k ≤ 49 := by decide) : dNotIn (f x) (lC f ys) = some (.fro (.bl (decide (x ∉ ys)))) := (o_ninL0 x ys h).trans (congrArg (fun b => some (RV.fro (.bl b))) (decide_eq_decide.mpr Iff.rfl))
theorem o_ninT [e : Eqy f] (x : α) (ys : List α) [dec : Decidable (x ∉ ys)] (h : e.k ≤ 49 := by decide) : dNotIn (f x) (tC f ys) = some (.fro (.bl (decide (x ∉ ys)))) := o_ninL x ys h
/-- an optional thing in a list -/
def omem (x : Option α) (ys : List α) : Bool := match x with
  | some a => decide (a ∈ ys)
  | none => false
theorem o_inLo [e : Eqy f] [n : Nn f] (x : Option α) (ys : List α) (h : e.k ≤ 49 := by decide) : dIn (oC f x) (lC f ys) = some (.fro (.bl (omem x ys))) := by
  cases x with
  | some a => exact o_inL a ys h
  | none =>
    have h2 := allOk_map e ys h
    have h3 : (ys.map f).any (fun z => deq z .non) = false := by
      rw [List.any_eq_false]
      rintro _ hx
      obtain ⟨a, _, rfl⟩ := List.mem_map.mp hx
      simp [n.l]
    show (if (eqOk 49 .non && (ys.map f).all (eqOk 49)) = true then some ((ys.map f).any fun z => deq z .non) else none).map _ = _
    rw [h2, h3]
    rfl
theorem o_ninLo [e : Eqy f] [n : Nn f] (x : Option α) (ys : List α) (h : e.k ≤ 49 := by decide) : dNotIn (oC f x) (lC f ys) = some (.fro (.bl (!omem x ys))) := by
  have := o_inLo (f := f) x ys h
  unfold dIn at this
  unfold dNotIn
  obtain ⟨b, h1, h2⟩ := map_some_iff this
  rw [h1]
  cases h2
  rfl
theorem o_inTo [e : Eqy f] [n : Nn f] (x : Option α) (ys : List α) (h : e.k ≤ 49 := by decide) : dIn (oC f x) (tC f ys) = some (.fro (.bl (omem x ys))) := o_inLo x ys h
theorem o_ninTo [e : Eqy f] [n : Nn f] (x : Option α) (ys : List α) (h : e.k ≤ 49 := by decide) : dNotIn (oC f x) (tC f ys) = some (.fro (.bl (!omem x ys))) := o_ninLo x ys h
end
theorem o_isN [n : Nn f] (x : Option α) : dIs (oC f x) .non = some (.fro (.bl x.isNone)) := by
  cases x with
  | none => rfl
  | some a =>
    have h := n.n a
    show dIs (f a) .non = _
    cases hf : f a <;> first | rfl | exact absurd hf h
theorem o_isnN [n : Nn f] (x : Option α) : dIsNot (oC f x) .non = some (.fro (.bl x.isSome)) := by
  cases x with
  | none => rfl
  | some a =>
    have h := n.n a
    show dIsNot (f a) .non = _
    cases hf : f a <;> first | rfl | exact absurd hf h
/-- lists no longer than a million, all through -/
def shortD : Nat → D → Bool
  | n + 1, .tup xs => decide (xs.length ≤ 1000000) && xs.all (shortD n)
  | n + 1, .lst xs => decide (xs.length ≤ 1000000) && xs.all (shortD n)
  | 0, .tup _ => false
  | 0, .lst _ => false
  | _, .dct _ _ => false
  | _, .hd _ => false
  | _, .scr _ => false
  | _, _ => true
/-- equal, and no great lists -/
def sameP {α : Type} [DecidableEq α] (f : α → D) (a b : α) : Option Bool := if a = b ∧ shortD 4 (f a) = true then some true else none
theorem o_addN (a b : Nat) : dAdd (nD a) (nD b) = some (.fro (nD (a + b))) := rfl
theorem o_addI (a b : Int) : dAdd (.int a) (.int b) = some (.fro (.int (a + b))) := rfl
theorem o_subI (a b : Int) : dSub (.int a) (.int b) = some (.fro (.int (a - b))) := rfl
theorem o_ltN (a b : Nat) : dLt (nD a) (nD b) = some (.fro (.bl (decide (a < b)))) := by
  show some (RV.fro (.bl (decide ((a : Int) < b)))) = _
  simp
theorem o_leN (a b : Nat) : dLe (nD a) (nD b) = some (.fro (.bl (decide (a ≤ b)))) := by
  show some (RV.fro (.bl (decide ((a : Int) ≤ b)))) = _
  simp
theorem o_gtN (a b : Nat) : dGt (nD a) (nD b) = some (.fro (.bl (decide (b < a)))) := by
  show some (RV.fro (.bl (decide ((b : Int) < a)))) = _
  simp
theorem o_geN (a b : Nat) : dGe (nD a) (nD b) = some (.fro (.bl (decide (b ≤ a)))) := by
  show some (RV.fro (.bl (decide ((b : Int) ≤ a)))) = _
  simp
theorem o_ltI (a b : Int) : dLt (.int a) (.int b) = some (.fro (.bl (decide (a < b)))) := rfl
theorem o_leI (a b : Int) : dLe (.int a) (.int b) = some (.fro (.bl (decide (a ≤ b)))) := rfl
theorem o_gtI (a b : Int) : dGt (.int a) (.int b) = some (.fro (.bl (decide (b < a)))) := rfl
theorem o_geI (a b : Int) : dGe (.int a) (.int b) = some (.fro (.bl (decide (b ≤ a)))) := rfl
theorem E_neg {a : Ev Bor} {s s1 : Sg} {i : Int} (h : O a s (.int i) s1) : E (evNeg a) s (.fro (.int (-i))) s1 := by
  obtain ⟨x, e1, f1⟩ := h.ex
  refine ⟨?_, h.kp⟩
  unfold evNeg
  rw [e1, Option.bind_some, f1 s1 (Keep.refl _)]
theorem o_minN0 (a b : Nat) : dMin [nD a, nD b] = some (.fro (nD (min a b))) := by
  show some (RV.fro (.int (min (a : Int) b))) = _
  rw [show min (a : Int) b = ((min a b : Nat) : Int) by omega]; rfl
theorem o_maxN0 (a b : Nat) : dMax [nD a, nD b] = some (.fro (nD (max a b))) := by
  show some (RV.fro (.int (max (a : Int) b))) = _
  rw [show max (a : Int) b = ((max a b : Nat) : Int) by omega]; rfl
theorem o_minI0 (a b : Int) : dMin [.int a, .int b] = some (.fro (.int (min a b))) := rfl
theorem o_maxI0 (a b : Int) : dMax [.int a, .int b] = some (.fro (.int (max a b))) := rfl
theorem intsOf_int : ∀ xs : List Int, intsOf (xs.map .int) = some xs
  | [] => rfl
  | x :: xs => by simp [intsOf, intsOf_int xs]
theorem intsOf_nD (xs : List Nat) : intsOf (xs.map nD) = some (xs.map fun x : Nat => (x : Int)) := by
  rw [nD_ints, intsOf_int]
theorem sum_cast : ∀ xs : List Nat, (xs.map fun x : Nat => (x : Int)).sum = (xs.sum : Nat)
  | [] => rfl
  | x :: xs => by rw [List.map_cons, List.sum_cons, sum_cast xs, List.sum_cons]; omega
theorem o_sumN (xs : List Nat) : dSum [lC nD xs] = some (.fro (nD xs.sum)) := by
  simp only [dSum, lC, intsOf_nD, Option.map_some, sum_cast]; rfl
theorem o_sumI (xs : List Int) : dSum [lC .int xs] = some (.fro (.int xs.sum)) := by
  simp only [dSum, lC, intsOf_int, Option.map_some]
def minP (xs : List Int) : Option Int := if xs.isEmpty then none else some (lMin xs)
def maxP (xs : List Int) : Option Int := if xs.isEmpty then none else some (lMax xs)
theorem o_minLI0 {xs : List Int} {m : Int} (h : minP xs = some m) : dMin [lC .int xs] = some (.fro (.int m)) := by
  unfold minP at h
  simp only [dMin, lC, intsOf_int, Option.bind_some]
  split at h
  · cases h
  · rename_i hx; cases h; rw [if_neg hx]
theorem o_maxLI0 {xs : List Int} {m : Int} (h : maxP xs = some m) : dMax [lC .int xs] = some (.fro (.int m)) := by
  unfold maxP at h
  simp only [dMax, lC, intsOf_int, Option.bind_some]
  split at h
  · cases h
  · rename_i hx; cases h; rw [if_neg hx]
class IsT {α : Type} (f : α → D) : Prop where
  t : ∀ a, ∃ l, f a = .tup l
instance {α β : Type} (f : α → D) (g : β → D) : IsT (p2 f g) := ⟨fun a => ⟨_, rfl⟩⟩
instance {α β γ : Type} (f : α → D) (g : β → D) (h : γ → D) : IsT (p3 f g h) := ⟨fun a => ⟨_, rfl⟩⟩
instance {α : Type} (f : α → D) : IsT (tC f) := ⟨fun a => ⟨_, rfl⟩⟩
def ltBy {α : Type} (f : α → D) (a b : α) : Bool := PySem.W.dataLt (py (f a)) (py (f b))
def minBy {α : Type} (f : α → D) (x : α) (xs : List α) : α := xs.foldl (fun a y => if ltBy f y a = true then y else a) x
def maxBy {α : Type} (f : α → D) (x : α) (xs : List α) : α := xs.foldl (fun a y => if ltBy f a y = true then y else a) x
def minByP {α : Type} (f : α → D) (xs : List α) : Option α := match xs with
  | [] => none
  | x :: xs => if mmOk ((x :: xs).map f) = true then some (minBy f x xs) else none
def maxByP {α : Type} (f : α → D) (xs : List α) : Option α := match xs with
  | [] => none
  | x :: xs => if mmOk ((x :: xs).map f) = true then some (maxBy f x xs) else none
theorem minDD_map {α : Type} (f : α → D) : ∀ (xs : List α) (x : α), minDD (f x) (xs.map f) = f (minBy f x xs)
  | [], x => rfl
  | y :: xs, x => by
    show minDD (if PySem.W.dataLt (py (f y)) (py (f x)) = true then f y else f x) (xs.map f) = f (minBy f (if ltBy f y x = true then y else x) xs)
    rw [← minDD_map f xs]
    unfold ltBy
    split <;> rfl
theorem maxDD_map {α : Type} (f : α → D) : ∀ (xs : List α) (x : α), maxDD (f x) (xs.map f) = f (maxBy f x xs)
  | [], x => rfl
  | y :: xs, x => by
    show maxDD (if PySem.W.dataLt (py (f x)) (py (f y)) = true then f y else f x) (xs.map f) = f (maxBy f (if ltBy f x y = true then y else x) xs)
    rw [← maxDD_map f xs]
    unfold ltBy
    split <;> rfl
theorem o_minBy {α : Type} {f : α → D} [it : IsT f] {xs : List α} {m : α} (h : minByP f xs = some m) : dMinA [lC f xs] = some (.fro (f m)) := by
  cases xs with
  | nil => cases h
  | cons x xs =>
    have h : (if mmOk ((x :: xs).map f) = true then some (minBy f x xs) else none) = some m := h
    split at h
    · rename_i hk
      have := Option.some.inj h
      subst this
      obtain ⟨l, e⟩ := it.t x
      have e0 : dMin [lC f (x :: xs)] = none := by
        show (intsOf (f x :: xs.map f)).bind _ = none
        rw [e]; rfl
      unfold dMinA
      rw [e0]
      show (if mmOk ((x :: xs).map f) = true then some (RV.fro (minDD (f x) (xs.map f))) else none) = _
      rw [if_pos hk, minDD_map]
    · cases h
theorem o_maxBy {α : Type} {f : α → D} [it : IsT f] {xs : List α} {m : α} (h : maxByP f xs = some m) : dMaxA [lC f xs] = some (.fro (f m)) := by
  cases xs with
  | nil => cases h
  | cons x xs =>
    have h : (if mmOk ((x :: xs).map f) = true then some (maxBy f x xs) else none) = some m := h
    split at h
    · rename_i hk
      have := Option.some.inj h
      subst this
      obtain ⟨l, e⟩ := it.t x
      have e0 : dMax [lC f (x :: xs)] = none := by
        show (intsOf (f x :: xs.map f)).bind _ = none
        rw [e]; rfl
      unfold dMaxA
      rw [e0]
      show (if mmOk ((x :: xs).map f) = true then some (RV.fro (maxDD (f x) (xs.map f))) else none) = _
      rw [if_pos hk, maxDD_map]
    · cases h
def lMinN : List Nat → Nat
  | [] => 0
  | [x] => x
  | x :: xs => min x (lMinN xs)
def lMaxN : List Nat → Nat
  | [] => 0
  | [x] => x
  | x :: xs => max x (lMaxN xs)
theorem lMin_cast : ∀ xs : List Nat, lMin (xs.map fun x : Nat => (x : Int)) = (lMinN xs : Nat)
  | [] => rfl
  | [x] => rfl
  | x :: y :: xs => by
    have := lMin_cast (y :: xs)
    show min (x : Int) (lMin ((y :: xs).map fun x : Nat => (x : Int))) = ((min x (lMinN (y :: xs)) : Nat) : Int)
    rw [this]; omega
theorem lMax_cast : ∀ xs : List Nat, lMax (xs.map fun x : Nat => (x : Int)) = (lMaxN xs : Nat)
  | [] => rfl
  | [x] => rfl
  | x :: y :: xs => by
    have := lMax_cast (y :: xs)
    show max (x : Int) (lMax ((y :: xs).map fun x : Nat => (x : Int))) = ((max x (lMaxN (y :: xs)) : Nat) : Int)
    rw [this]; omega
def minNP (xs : List Nat) : Option Nat := if xs.isEmpty then none else some (lMinN xs)
def maxNP (xs : List Nat) : Option Nat := if xs.isEmpty then none else some (lMaxN xs)
theorem o_minLN0 {xs : List Nat} {m : Nat} (h : minNP xs = some m) : dMin [lC nD xs] = some (.fro (nD m)) := by
  unfold minNP at h
  split at h
  · cases h
  · rename_i hx
    cases h
    simp only [dMin, lC, intsOf_nD, Option.bind_some, lMin_cast]
    rw [if_neg (by simpa using hx)]
    rfl
theorem o_maxLN0 {xs : List Nat} {m : Nat} (h : maxNP xs = some m) : dMax [lC nD xs] = some (.fro (nD m)) := by
  unfold maxNP at h
  split at h
  · cases h
  · rename_i hx
    cases h
    simp only [dMax, lC, intsOf_nD, Option.bind_some, lMax_cast]
    rw [if_neg (by simpa using hx)]
    rfl
theorem o_minN (a b : Nat) : dMinA [nD a, nD b] = some (.fro (nD (min a b))) := minA_of (o_minN0 a b)
theorem o_maxN (a b : Nat) : dMaxA [nD a, nD b] = some (.fro (nD (max a b))) := maxA_of (o_maxN0 a b)
theorem o_minI (a b : Int) : dMinA [.int a, .int b] = some (.fro (.int (min a b))) := minA_of (o_minI0 a b)
theorem o_maxI (a b : Int) : dMaxA [.int a, .int b] = some (.fro (.int (max a b))) := maxA_of (o_maxI0 a b)
theorem o_minLI {xs : List Int} {m : Int} (h : minP xs = some m) : dMinA [lC .int xs] = some (.fro (.int m)) := minA_of (o_minLI0 h)
theorem o_maxLI {xs : List Int} {m : Int} (h : maxP xs = some m) : dMaxA [lC .int xs] = some (.fro (.int m)) := maxA_of (o_maxLI0 h)
theorem o_minLN {xs : List Nat} {m : Nat} (h : minNP xs = some m) : dMinA [lC nD xs] = some (.fro (nD m)) := minA_of (o_minLN0 h)
theorem o_maxLN {xs : List Nat} {m : Nat} (h : maxNP xs = some m) : dMaxA [lC nD xs] = some (.fro (nD m)) := maxA_of (o_maxLN0 h)
theorem blsOf_bl : ∀ xs : List Bool, blsOf (xs.map .bl) = some xs
  | [] => rfl
  | x :: xs => by simp [blsOf, blsOf_bl xs]
theorem o_all (xs : List Bool) : dAll [lC .bl xs] = some (.fro (.bl (xs.all id))) := by
  simp only [dAll, lC, blsOf_bl, Option.map_some]
theorem o_any (xs : List Bool) : dAny [lC .bl xs] = some (.fro (.bl (xs.any id))) := by
  simp only [dAny, lC, blsOf_bl, Option.map_some]
theorem o_addL {a b c : List α} (h : addP a b = some c) : dAdd (lC f a) (lC f b) = some (.own (lC f c)) := by
  unfold addP at h
  split at h
  · cases h
    rw [lC, lC, addL_ok (by simpa using by assumption), lC, List.map_append]
  · cases h
theorem o_addT {a b c : List α} (h : addP a b = some c) : dAdd (tC f a) (tC f b) = some (.fro (tC f c)) := by
  unfold addP at h
  split at h
  · cases h
    rw [tC, tC, addT_ok (by simpa using by assumption), tC, List.map_append]
  · cases h
theorem addT_b {a b : List D} (h : Nat.ble (a.length + b.length) 1000000 = true) : dAdd (.tup a) (.tup b) = some (.fro (.tup (a ++ b))) := if_pos (Nat.le_of_ble_eq_true h)
theorem o_ixL {xs : List α} {i : Nat} {x : α} (h : xs[i]? = some x) : dIx (lC f xs) (nD i) = some (.fro (f x)) := dIx_lst (by simp [h])
theorem o_ixT {xs : List α} {i : Nat} {x : α} (h : xs[i]? = some x) : dIx (tC f xs) (nD i) = some (.fro (f x)) := dIx_tup (by simp [h])
theorem o_ixrs {w : Web} {i : Nat} {x : Rd} (h : w.rs[i]? = some x) : dIx (.tup (w.rs.map rdD)) (nD i) = some (.fro (rdD x)) := dIx_tup (by simp [h])
theorem ixN_m1 {n : Nat} (h : 0 < n) : ixN n (-1) = some (n - 1) := by
  unfold ixN
  rw [if_neg (by omega), if_pos (by omega)]
  congr 1
  omega
theorem o_ixLl {xs : List α} {x : α} (h : xs.getLast? = some x) : dIx (lC f xs) (.int (-1)) = some (.fro (f x)) := by
  have hx : xs ≠ [] := by rintro rfl; cases h
  have hl : 0 < (xs.map f).length := by rw [List.length_map]; exact List.length_pos_iff.mpr hx
  rw [List.getLast?_eq_getElem?] at h
  show ((ixN (xs.map f).length (-1)).bind fun j => (xs.map f)[j]?).map RV.fro = _
  rw [ixN_m1 hl, Option.bind_some, List.length_map, List.getElem?_map, h]
  rfl
theorem o_ixTl {xs : List α} {x : α} (h : xs.getLast? = some x) : dIx (tC f xs) (.int (-1)) = some (.fro (f x)) := o_ixLl (f := f) h
theorem o_lenL (xs : List α) : dLen [lC f xs] = some (.fro (nD xs.length)) := by
  show some (RV.fro (.int (xs.map f).length)) = _
  rw [List.length_map]; rfl
theorem o_lenT (xs : List α) : dLen [tC f xs] = some (.fro (nD xs.length)) := o_lenL (f := f) xs
theorem o_listT (xs : List α) : dList [tC f xs] = some (.own (lC f xs)) := rfl
theorem o_listL (xs : List α) : dList [lC f xs] = some (.own (lC f xs)) := rfl
theorem o_tupT (xs : List α) : dTuple [tC f xs] = some (.fro (tC f xs)) := rfl
theorem o_tupL (xs : List α) : dTuple [lC f xs] = some (.fro (tC f xs)) := rfl
theorem o_slF (xs : List α) (k : Nat) : dSl (lC f xs) (some (k : Int)) none = some (.own (lC f (xs.drop k))) := by
  simp only [dSl, lC, cut_drop, List.map_drop]
theorem o_slT (xs : List α) (k : Nat) : dSl (lC f xs) none (some (k : Int)) = some (.own (lC f (xs.take k))) := by
  simp only [dSl, lC, cut_take, List.map_take]
theorem o_slA (xs : List α) : dSl (lC f xs) none none = some (.own (lC f xs)) := by
  simp only [dSl, lC]
  rw [cut_whole ⟨HT.sIx_none _ _, HT.sIx_none _ _⟩]
theorem o_tslF (xs : List α) (k : Nat) : dSl (tC f xs) (some (k : Int)) none = some (.fro (tC f (xs.drop k))) := by
  simp only [dSl, tC, cut_drop, List.map_drop]
theorem o_tslT (xs : List α) (k : Nat) : dSl (tC f xs) none (some (k : Int)) = some (.fro (tC f (xs.take k))) := by
  simp only [dSl, tC, cut_take, List.map_take]
theorem cut_nat {α : Type} (xs : List α) (a b : Nat) : cutL xs (some (a : Int)) (some (b : Int)) = (xs.drop a).take (b - a) := by
  unfold cutL
  rw [HT.sIx_nat, HT.sIx_nat]
  by_cases h : a ≤ xs.length
  · rw [Nat.min_eq_left h, List.take_eq_take_iff, List.length_drop]
    by_cases h2 : b ≤ xs.length
    · rw [Nat.min_eq_left h2]
    · rw [Nat.min_eq_right (by omega)]; omega
  · rw [Nat.min_eq_right (a := a) (by omega), List.drop_eq_nil_of_le (Nat.le_refl _), List.drop_eq_nil_of_le (by omega)]; simp
theorem o_sl (xs : List α) (a b : Nat) : dSl (lC f xs) (some (a : Int)) (some (b : Int)) = some (.own (lC f ((xs.drop a).take (b - a)))) := by
  simp only [dSl, lC, cut_nat, List.map_take, List.map_drop]
theorem o_tsl (xs : List α) (a b : Nat) : dSl (tC f xs) (some (a : Int)) (some (b : Int)) = some (.fro (tC f ((xs.drop a).take (b - a)))) := by
  simp only [dSl, tC, cut_nat, List.map_take, List.map_drop]
theorem cut_neg {α : Type} (xs : List α) (k : Nat) : cutL xs (some (-((k : Int) + 1))) none = xs.drop (xs.length - (k + 1)) := by
  unfold cutL
  rw [HT.sIx_none]
  have e : HT.sIx xs.length 0 (some (-((k : Int) + 1))) = xs.length - (k + 1) := by
    show (if -((k : Int) + 1) < 0 then (-((k : Int) + 1) + (xs.length : Int)).toNat else _) = _
    rw [if_pos (by omega)]
    omega
  rw [e, List.take_of_length_le (by rw [List.length_drop]; omega)]
theorem o_slN (xs : List α) (k : Nat) : dSl (lC f xs) (some (-((k : Int) + 1))) none = some (.own (lC f (xs.drop (xs.length - (k + 1))))) := by
  simp only [dSl, lC, cut_neg, List.map_drop, List.length_map]
theorem o_tslN (xs : List α) (k : Nat) : dSl (tC f xs) (some (-((k : Int) + 1))) none = some (.fro (tC f (xs.drop (xs.length - (k + 1))))) := by
  simp only [dSl, tC, cut_neg, List.map_drop, List.length_map]
theorem pairUp_map : ∀ (xs : List α) (ys : List β), pairUp (xs.map f) (ys.map g) = (xs.zip ys).map (p2 f g)
  | [], _ => rfl
  | _ :: _, [] => rfl
  | x :: xs, y :: ys => by simp [pairUp, pairUp_map xs ys, p2]
theorem o_zipL (xs : List α) (ys : List β) : dZip [lC f xs, lC g ys] = some ((xs.zip ys).map (p2 f g)) := by
  show some (pairUp _ _) = _
  rw [pairUp_map]
theorem o_zipT (xs : List α) (ys : List β) : dZip [tC f xs, tC g ys] = some ((xs.zip ys).map (p2 f g)) := o_zipL xs ys
theorem o_enumL (xs : List α) : dEnumS [lC f xs] = some ((numd xs).map (p2 nD f)) := by
  show some (pairUp (upTo 0 (xs.map f).length) (xs.map f)) = _
  rw [upToN, List.length_map, pairUp_map]; rfl
theorem o_enumT (xs : List α) : dEnumS [tC f xs] = some ((numd xs).map (p2 nD f)) := o_enumL xs
theorem o_app {xs ys : List α} {x : α} (h : appP xs x = some ys) : mAppend (lC f xs) [f x] = some (lC f ys, .non) := by
  unfold appP at h
  split at h
  · cases h
    rw [lC, append_ok (by simpa using by assumption), lC, List.map_append]; rfl
  · cases h
theorem o_ext {xs ys zs : List α} (h : addP xs ys = some zs) : mExtend (lC f xs) [lC f ys] = some (lC f zs, .non) := by
  unfold addP at h
  split at h
  · cases h
    rw [lC, lC, extend_ok (by simpa using by assumption), lC, List.map_append]
  · cases h
theorem o_ins {xs ys : List α} {i : Nat} {x : α} (h : insP xs i x = some ys) : mInsert (lC f xs) [nD i, f x] = some (lC f ys, .non) := by
  unfold insP at h
  split at h
  · rename_i hl
    cases h
    rw [lC]
    show mInsert (.lst (xs.map f)) [.int (i : Int), f x] = _
    rw [insert_ok (by simpa using hl.1) hl.2]
    simp [lC, List.map_take, List.map_drop]
  · cases h
theorem o_pop {xs : List α} {r : α × List α} (h : popP xs = some r) : mPop (lC f xs) [] = some (lC f r.2, f r.1) := by
  unfold popP at h
  obtain ⟨x, e, h⟩ := map_some_iff h
  cases h
  show ((xs.map f)[(xs.map f).length - 1]?).map _ = _
  rw [List.length_map, List.getElem?_map, e]
  simp [lC, List.map_dropLast]
theorem o_set {xs ys : List α} {i : Nat} {x : α} (h : setP xs i x = some ys) : dSet (lC f xs) (nD i) (f x) = some (lC f ys) := by
  unfold setP at h
  split at h
  · rename_i hl
    cases h
    rw [lC]
    show dSet (.lst (xs.map f)) (.int (i : Int)) (f x) = _
    rw [dSet_lst _ (by simpa using hl), lC, List.map_set]
  · cases h
theorem o_truL (xs : List α) : tru (lC f xs) = some (!xs.isEmpty) := by
  show some (!(xs.map f).isEmpty) = _
  simp
theorem o_truT (xs : List α) : tru (tC f xs) = some (!xs.isEmpty) := o_truL (f := f) xs
def sortBy (f : α → D) (xs : List α) : List α := xs.mergeSort fun a b => dle (f a) (f b)
def sortP (f : α → D) (xs : List α) : Option (List α) := if sortOk (xs.map f) = true then some (sortBy f xs) else if xs.length ≤ 1 then some xs else none
theorem o_sortL {xs ys : List α} (h : sortP f xs = some ys) : dSortedA [lC f xs] = some (.own (lC f ys)) := by
  unfold sortP at h
  split at h
  · rename_i hs
    cases h
    refine sortedA_of ?_
    rw [lC]
    simp only [dSorted, hs, if_true]
    rw [lC, sortBy, ← List.map_mergeSort (f := f) (r := fun a b => dle (f a) (f b)) (s := dle) (fun _ _ _ _ => rfl)]
  · rename_i hs
    split at h
    · rename_i hl
      cases h
      unfold dSortedA
      have e : dSorted [lC f xs] = none := by
        rw [lC]
        simp only [dSorted]
        rw [if_neg hs]
      rw [e]
      show (if (xs.map f).length ≤ 1 then some (RV.own (.lst (xs.map f))) else none) = _
      rw [if_pos (by simpa using hl)]; rfl
    · cases h
def sortTP (f : α → D) (xs : List α) : Option (List α) := if sortOk (xs.map f) = true then some (sortBy f xs) else none
theorem o_sortT {xs ys : List α} (h : sortTP f xs = some ys) : dSortedA [tC f xs] = some (.own (lC f ys)) := by
  unfold sortTP at h
  split at h
  · rename_i hs
    cases h
    refine sortedA_of ?_
    rw [tC]
    simp only [dSorted, hs, if_true]
    rw [lC, sortBy, ← List.map_mergeSort (f := f) (r := fun a b => dle (f a) (f b)) (s := dle) (fun _ _ _ _ => rfl)]
  · cases h
def reprP (d : D) : Option Str := if rpOk d = true then some (reprD d) else none
theorem o_repr {d : D} {x : Str} (h : reprP d = some x) : dRepr [d] = some (.fro (.str x)) := by
  unfold reprP at h
  split at h
  · rename_i hs
    cases h
    simp only [dRepr, hs, if_true]
  · cases h
theorem o_neS (a b : Str) : dNe (.str a) (.str b) = some (.fro (.bl (decide (a ≠ b)))) := by
  show some (RV.fro (.bl (!decide (a = b)))) = _
  simp
theorem o_eqS (a b : Str) : dEq (.str a) (.str b) = some (.fro (.bl (decide (a = b)))) := rfl
/-- sorted(set(..)) -/
def sortUN (xs : List Nat) : List Nat := (sortU (xs.map fun x : Nat => (x : Int))).map Int.toNat
def sortSetP (xs : List Nat) : Option (List Nat) := if xs.length ≤ 60 then some (sortUN xs) else none
theorem o_sset {xs ys : List Nat} (h : sortSetP xs = some ys) : dSortSet (tC nD xs) = some (.own (lC nD ys)) := by
  unfold sortSetP at h
  split at h
  · rename_i hs
    cases h
    simp only [dSortSet, tC, intsOf_nD, Option.bind_some, List.length_map, hs, if_true]
    congr 2
    rw [lC, sortUN, List.map_map]
    congr 1
    refine List.map_congr_left fun i hi => ?_
    have : i ∈ xs.map fun x : Nat => (x : Int) := sortU_mem.mp hi
    obtain ⟨a, _, rfl⟩ := List.mem_map.mp this
    rfl
  · cases h
end
theorem o_ssetL {xs ys : List Nat} (h : sortSetP xs = some ys) : dSortSetL (lC nD xs) = some (.own (lC nD ys)) := o_sset h
def neP0 {α : Type} (f : α → D) (xs : List α) : Option Bool := if eqOk 50 (lC f xs) = true then some (!xs.isEmpty) else none
theorem o_neL0 {α : Type} {f : α → D} {xs : List α} {b : Bool} (h : neP0 f xs = some b) : dNe (lC f xs) (lC f []) = some (.fro (.bl b)) := by
  unfold neP0 at h
  split at h
  · rename_i hs
    have := Option.some.inj h
    subst this
    have e : eqOk 50 (lC f []) = true := rfl
    rw [dNe_gen, if_pos (by rw [hs, e]; rfl)]
    cases xs with
    | nil => rw [lC, List.map_nil, deq_lst]; rfl
    | cons x xs => rw [lC, lC, List.map_nil, deq_lst]; simp [deqAll]
  · cases h
def repP {α : Type} (xs : List α) (k : Nat) : Option (List α) := if k ≤ 1000 ∧ xs.length ≤ 1000 then some (List.replicate k xs).flatten else none
theorem o_mulL {α : Type} {f : α → D} {a c : List α} {k : Nat} (h : repP a k = some c) : dMul (lC f a) (nD k) = some (.own (lC f c)) := by
  unfold repP at h
  split at h
  · rename_i hh
    cases h
    have e : (List.replicate k a).flatten.map f = (List.replicate k (a.map f)).flatten := by
      rw [List.map_flatten, List.map_replicate]
    show dMul (.lst (a.map f)) (.int (k : Int)) = some (.own (.lst ((List.replicate k a).flatten.map f)))
    rw [e]
    show (if _ then _ else _) = _
    rw [if_pos (by simp; omega)]
    rfl
  · cases h
theorem o_intB (b : Bool) : dInt [D.bl b] = some (.fro (nD b.toNat)) := by cases b <;> rfl
def mulNP (a b : Nat) : Option Nat := if a < 18446744073709551616 ∨ b < 18446744073709551616 then some (a * b) else none
theorem o_mulN {a b c : Nat} (h : mulNP a b = some c) : dMul (nD a) (nD b) = some (.fro (nD c)) := by
  unfold mulNP at h
  split at h
  · rename_i hh
    cases h
    show (if (smallI (a : Int) || smallI (b : Int)) = true then some (RV.fro (.int ((a : Int) * (b : Int)))) else none) = _
    rw [if_pos (by simp [smallI]; omega)]
    show some (RV.fro (.int ((a : Int) * (b : Int)))) = some (.fro (.int ((a * b : Nat) : Int)))
    rw [Int.natCast_mul]
  · cases h
end Pv

namespace Pv
open PySem PySem.Spec L2
local instance noTabsTk : TabL := ⟨[]⟩
def rokP (n : Int) : Option Unit := if -1000000 ≤ n then some () else none
theorem rok_of {n : Int} {u : Unit} (h : rokP n = some u) : -1000000 ≤ n := by
  unfold rokP at h
  split at h
  · assumption
  · cases h
/-- xs[::-1] -/
theorem E_rev {a : Ev Bor} {d : D} {r : RV} {s s1 : Sg} (ha : O a s d s1) (hf : dRev d = some r) : E (evRev a) s r s1 := by
  obtain ⟨x, e1, f1⟩ := ha.ex
  refine ⟨?_, ha.kp⟩
  unfold evRev
  rw [e1, Option.bind_some, f1 s1 (Keep.refl _), Option.bind_some, hf]
  rfl
theorem o_revL {α : Type} {f : α → D} (xs : List α) : dRev (lC f xs) = some (.own (lC f xs.reverse)) := by
  show some (RV.own (.lst (xs.map f).reverse)) = some (RV.own (.lst (xs.reverse.map f)))
  rw [List.map_reverse]
theorem o_revT {α : Type} {f : α → D} (xs : List α) : dRev (tC f xs) = some (.fro (tC f xs.reverse)) := by
  show some (RV.fro (.tup (xs.map f).reverse)) = some (RV.fro (.tup (xs.reverse.map f)))
  rw [List.map_reverse]
/-- (a, ..) * k -/
def repTP {α : Type} (xs : List α) (k : Nat) : Option (List α) := if xs.isEmpty = false ∧ 2 ≤ k ∧ k ≤ 1000 ∧ xs.length ≤ 1000 then some (List.replicate k xs).flatten else none
theorem o_mulT {α : Type} {f : α → D} {a c : List α} {k : Nat} (h : repTP a k = some c) : dMul (tC f a) (nD k) = some (.fro (tC f c)) := by
  unfold repTP at h
  split at h
  · rename_i hk
    cases h
    obtain ⟨h1, h2, h3, h4⟩ := hk
    show (if !(a.map f).isEmpty && decide (2 ≤ (k : Int)) && decide ((k : Int) ≤ 1000) && decide ((a.map f).length ≤ 1000) then some (RV.fro (.tup (List.replicate (k : Int).toNat (a.map f)).flatten)) else none) = _
    rw [if_pos (by rw [List.length_map, decide_eq_true h4, decide_eq_true (by omega : (2 : Int) ≤ (k : Int)), decide_eq_true (by omega : (k : Int) ≤ 1000)]; cases a <;> simp at h1 ⊢), Int.toNat_natCast]
    show some (RV.fro (.tup _)) = some (RV.fro (.tup ((List.replicate k a).flatten.map f)))
    rw [List.map_flatten, List.map_replicate]
  · cases h
/-- x[i] += e -/
theorem S_augI {i : Nat} {ti : Ev Bor} {tv : Ev RV} {s s1 s2 : Sg} {di da d0 d d' : D} {a b : Int} {rv : RV} {env' : List Slot} {k : Out → Sg → Prop} (h2 : O ti s di s1) (hg : s.env[i]? = some (.own da)) (ho1 : s1.env[i]? = some (.own d0)) (hget : augGet d0 di = some a) (h : E tv s1 rv s2) (hb : augInt rv.d = some b) (ho : s2.env[i]? = some (.own d)) (hf : dSet d di (.int (a + b)) = some d') (he : s2.env.set i (.own d') = env') (hk : k .nx ⟨env', s2.st⟩) : S (evAugI i ti tv) s k := by
  obtain ⟨x, e1, f1⟩ := h2.ex
  refine ⟨_, _, ?_, hk⟩
  unfold evAugI
  rw [show evSlot i s = some (.slot i, s) by unfold evSlot; rw [hg], Option.bind_some, e1, Option.bind_some, f1 s1 (Keep.refl _), Option.bind_some, show ownAt s1 i = some d0 by unfold ownAt; rw [ho1], Option.bind_some, hget, Option.bind_some, h.eq, Option.bind_some, hb, Option.bind_some, show ownAt s2 i = some d by unfold ownAt; rw [ho], Option.bind_some, hf]
  unfold setAt
  rw [ho]
  subst he
  rfl
theorem augGet_L {xs : List Nat} {j n : Nat} (h : xs[j]? = some n) : augGet (lC nD xs) (nD j) = some (n : Int) := by
  show (if 0 ≤ (j : Int) then match (xs.map nD)[(j : Int).toNat]? with
    | some (.int a) => some a
    | _ => none else none) = _
  rw [if_pos (by omega), Int.toNat_natCast, List.getElem?_map, h]
  rfl
theorem dSet_aug {xs ys : List Nat} {j n y : Nat} {b : Int} (h2 : natP ((n : Int) + b) = some y) (h3 : setP xs j y = some ys) : dSet (lC nD xs) (nD j) (.int ((n : Int) + b)) = some (lC nD ys) := by
  have e : ((n : Int) + b) = (y : Int) := by
    unfold natP at h2
    split at h2
    · have := Option.some.inj h2; omega
    · cases h2
  rw [e]
  exact o_set (f := nD) h3
/-- a, b = xs -/
def unp2P {α : Type} (xs : List α) : Option (α × α) := match xs with
  | [a, b] => some (a, b)
  | _ => none
theorem unp2_lC {α : Type} {f : α → D} {xs : List α} {u : α × α} (h : unp2P xs = some u) : lC f xs = h2 f f u := by
  unfold unp2P at h
  split at h
  · cases h; rfl
  · cases h
theorem o_powN (a b : Nat) (ha : a < 18446744073709551616) (hb : b ≤ 1000) : dPow (nD a) (nD b) = some (.fro (nD (a ^ b))) := by
  show (if smallI (a : Int) && decide (0 ≤ (b : Int)) && decide ((b : Int) ≤ 1000) then some (RV.fro (.int ((a : Int) ^ (b : Int).toNat))) else none) = some (RV.fro (.int ((a ^ b : Nat) : Int)))
  rw [if_pos (by simp [smallI]; omega), Int.toNat_natCast, Int.natCast_pow]
def divNP (a b : Nat) : Option Nat := if 0 < b ∧ b < 18446744073709551616 then some (a / b) else none
theorem o_divN {a b c : Nat} (h : divNP a b = some c) : dFdiv (nD a) (nD b) = some (.fro (nD c)) := by
  unfold divNP at h
  split at h
  · rename_i hb
    cases h
    show (if 0 < (b : Int) ∧ (b : Int) < 2 ^ 64 then some (RV.fro (.int ((a : Int) / (b : Int)))) else none) = some (RV.fro (.int ((a / b : Nat) : Int)))
    rw [if_pos ⟨by omega, by have : (2 : Int) ^ 64 = 18446744073709551616 := by decide
                             omega⟩, Int.natCast_ediv]
  · cases h
/-- told = [f(..), g(..)], both changed behind -/
def toldP {α β : Type} (xs : List α) (ys : List β) : Option Unit := if xs.length < 1000000 ∧ ys.length < 1000000 then some () else none
theorem told_of {α β : Type} {xs : List α} {ys : List β} {u : Unit} (h : toldP xs ys = some u) : xs.length < 1000000 ∧ ys.length < 1000000 := by
  unfold toldP at h
  split at h
  · assumption
  · cases h
theorem S_told {α β : Type} {f : α → D} {f' : β → D} {xs : List α} {ys : List β} {i : Nat} {va vb : Ev RV} {vt : Ev Bool} {s s1 s2 s3 : Sg} {b : Bool} {env0 qenv env' : List Slot} {u : Unit} {k : Out → Sg → Prop}
    (e1 : E va s (.own (lC f xs)) s1) (e2 : E vb s1 (.own (lC f' ys)) s2) (hl : toldP xs ys = some u) (hi : i < s2.env.length) (h0 : s2.env.set i (.own (Pv.h2 (lC f) (lC f') (xs, ys))) = env0) (hq : QE env0 qenv) (ht : B vt ⟨qenv, []⟩ b s3) (he : s2.env.set i .non = env')
    (k1 : b = true → S (evRet (evC (.bl false))) ⟨env', s2.st⟩ k) (k2 : b = false → k .nx ⟨env', s2.st⟩) : S (evTold i va vb vt) s k := by
  subst h0; subst he
  obtain ⟨l1, l2⟩ := told_of hl
  have eq : evTold i va vb vt s = some (if b = true then Out.rt (.fro (.bl false)) else .nx, ⟨s2.env.set i .non, s2.st⟩) := by
    unfold evTold
    rw [e1.eq, Option.bind_some, e2.eq, Option.bind_some]
    show (if (xs.map f).length < 1000000 ∧ (ys.map f').length < 1000000 ∧ i < s2.env.length then (vt ⟨((s2.env.set i (.own (.lst [lC f xs, lC f' ys]))).map quietSlot), []⟩).bind _ else none) = _
    rw [if_pos ⟨by rw [List.length_map]; exact l1, by rw [List.length_map]; exact l2, hi⟩]
    have := hq.eq
    show (vt ⟨((s2.env.set i (.own (Pv.h2 (lC f) (lC f') (xs, ys)))).map quietSlot), []⟩).bind _ = _
    rw [this, ht.eq]
    rfl
  cases b with
  | true =>
    obtain ⟨o, s', q1, q2⟩ := k1 rfl
    cases q1
    exact ⟨_, _, eq, q2⟩
  | false => exact ⟨_, _, eq, k2 rfl⟩
/-- xs[i] in a key -/
def kixP {α : Type} (xs : List α) (i : Nat) : Option α := if xs.length ≤ 1000 then xs[i]? else none
theorem kIx_T {α : Type} {f : α → D} {xs : List α} {i : Nat} {v : α} (h : kixP xs i = some v) : kIx (tC f xs) (nD i) = some (f v) := by
  unfold kixP at h
  split at h
  · rename_i hl
    show (if (xs.map f).length ≤ 1000 then atI (xs.map f) (i : Int) else none) = some (f v)
    rw [if_pos (by rw [List.length_map]; exact hl)]
    have hi : i < xs.length := (List.getElem?_eq_some_iff.mp h).1
    have : ixN (xs.map f).length (i : Int) = some i := by
      unfold ixN
      rw [if_pos (by omega), if_pos (by rw [List.length_map]; omega), Int.toNat_natCast]
    unfold atI
    rw [this, Option.bind_some, List.getElem?_map, h]
    rfl
  · cases h
def keysP {α κ : Type} (key : α → Option κ) : List α → Option (List κ)
  | [] => some []
  | x :: xs => (key x).bind fun k => (keysP key xs).map fun ks => k :: ks
def sortByP {α κ : Type} (ic : α → D) (kc : κ → D) (cs : List D) (key : α → Option κ) (xs : List α) : Option (List α) :=
  (keysP key xs).bind fun ks => if keyOk cs (xs.map ic) (ks.map kc) then some (((xs.zip ks).mergeSort fun a b => dle (kc a.2) (kc b.2)).map fun p => p.1) else none
theorem keysD_P {α κ : Type} {ic : α → D} {kc : κ → D} {cs : List D} {key : α → Option κ} {kx : KX} (hk : ∀ x k, key x = some k → kx.ev (ic x :: cs) = some (kc k)) : ∀ {xs : List α} {ks : List κ}, keysP key xs = some ks → keysD kx cs (xs.map ic) = some (ks.map kc)
  | [], ks, h => by cases h; rfl
  | x :: xs, ks, h => by
    obtain ⟨k, e1, h⟩ := bind_some_iff h
    obtain ⟨rs, e2, h⟩ := map_some_iff h
    subst h
    show (kx.ev (ic x :: cs)).bind _ = _
    rw [hk x k e1, Option.bind_some, keysD_P hk e2]
    rfl
theorem keysP_len {α κ : Type} {key : α → Option κ} : ∀ {xs : List α} {ks : List κ}, keysP key xs = some ks → ks.length = xs.length ∧ ∀ p ∈ xs.zip ks, key p.1 = some p.2
  | [], ks, h => by cases h; exact ⟨rfl, fun p hp => by simp at hp⟩
  | x :: xs, ks, h => by
    obtain ⟨k, e1, h⟩ := bind_some_iff h
    obtain ⟨rs, e2, h⟩ := map_some_iff h
    subst h
    obtain ⟨h1, h2⟩ := keysP_len e2
    refine ⟨congrArg Nat.succ h1, fun p hp => ?_⟩
    rw [List.zip_cons_cons] at hp
    rcases List.mem_cons.mp hp with e | e
    · subst e; exact e1
    · exact h2 p e
theorem sortK_P {α κ : Type} (ic : α → D) (kc : κ → D) (xs : List α) (ks : List κ) : sortK (xs.map ic) (ks.map kc) = (((xs.zip ks).mergeSort fun a b => dle (kc a.2) (kc b.2)).map fun p => p.1).map ic := by
  unfold sortK
  have e : (xs.map ic).zip (ks.map kc) = (xs.zip ks).map fun p => (ic p.1, kc p.2) := by rw [List.zip_map]; rfl
  rw [e]
  have := PySem.W.sort_maps (r := fun a b : α × κ => dle (kc a.2) (kc b.2)) (s := fun a b : D × D => dle a.2 b.2) (fun p : α × κ => (ic p.1, kc p.2)) (l := xs.zip ks) (fun _ _ _ _ => rfl)
  rw [← this, List.map_map, List.map_map]
  rfl
section
variable {α κ : Type} {ic : α → D} {kc : κ → D} {cs : List D} {key : α → Option κ} {kx : KX} {cx : List Nat} {s s1 : Sg}
theorem kSortK_P {xs ys : List α} (hc : fetchAll s (cx.map Bor.slot) = some cs) (hk : ∀ x k, key x = some k → kx.ev (ic x :: cs) = some (kc k)) (h : sortByP ic kc cs key xs = some ys) : kSortK kx cx s (xs.map ic) = some (.own (lC ic ys), s) := by
  obtain ⟨ks, e1, h⟩ := bind_some_iff h
  split at h
  · rename_i ok
    cases h
    unfold kSortK
    rw [hc, Option.bind_some]
    unfold kSort
    rw [keysD_P hk e1, Option.bind_some, if_pos ok, sortK_P]
    rfl
  · cases h
theorem E_sortR {key' : Nat → Option κ} {a : Ev RV} {n : Nat} {xs ys : List Nat} (hk : ∀ x k, key' x = some k → kx.ev (nD x :: cs) = some (kc k)) (h : E a s (.fro (nD n)) s1) (hx : rngP n = some xs) (hc : fetchAll s1 (cx.map Bor.slot) = some cs) (hs : sortByP nD kc cs key' xs = some ys) : E (evSortR kx cx a) s (.own (lC nD ys)) s1 := by
  refine ⟨?_, h.kp⟩
  unfold evSortR
  rw [h.eq, Option.bind_some]
  have hl := (E_rgL (s := s) h hx).eq
  unfold evRgL at hl
  rw [h.eq, Option.bind_some] at hl
  show (if small62 (n : Int) then kSortK kx cx s1 (upTo 0 (n : Int).toNat) else none) = _
  have hl : (if small62 (n : Int) then some (RV.own (.lst (upTo 0 (n : Int).toNat)), s1) else none) = some (.own (lC nD xs), s1) := hl
  split at hl
  · rename_i sm
    rw [if_pos sm]
    have e : upTo 0 (n : Int).toNat = xs.map nD := by
      have := Option.some.inj hl
      have := congrArg (fun z : RV × Sg => z.1.d) this
      exact D.lst.inj this
    rw [e]
    exact kSortK_P hc hk hs
  · cases hl
theorem E_sortB {b : Ev Bor} {xs ys : List α} (hk : ∀ x k, key x = some k → kx.ev (ic x :: cs) = some (kc k)) (h : O b s (lC ic xs) s1) (hc : fetchAll s1 (cx.map Bor.slot) = some cs) (hs : sortByP ic kc cs key xs = some ys) : E (evSortB kx cx b) s (.own (lC ic ys)) s1 := by
  obtain ⟨x, e1, f1⟩ := h.ex
  refine ⟨?_, h.kp⟩
  unfold evSortB
  rw [e1, Option.bind_some]
  dsimp only
  rw [f1 s1 (Keep.refl _), Option.bind_some]
  exact kSortK_P hc hk hs
end
/-- (lengths[x], x) -/
def keyA (ls : List Nat) (x : Nat) : Option (Nat × Nat) := (kixP ls x).map fun k => (k, x)
abbrev sortAP (ls xs : List Nat) : Option (List Nat) := sortByP nD (p2 nD nD) [tC nD ls] (keyA ls) xs
theorem keyA_ok (ls : List Nat) : ∀ x k, keyA ls x = some k → (KX.pair (.ix (.nm 1) (.nm 0)) (.nm 0)).ev [nD x, tC nD ls] = some (p2 nD nD k) := fun x k h => by
  obtain ⟨v, e, h⟩ := map_some_iff h
  subst h
  show (kIx (tC nD ls) (nD x)).bind _ = _
  rw [kIx_T e]
  rfl
/-- (lengths[x], x not in built, x) -/
def keyB (ls bs : List Nat) (x : Nat) : Option (Nat × Bool × Nat) := (kixP ls x).map fun k => (k, decide (x ∉ bs), x)
abbrev sortBP (ls bs xs : List Nat) : Option (List Nat) := sortByP nD (p3 nD D.bl nD) [tC nD ls, tC nD bs] (keyB ls bs) xs
theorem kNin_N (x : Nat) (bs : List Nat) : kNin (nD x) (tC nD bs) = some (.bl (decide (x ∉ bs))) := by
  have e : bs.map nD = (bs.map fun k : Nat => (k : Int)).map D.int := by rw [List.map_map]; rfl
  have e2 : ((x : Int) ∈ bs.map fun k : Nat => (k : Int)) ↔ x ∈ bs := by
    rw [List.mem_map]
    exact ⟨fun ⟨y, h1, h2⟩ => by have : y = x := by omega
                                 subst this; exact h1, fun h => ⟨x, h, rfl⟩⟩
  show (if eqOk 49 (nD x) && (bs.map nD).all (eqOk 49) then some (D.bl (!(bs.map nD).any fun z => deq z (nD x))) else none) = _
  have o1 : eqOk 49 (nD x) = true := rfl
  have o2 : (bs.map nD).all (eqOk 49) = true := by rw [e]; exact eqOk_ints 49 _
  rw [o1, o2]
  show some (D.bl (!(bs.map nD).any fun z => deq z (.int (x : Int)))) = _
  rw [e, any_int, decide_eq_decide.mpr e2, decide_not]
theorem keyB_ok (ls bs : List Nat) : ∀ x k, keyB ls bs x = some k → (KX.trip (.ix (.nm 1) (.nm 0)) (.nin (.nm 0) (.nm 2)) (.nm 0)).ev [nD x, tC nD ls, tC nD bs] = some (p3 nD D.bl nD k) := fun x k h => by
  obtain ⟨v, e, h⟩ := map_some_iff h
  subst h
  show (kIx (tC nD ls) (nD x)).bind _ = _
  rw [kIx_T e, Option.bind_some]
  show (kNin (nD x) (tC nD bs)).bind _ = _
  rw [kNin_N]
  rfl
/-- (web[1][x][2:], x) -/
def keyC (w : Web) (x : Nat) : Option ((Nat × Nat) × Nat) := (kixP w.rs x).map fun r => ((r.lo, r.hi), x)
abbrev sortCP (w : Web) (xs : List Nat) : Option (List Nat) := sortByP nD (p2 (p2 nD nD) nD) [webD w] (keyC w) xs
theorem keyC_ok (w : Web) : ∀ x k, keyC w x = some k → (KX.pair (.cut (.ix (.ix (.nm 1) (.int 1)) (.nm 0)) 2) (.nm 0)).ev [nD x, webD w] = some (p2 (p2 nD nD) nD k) := fun x k h => by
  obtain ⟨v, e, h⟩ := map_some_iff h
  subst h
  show ((kIx (tC rdD w.rs) (nD x)).bind _).bind _ = _
  rw [kIx_T e]
  rfl
end Pv

namespace G
open PySem PySem.Spec L2 Pv
theorem pairUp_self : ∀ xs : List D, pairUp xs xs = xs.map fun x => .tup [x, x]
  | [] => rfl
  | x :: xs => by rw [pairUp, pairUp_self xs]; rfl
theorem deq_ft (n : Nat) : (List.replicate n (D.bl true)).any (fun z => deq z (.bl false)) = false := by
  rw [List.any_eq_false]
  intro x hx
  rw [List.eq_of_mem_replicate hx]
  simp
theorem eqOk_rep (n : Nat) : (List.replicate n (D.bl true)).all (eqOk 49) = true := by
  rw [List.all_eq_true]
  intro x hx
  rw [List.eq_of_mem_replicate hx]
  rfl
theorem notin_rep (n : Nat) : dNotIn (.bl false) (.lst (List.replicate n (.bl true))) = some (.fro (.bl true)) := by
  have : eqOk 49 (.bl false) = true := rfl
  simp only [dNotIn, isIn, eqOk_rep, this, deq_ft, Bool.and_self, if_true, Option.map_some, Bool.not_false]
theorem same_seq {m : Fm} {xs : List D} {st : List Cell} (a b : D) (h : ∀ x ∈ xs, m [x, x] st = some (.fro (.bl true), st)) (hl : xs.length ≤ 1000000) (ab : dZip [a, b] = some (pairUp xs xs)) :
    evLc (evArgs dZip (evCons (evName 0) (evCons (evName 1) (evNil)))) [] [2, 3] (tgTup 2 (tgCons (tgName 2) (tgCons (tgName 3) (tgNil)))) (evYes) (evCall m (evCons (evName 2) (evCons (evName 3) (evNil)))) ⟨[.fro a, .fro b, .non, .non], st⟩ =
      some (.own (.lst (List.replicate xs.length (.bl true))), ⟨[.fro a, .fro b, .non, .non], st⟩) := by
  have := lc_map (α := D) (fun x => .tup [x, x]) (fun _ => true) (fun _ => .bl true) xs (it := evArgs dZip (evCons (evName 0) (evCons (evName 1) (evNil)))) (cap := []) (vs := [2, 3]) (t := tgTup 2 (tgCons (tgName 2) (tgCons (tgName 3) (tgNil)))) (c := evYes) (e := evCall m (evCons (evName 2) (evCons (evName 3) (evNil))))
    (s := ⟨[.fro a, .fro b, .non, .non], st⟩) (s' := ⟨[.fro a, .fro b, .non, .non], st⟩) (by simp [ab, pairUp_self]) hl (fun x hx => ⟨⟨[.fro a, .fro b, .fro x, .fro x], st⟩, _, by simp, rfl, rfl, fun _ => ⟨.fro (.bl true), ⟨[.fro a, .fro b, .fro x, .fro x], st⟩, by simp [h x hx], rfl, rfl⟩⟩)
  rw [this, List.filter_eq_self.mpr fun _ _ => rfl, List.map_const']
  rfl
theorem v_same : ∀ (k : Nat) (d : D) (st : List Cell), shortD k d = true → m__law_same (k + 1) [d, d] st = some (.fro (.bl true), st)
  | k, .non, st, _ => by simp [m__law_same, ev__law_same]
  | k, .bl b, st, _ => by simp [m__law_same, ev__law_same]
  | k, .int b, st, _ => by simp [m__law_same, ev__law_same]
  | k, .str b, st, _ => by simp [m__law_same, ev__law_same, dEq]
  | 0, .tup xs, st, h => by simp [shortD] at h
  | 0, .lst xs, st, h => by simp [shortD] at h
  | k + 1, .tup xs, st, h2 => by
    simp only [shortD, Bool.and_eq_true, decide_eq_true_eq, List.all_eq_true] at h2
    have := same_seq (m := m__law_same (k + 1)) (st := st) (.tup xs) (.tup xs) (fun x hx => v_same k x st (h2.2 x hx)) h2.1 rfl
    unfold m__law_same
    simp [ev__law_same, this, notin_rep]
  | k + 1, .lst xs, st, h2 => by
    simp only [shortD, Bool.and_eq_true, decide_eq_true_eq, List.all_eq_true] at h2
    have := same_seq (m := m__law_same (k + 1)) (st := st) (.lst xs) (.lst xs) (fun x hx => v_same k x st (h2.2 x hx)) h2.1 rfl
    unfold m__law_same
    simp [ev__law_same, this, notin_rep]
  | k, .dct _ _, st, h => by cases k <;> simp [shortD] at h
  | k, .hd _, st, h => by cases k <;> simp [shortD] at h
  | k, .scr _, st, h => by cases k <;> simp [shortD] at h
theorem q_same {α : Type} [DecidableEq α] {f : α → D} {a b : α} {y : Bool} (h : sameP f a b = some y) (st : List Cell) : m__law_same 5 [f a, f b] st = some (.fro (.bl y), st) := by
  unfold sameP at h
  split at h
  · rename_i hs
    have := Option.some.inj h
    subst this
    rw [← hs.1]
    exact v_same 4 (f a) st hs.2
  · cases h
end G

namespace G
open PySem PySem.Spec L2 Pv
noncomputable def p_reached (pairs_ : (List (Nat × Nat))) (house_ : Nat) : Option (List Nat) :=
  (whP (fun (v_1 : (List Nat) × Bool) => some v_1.2) (fun (v_1 : (List Nat) × Bool) =>
    (forP (fun (x_6 : (Nat × Nat)) (v_4 : (List Nat) × Bool) =>
      (if (decide ((decide (x_6.1 ∈ v_4.1)) ≠ (decide (x_6.2 ∈ v_4.1)))) = true then
        (appP v_4.1 (if (decide (x_6.1 ∈ v_4.1)) = true then x_6.2 else x_6.1)).bind fun found_8 =>
        some (found_8, true)
      else
        some (v_4.1, v_4.2))) pairs_ (v_1.1, false)).bind fun (w_9 : (List Nat) × Bool) =>
    some (w_9.1, w_9.2)) 1000 (([house_] : List Nat), true)).bind fun (w_11 : (List Nat) × Bool) =>
  (sortP nD w_11.1).bind fun srt_13 =>
  some srt_13
noncomputable def p_low_of (web_ : Web) (road_ : Nat) : Option Nat :=
  (web_.rs[road_]?).bind fun it_1 =>
  some it_1.lo
noncomputable def p_high_of (web_ : Web) (road_ : Nat) : Option Nat :=
  (web_.rs[road_]?).bind fun it_1 =>
  some it_1.hi
noncomputable def p_raised (web_ : Web) (some_ : (List Nat)) : Option (List Nat) :=
  (forP (fun (x_3 : (Nat × Rd)) (v_1 : (List Nat)) =>
    (appP v_1 (if (decide (x_3.1 ∈ some_)) = true then x_3.2.hi else x_3.2.lo)).bind fun found_4 =>
    some found_4) (numd web_.rs) ([] : List Nat)).bind fun (w_5 : (List Nat)) =>
  some w_5
noncomputable def p_other_roads (web_ : Web) (some_ : (List Nat)) : Option (List Nat) :=
  (rngP web_.rs.length).bind fun rng_1 =>
  (lcT (fun (x_2 : Nat) => (decide (x_2 ∉ some_))) (fun (x_2 : Nat) => x_2) rng_1).bind fun lc_3 =>
  some lc_3
noncomputable def p_walk (first_ : (List Nat)) (last_ : (List Nat)) : Option (List (List Nat)) :=
  (forP (fun (x_3 : (Nat × Nat)) (v_1 : (List (List Nat)) × (List Nat)) =>
    (whP (fun (v_4 : (List (List Nat)) × (List Nat) × Nat) => (v_4.2.1[v_4.2.2]?).bind fun it_7 => some (decide (it_7 ≠ x_3.2))) (fun (v_4 : (List (List Nat)) × (List Nat) × Nat) =>
      (v_4.2.1[v_4.2.2]?).bind fun it_8 =>
      (v_4.2.1[v_4.2.2]?).bind fun it_9 =>
      (natP ((it_8 : Int) + (if (decide (it_9 < x_3.2)) = true then (1 : Int) else ((0 : Int) - (1 : Int))))).bind fun y_10 =>
      (setP v_4.2.1 v_4.2.2 y_10).bind fun here_11 =>
      (appP v_4.1 here_11).bind fun found_12 =>
      some (found_12, here_11, v_4.2.2)) 1000 (v_1.1, v_1.2, x_3.1)).bind fun (w_13 : (List (List Nat)) × (List Nat) × Nat) =>
    some (w_13.1, w_13.2.1)) (numd last_) (([first_] : List (List Nat)), first_)).bind fun (w_15 : (List (List Nat)) × (List Nat)) =>
  some w_15.1
noncomputable def p_ends_of (web_ : Web) (road_ : Nat) : Option (Nat × Nat) :=
  (web_.rs[road_]?).bind fun it_1 =>
  some (it_1.a, it_1.b)
noncomputable def p_beyond (web_ : Web) (road_ : Nat) (house_ : Nat) : Option (Option Nat) :=
  (p_ends_of web_ road_).bind fun ends_of_1 =>
  (if (decide (house_ = ends_of_1.1)) = true then
    some (some ends_of_1.2)
  else
    some (if (decide (house_ = ends_of_1.2)) = true then (some ends_of_1.1) else none))
noncomputable def p_ways_on : Nat → Web → (List Nat) → Nat → Nat → (List Nat) → Option (List (List Nat))
  | 0, _, _, _, _, _ => none
  | k + 1, web_, some_, here_, goal_, seen_ =>
    (if (decide (here_ = goal_)) = true then
      some ([([] : List Nat)] : List (List Nat))
    else
      (forP (fun (x_4 : Nat) (v_2 : (List (List Nat))) =>
        (p_beyond web_ x_4 here_).bind fun beyond_5 =>
        (if (beyond_5.isSome && (!omem beyond_5 seen_)) = true then
          (beyond_5).bind fun there_7 =>
          (addP seen_ ([there_7] : List Nat)).bind fun sum_8 =>
          (p_ways_on k web_ some_ there_7 goal_ sum_8).bind fun ways_on_9 =>
          (lcP (fun (_ : (List Nat)) => some true) (fun (x_10 : (List Nat)) => (addP ([x_4] : List Nat) x_10).bind fun sum_11 => some (sum_11 : (List Nat))) ways_on_9).bind fun lc_12 =>
          (addP v_2 lc_12).bind fun found_13 =>
          some found_13
        else
          some v_2)) some_ ([] : List (List Nat))).bind fun (w_14 : (List (List Nat))) =>
      some w_14)
noncomputable def p_detours_by (web_ : Web) (road_ : Nat) (some_ : (List Nat)) : Option (List (List Nat)) :=
  (p_ends_of web_ road_).bind fun ends_of_1 =>
  (lcT (fun (x_2 : Nat) => (decide (x_2 ≠ road_))) (fun (x_2 : Nat) => x_2) some_).bind fun lc_3 =>
  (p_ways_on 7 web_ lc_3 ends_of_1.1 ends_of_1.2 ([ends_of_1.1] : List Nat)).bind fun ways_on_4 =>
  (sortP (tC nD) ways_on_4).bind fun srt_5 =>
  some srt_5
noncomputable def p_detours (web_ : Web) (road_ : Nat) : Option (List (List Nat)) :=
  (p_other_roads web_ ([road_] : List Nat)).bind fun other_roads_1 =>
  (p_detours_by web_ road_ other_roads_1).bind fun detours_by_2 =>
  some detours_by_2
noncomputable def p_first_detour (web_ : Web) (road_ : Nat) (some_ : (List Nat)) : Option (Option (List Nat)) :=
  (p_detours_by web_ road_ some_).bind fun detours_by_1 =>
  (if (decide (detours_by_1 ≠ ([] : List (List Nat)))) = true then (detours_by_1[(0 : Nat)]?).bind fun it_2 => some ((some it_2) : (Option (List Nat))) else some (none : (Option (List Nat)))).bind fun c_3 =>
  some c_3
noncomputable def p_first_side (web_ : Web) (road_ : Nat) (some_ : (List Nat)) : Option (Option (List Nat)) :=
  (p_ends_of web_ road_).bind fun ends_of_1 =>
  (lcP (fun (x_2 : Nat) => some (decide (x_2 ≠ road_))) (fun (x_2 : Nat) => (p_ends_of web_ x_2).bind fun ends_of_3 => some (ends_of_3 : (Nat × Nat))) some_).bind fun lc_4 =>
  (p_reached lc_4 ends_of_1.1).bind fun reached_5 =>
  some (if (decide (ends_of_1.2 ∈ reached_5)) = true then none else (some reached_5))
noncomputable def p_sides (web_ : Web) (road_ : Nat) : Option (List (List Nat)) :=
  (p_ends_of web_ road_).bind fun ends_of_1 =>
  (some (([([] : List Nat)] : List (List Nat)) : (List (List Nat)))).bind fun found_2 =>
  (rngP web_.n).bind fun rng_3 =>
  (forP (fun (x_6 : Nat) (v_4 : (List (List Nat))) =>
    (if (decide (x_6 = ends_of_1.1)) = true then
      (lcP (fun (_ : (List Nat)) => some true) (fun (x_8 : (List Nat)) => (addP x_8 ([x_6] : List Nat)).bind fun sum_9 => some (sum_9 : (List Nat))) v_4).bind fun lc_10 =>
      some lc_10
    else
      (if (decide (x_6 ≠ ends_of_1.2)) = true then
        (lcP (fun (_ : (List Nat)) => some true) (fun (x_12 : (List Nat)) => (addP x_12 ([x_6] : List Nat)).bind fun sum_13 => some (sum_13 : (List Nat))) v_4).bind fun lc_14 =>
        (addP v_4 lc_14).bind fun sum_15 =>
        some sum_15
      else
        some v_4))) rng_3 found_2).bind fun (w_16 : (List (List Nat))) =>
  (sortP (tC nD) w_16).bind fun srt_18 =>
  some srt_18
noncomputable def p_crossing (web_ : Web) (side_ : (List Nat)) : Option (List Nat) :=
  (rngP web_.rs.length).bind fun rng_1 =>
  (forP (fun (x_4 : Nat) (v_2 : (List Nat)) =>
    (p_ends_of web_ x_4).bind fun ends_of_5 =>
    (if (decide ((decide (ends_of_5.1 ∈ side_)) ≠ (decide (ends_of_5.2 ∈ side_)))) = true then
      (appP v_2 x_4).bind fun found_7 =>
      some found_7
    else
      some v_2)) rng_1 ([] : List Nat)).bind fun (w_8 : (List Nat)) =>
  some w_8
noncomputable def p_beside (web_ : Web) (road_ : Nat) (side_ : (List Nat)) : Option (List Nat) :=
  (p_crossing web_ side_).bind fun crossing_1 =>
  (lcT (fun (x_2 : Nat) => (decide (x_2 ≠ road_))) (fun (x_2 : Nat) => x_2) crossing_1).bind fun lc_3 =>
  some lc_3
noncomputable def p_choices (size_ : Nat) (many_ : Int) : Option (List (List Nat)) :=
  (some (([([] : List Nat)] : List (List Nat)) : (List (List Nat)))).bind fun found_1 =>
  (rokP many_).bind fun lo_2 =>
  (rngP (many_).toNat).bind fun rng_3 =>
  (forP (fun (x_6 : Nat) (v_4 : (List (List Nat))) =>
    (forP (fun (x_9 : (List Nat)) (v_7 : (List (List Nat))) =>
      (if (decide (x_9 ≠ ([] : List Nat))) = true then (x_9.getLast?).bind fun it_10 => some ((it_10 + (1 : Nat)) : Nat) else some ((0 : Nat) : Nat)).bind fun c_11 =>
      (rng2P c_11 size_).bind fun rng_12 =>
      (lcP (fun (_ : Nat) => some true) (fun (x_13 : Nat) => (addP x_9 ([x_13] : List Nat)).bind fun sum_14 => some (sum_14 : (List Nat))) rng_12).bind fun lc_15 =>
      (addP v_7 lc_15).bind fun longer_16 =>
      some longer_16) v_4 ([] : List (List Nat))).bind fun (w_17 : (List (List Nat))) =>
    some w_17) rng_3 found_1).bind fun (w_19 : (List (List Nat))) =>
  some w_19
noncomputable def p_do_join (web_ : Web) (roads_ : (List Nat)) : Option Bool :=
  (lcP (fun (_ : Nat) => some true) (fun (x_1 : Nat) => (p_ends_of web_ x_1).bind fun ends_of_2 => some (ends_of_2 : (Nat × Nat))) roads_).bind fun lc_3 =>
  (p_reached lc_3 (0 : Nat)).bind fun reached_4 =>
  some (decide (reached_4.length = web_.n))
noncomputable def p_trees (web_ : Web) : Option (List (List Nat)) :=
  (p_choices web_.rs.length ((web_.n : Int) - (1 : Int))).bind fun choices_1 =>
  (lcP (fun (x_2 : (List Nat)) => (p_do_join web_ x_2).bind fun do_join_3 => some do_join_3) (fun (x_2 : (List Nat)) => some (x_2 : (List Nat))) choices_1).bind fun lc_4 =>
  some lc_4
noncomputable def p_total (lengths_ : (List Nat)) (tree_ : (List Nat)) : Option Nat :=
  (lcP (fun (_ : Nat) => some true) (fun (x_1 : Nat) => (lengths_[x_1]?).bind fun it_2 => some (it_2 : Nat)) tree_).bind fun lc_3 =>
  some lc_3.sum
noncomputable def p_greedy (web_ : Web) (order_ : (List Nat)) : Option (List Nat) :=
  (rngP web_.n).bind fun rng_1 =>
  (forP (fun (x_4 : Nat) (v_2 : (List Nat) × (List Nat)) =>
    (p_ends_of web_ x_4).bind fun ends_of_5 =>
    (v_2.1[ends_of_5.1]?).bind fun it_6 =>
    (v_2.1[ends_of_5.2]?).bind fun it_7 =>
    (if (decide (it_6 ≠ it_7)) = true then
      (lcT (fun (_ : Nat) => true) (fun (x_9 : Nat) => (if (decide (x_9 = it_7)) = true then it_6 else x_9)) v_2.1).bind fun lc_10 =>
      (appP v_2.2 x_4).bind fun found_11 =>
      some (lc_10, found_11)
    else
      some (v_2.1, v_2.2))) order_ (rng_1, ([] : List Nat))).bind fun (w_12 : (List Nat) × (List Nat)) =>
  (sortP nD w_12.2).bind fun srt_14 =>
  some srt_14
noncomputable def p_one_least (web_ : Web) (lengths_ : (List Nat)) : Option (List Nat) :=
  (rngP web_.rs.length).bind fun rng_1 =>
  (sortAP lengths_ rng_1).bind fun srt_2 =>
  (p_greedy web_ srt_2).bind fun greedy_3 =>
  some greedy_3
noncomputable def p_least_total (web_ : Web) (lengths_ : (List Nat)) : Option Nat :=
  (p_one_least web_ lengths_).bind fun one_least_1 =>
  (p_total lengths_ one_least_1).bind fun total_2 =>
  some total_2
noncomputable def p_least_trees (web_ : Web) (lengths_ : (List Nat)) : Option (List (List Nat)) :=
  (p_least_total web_ lengths_).bind fun least_total_1 =>
  (p_trees web_).bind fun trees_2 =>
  (lcP (fun (x_3 : (List Nat)) => (p_total lengths_ x_3).bind fun total_4 => some (decide (total_4 = least_total_1))) (fun (x_3 : (List Nat)) => some (x_3 : (List Nat))) trees_2).bind fun lc_5 =>
  some lc_5
noncomputable def p_used (web_ : Web) (lengths_ : (List Nat)) : Option (List Nat) :=
  (p_least_trees web_ lengths_).bind fun least_trees_1 =>
  (rngP web_.rs.length).bind fun rng_2 =>
  (lcP (fun (x_3 : Nat) => (lcT (fun (_ : (List Nat)) => true) (fun (x_4 : (List Nat)) => (decide (x_3 ∈ x_4))) least_trees_1).bind fun lc_5 => some (lc_5.any id)) (fun (x_3 : Nat) => some (x_3 : Nat)) rng_2).bind fun lc_6 =>
  some lc_6
noncomputable def p_needed (web_ : Web) (lengths_ : (List Nat)) : Option (List Nat) :=
  (p_least_trees web_ lengths_).bind fun least_trees_1 =>
  (rngP web_.rs.length).bind fun rng_2 =>
  (lcP (fun (x_3 : Nat) => (lcT (fun (_ : (List Nat)) => true) (fun (x_4 : (List Nat)) => (decide (x_3 ∈ x_4))) least_trees_1).bind fun lc_5 => some (lc_5.all id)) (fun (x_3 : Nat) => some (x_3 : Nat)) rng_2).bind fun lc_6 =>
  some lc_6
noncomputable def p_shorter (web_ : Web) (road_ : Nat) : Option (List Nat) :=
  (p_other_roads web_ ([road_] : List Nat)).bind fun other_roads_1 =>
  (lcP (fun (x_2 : Nat) => (p_high_of web_ x_2).bind fun high_of_3 => (p_low_of web_ road_).bind fun low_of_4 => some (decide (high_of_3 < low_of_4))) (fun (x_2 : Nat) => some (x_2 : Nat)) other_roads_1).bind fun lc_5 =>
  some lc_5
noncomputable def p_find_bar (web_ : Web) (road_ : Nat) : Option (Option (List Nat)) :=
  (p_shorter web_ road_).bind fun shorter_1 =>
  (p_first_detour web_ road_ shorter_1).bind fun first_detour_2 =>
  some first_detour_2
noncomputable def p_find_used (web_ : Web) (road_ : Nat) : Option (Option (List Nat)) :=
  (p_find_bar web_ road_).bind fun find_bar_1 =>
  (if find_bar_1.isNone = true then (p_other_roads web_ ([road_] : List Nat)).bind fun other_roads_2 => (p_raised web_ other_roads_2).bind fun raised_3 => some ((some raised_3) : (Option (List Nat))) else some (none : (Option (List Nat)))).bind fun c_4 =>
  some c_4
noncomputable def p_perhaps_shorter (web_ : Web) (road_ : Nat) : Option (List Nat) :=
  (p_other_roads web_ ([road_] : List Nat)).bind fun other_roads_1 =>
  (lcP (fun (x_2 : Nat) => (p_low_of web_ x_2).bind fun low_of_3 => (p_high_of web_ road_).bind fun high_of_4 => some (decide (low_of_3 < high_of_4))) (fun (x_2 : Nat) => some (x_2 : Nat)) other_roads_1).bind fun lc_5 =>
  some lc_5
noncomputable def p_find_hold (web_ : Web) (road_ : Nat) : Option (Option (List Nat)) :=
  (p_perhaps_shorter web_ road_).bind fun perhaps_shorter_1 =>
  (p_first_side web_ road_ perhaps_shorter_1).bind fun first_side_2 =>
  some first_side_2
noncomputable def p_find_unused (web_ : Web) (road_ : Nat) : Option (Option (List Nat)) :=
  (p_find_hold web_ road_).bind fun find_hold_1 =>
  (if find_hold_1.isNone = true then (p_raised web_ ([road_] : List Nat)).bind fun raised_2 => some ((some raised_2) : (Option (List Nat))) else some (none : (Option (List Nat)))).bind fun c_3 =>
  some c_3
noncomputable def p_no_longer (web_ : Web) (road_ : Nat) : Option (List Nat) :=
  (p_other_roads web_ ([road_] : List Nat)).bind fun other_roads_1 =>
  (lcP (fun (x_2 : Nat) => (p_high_of web_ x_2).bind fun high_of_3 => (p_low_of web_ road_).bind fun low_of_4 => some (decide (high_of_3 ≤ low_of_4))) (fun (x_2 : Nat) => some (x_2 : Nat)) other_roads_1).bind fun lc_5 =>
  some lc_5
noncomputable def p_find_spare (web_ : Web) (road_ : Nat) : Option (Option (List Nat)) :=
  (p_no_longer web_ road_).bind fun no_longer_1 =>
  (p_first_detour web_ road_ no_longer_1).bind fun first_detour_2 =>
  some first_detour_2
noncomputable def p_find_needed (web_ : Web) (road_ : Nat) : Option (Option (List Nat)) :=
  (p_find_spare web_ road_).bind fun find_spare_1 =>
  (if find_spare_1.isNone = true then (p_other_roads web_ ([road_] : List Nat)).bind fun other_roads_2 => (p_raised web_ other_roads_2).bind fun raised_3 => some ((some raised_3) : (Option (List Nat))) else some (none : (Option (List Nat)))).bind fun c_4 =>
  some c_4
noncomputable def p_perhaps_no_longer (web_ : Web) (road_ : Nat) : Option (List Nat) :=
  (p_other_roads web_ ([road_] : List Nat)).bind fun other_roads_1 =>
  (lcP (fun (x_2 : Nat) => (p_low_of web_ x_2).bind fun low_of_3 => (p_high_of web_ road_).bind fun high_of_4 => some (decide (low_of_3 ≤ high_of_4))) (fun (x_2 : Nat) => some (x_2 : Nat)) other_roads_1).bind fun lc_5 =>
  some lc_5
noncomputable def p_find_force (web_ : Web) (road_ : Nat) : Option (Option (List Nat)) :=
  (p_perhaps_no_longer web_ road_).bind fun perhaps_no_longer_1 =>
  (p_first_side web_ road_ perhaps_no_longer_1).bind fun first_side_2 =>
  some first_side_2
noncomputable def p_find_unneeded (web_ : Web) (road_ : Nat) : Option (Option (List Nat)) :=
  (p_find_force web_ road_).bind fun find_force_1 =>
  (if find_force_1.isNone = true then (p_raised web_ ([road_] : List Nat)).bind fun raised_2 => some ((some raised_2) : (Option (List Nat))) else some (none : (Option (List Nat)))).bind fun c_3 =>
  some c_3
noncomputable def p_word_for (against_ : (Option (List Nat))) (for_it_ : (Option (List Nat))) : Option Str :=
  (if against_.isSome = true then
    some ("never" : Str)
  else
    some (if for_it_.isSome = true then ("always" : Str) else ("sometimes" : Str)))
noncomputable def p_used_status (web_ : Web) : Option (List Str) :=
  (rngP web_.rs.length).bind fun rng_1 =>
  (lcP (fun (_ : Nat) => some true) (fun (x_2 : Nat) => (p_find_bar web_ x_2).bind fun find_bar_3 => (p_find_hold web_ x_2).bind fun find_hold_4 => (p_word_for find_bar_3 find_hold_4).bind fun word_for_5 => some (word_for_5 : Str)) rng_1).bind fun lc_6 =>
  some lc_6
noncomputable def p_needed_status (web_ : Web) : Option (List Str) :=
  (rngP web_.rs.length).bind fun rng_1 =>
  (lcP (fun (_ : Nat) => some true) (fun (x_2 : Nat) => (p_find_spare web_ x_2).bind fun find_spare_3 => (p_find_force web_ x_2).bind fun find_force_4 => (p_word_for find_spare_3 find_force_4).bind fun word_for_5 => some (word_for_5 : Str)) rng_1).bind fun lc_6 =>
  some lc_6
noncomputable def p_exchanged (tree_ : (List Nat)) (out_ : Nat) (road_ : Nat) : Option (List Nat) :=
  (lcT (fun (x_1 : Nat) => (decide (x_1 ≠ out_))) (fun (x_1 : Nat) => x_1) tree_).bind fun lc_2 =>
  (addP lc_2 ([road_] : List Nat)).bind fun sum_3 =>
  (sortP nD sum_3).bind fun srt_4 =>
  some srt_4
noncomputable def p_exchanges (web_ : Web) (tree_ : (List Nat)) : Option (List (Nat × Nat)) :=
  (forP (fun (x_3 : Nat) (v_1 : (List (Nat × Nat))) =>
    (p_other_roads web_ tree_).bind fun other_roads_4 =>
    (forP (fun (x_7 : Nat) (v_5 : (List (Nat × Nat))) =>
      (p_exchanged tree_ x_3 x_7).bind fun exchanged_8 =>
      (p_do_join web_ exchanged_8).bind fun do_join_9 =>
      (if do_join_9 = true then
        (appP v_5 (x_3, x_7)).bind fun found_11 =>
        some found_11
      else
        some v_5)) other_roads_4 v_1).bind fun (w_12 : (List (Nat × Nat))) =>
    some w_12) tree_ ([] : List (Nat × Nat))).bind fun (w_14 : (List (Nat × Nat))) =>
  some w_14
noncomputable def p_find_sure_exchange (web_ : Web) (tree_ : (List Nat)) : Option (Option (Nat × Nat)) :=
  (p_exchanges web_ tree_).bind fun exchanges_1 =>
  (forC (R := (Option (Nat × Nat))) (fun (x_4 : (Nat × Nat)) (v_2 : Unit) =>
    (p_high_of web_ x_4.2).bind fun high_of_5 =>
    (p_low_of web_ x_4.1).bind fun low_of_6 =>
    (if (decide (high_of_5 < low_of_6)) = true then
      some (.rt (some (x_4.1, x_4.2)))
    else
      some (.nx ()))) exchanges_1 ()).bind (contC (fun r_11 => some r_11) fun (w_8 : Unit) =>
    some none)
noncomputable def p_find_least (web_ : Web) (tree_ : (List Nat)) : Option (Option (List Nat)) :=
  (p_find_sure_exchange web_ tree_).bind fun find_sure_exchange_1 =>
  (if find_sure_exchange_1.isNone = true then (p_other_roads web_ tree_).bind fun other_roads_2 => (p_raised web_ other_roads_2).bind fun raised_3 => some ((some raised_3) : (Option (List Nat))) else some (none : (Option (List Nat)))).bind fun c_4 =>
  some c_4
noncomputable def p_find_beaten (web_ : Web) (tree_ : (List Nat)) : Option (Option (List Nat)) :=
  (p_exchanges web_ tree_).bind fun exchanges_1 =>
  (lcP (fun (_ : (Nat × Nat)) => some true) (fun (x_2 : (Nat × Nat)) => (p_high_of web_ x_2.1).bind fun high_of_3 => (p_low_of web_ x_2.2).bind fun low_of_4 => some ((decide (high_of_3 ≤ low_of_4)) : Bool)) exchanges_1).bind fun lc_5 =>
  (if (lc_5.all id) = true then
    some none
  else
    (p_raised web_ tree_).bind fun raised_7 =>
    some (some raised_7))
noncomputable def p_tree_status (web_ : Web) (tree_ : (List Nat)) : Option Str :=
  (p_find_sure_exchange web_ tree_).bind fun find_sure_exchange_1 =>
  (if find_sure_exchange_1.isSome = true then
    some ("never" : Str)
  else
    (p_find_beaten web_ tree_).bind fun find_beaten_3 =>
    some (if find_beaten_3.isNone = true then ("always" : Str) else ("sometimes" : Str)))
noncomputable def p_total_range (web_ : Web) : Option (Nat × Nat) :=
  (p_raised web_ ([] : List Nat)).bind fun raised_1 =>
  (p_least_total web_ raised_1).bind fun least_total_2 =>
  (p_other_roads web_ ([] : List Nat)).bind fun other_roads_3 =>
  (p_raised web_ other_roads_3).bind fun raised_4 =>
  (p_least_total web_ raised_4).bind fun least_total_5 =>
  some (least_total_2, least_total_5)
noncomputable def p_find_total (web_ : Web) (number_ : Int) : Option (Option (List Nat)) :=
  (p_total_range web_).bind fun total_range_1 =>
  (if (!(decide ((total_range_1.1 : Int) ≤ number_) && decide (number_ ≤ (total_range_1.2 : Int)))) = true then
    some none
  else
    (p_raised web_ ([] : List Nat)).bind fun raised_3 =>
    (p_other_roads web_ ([] : List Nat)).bind fun other_roads_4 =>
    (p_raised web_ other_roads_4).bind fun raised_5 =>
    (p_walk raised_3 raised_5).bind fun walk_6 =>
    (forC (R := (Option (List Nat))) (fun (x_9 : (List Nat)) (v_7 : Unit) =>
      (p_least_total web_ x_9).bind fun least_total_10 =>
      (if (decide ((least_total_10 : Int) = number_)) = true then
        some (.rt (some x_9))
      else
        some (.nx ()))) walk_6 ()).bind (contC (fun r_15 => some r_15) fun (w_12 : Unit) =>
      some none))
noncomputable def p_regret (web_ : Web) (tree_ : (List Nat)) (lengths_ : (List Nat)) : Option Int :=
  (p_total lengths_ tree_).bind fun total_1 =>
  (p_least_total web_ lengths_).bind fun least_total_2 =>
  some ((total_1 : Int) - (least_total_2 : Int))
noncomputable def p_regret_range (web_ : Web) (tree_ : (List Nat)) : Option (Int × Int) :=
  (p_other_roads web_ tree_).bind fun other_roads_1 =>
  (p_raised web_ other_roads_1).bind fun raised_2 =>
  (p_regret web_ tree_ raised_2).bind fun regret_3 =>
  (p_raised web_ tree_).bind fun raised_4 =>
  (p_regret web_ tree_ raised_4).bind fun regret_5 =>
  some (regret_3, regret_5)
noncomputable def p_find_regret (web_ : Web) (tree_ : (List Nat)) (number_ : Int) : Option (Option (List Nat)) :=
  (p_regret_range web_ tree_).bind fun regret_range_1 =>
  (if (!(decide (regret_range_1.1 ≤ number_) && decide (number_ ≤ regret_range_1.2))) = true then
    some none
  else
    (p_other_roads web_ tree_).bind fun other_roads_3 =>
    (p_raised web_ other_roads_3).bind fun raised_4 =>
    (p_raised web_ tree_).bind fun raised_5 =>
    (p_walk raised_4 raised_5).bind fun walk_6 =>
    (forC (R := (Option (List Nat))) (fun (x_9 : (List Nat)) (v_7 : Unit) =>
      (p_regret web_ tree_ x_9).bind fun regret_10 =>
      (if (decide (regret_10 = number_)) = true then
        some (.rt (some x_9))
      else
        some (.nx ()))) walk_6 ()).bind (contC (fun r_15 => some r_15) fun (w_12 : Unit) =>
      some none))
noncomputable def p_with_length (web_ : Web) (road_ : Nat) (length_ : Nat) : Option Web :=
  (web_.rs[road_]?).bind fun it_1 =>
  (addP (web_.rs.take road_) ([(Rd.mk it_1.a it_1.b length_ length_)] : List Rd)).bind fun sum_2 =>
  (addP sum_2 (web_.rs.drop (road_ + (1 : Nat)))).bind fun sum_3 =>
  some (Web.mk web_.n sum_3)
noncomputable def p_is_settled (web_ : Web) : Option Bool :=
  (rngP web_.rs.length).bind fun rng_1 =>
  (sortCP web_ rng_1).bind fun srt_2 =>
  (p_greedy web_ srt_2).bind fun greedy_3 =>
  (p_find_beaten web_ greedy_3).bind fun find_beaten_4 =>
  some find_beaten_4.isNone
noncomputable def p_settled_tree (web_ : Web) : Option (Option (List Nat)) :=
  (p_is_settled web_).bind fun is_settled_1 =>
  (if (!is_settled_1) = true then
    some none
  else
    (p_trees web_).bind fun trees_3 =>
    (forC (R := (Option (List Nat))) (fun (x_6 : (List Nat)) (v_4 : Unit) =>
      (p_find_beaten web_ x_6).bind fun find_beaten_7 =>
      (if find_beaten_7.isNone = true then
        some (.rt (some x_6))
      else
        some (.nx ()))) trees_3 ()).bind (contC (fun r_12 => some r_12) fun (w_9 : Unit) =>
      some none))
noncomputable def p_settling (web_ : Web) (road_ : Nat) : Option (List Nat) :=
  (web_.rs[road_]?).bind fun it_1 =>
  (rng2P it_1.lo (it_1.hi + (1 : Nat))).bind fun rng_2 =>
  (lcP (fun (x_3 : Nat) => (p_with_length web_ road_ x_3).bind fun with_length_4 => (p_is_settled with_length_4).bind fun is_settled_5 => some is_settled_5) (fun (x_3 : Nat) => some (x_3 : Nat)) rng_2).bind fun lc_6 =>
  some lc_6
noncomputable def p_decided (plan_ : ((List Nat) × (List Nat))) : Option (List Nat) :=
  (addP plan_.1 plan_.2).bind fun sum_1 =>
  (sortTP nD sum_1).bind fun srt_2 =>
  some srt_2
noncomputable def p_find_side (web_ : Web) (plan_ : ((List Nat) × (List Nat))) (road_ : Nat) : Option (Option (List Nat)) :=
  (p_other_roads web_ plan_.2).bind fun other_roads_1 =>
  (lcP (fun (x_2 : Nat) => (orP (decide (x_2 ∈ plan_.1)) ((p_low_of web_ x_2).bind fun low_of_3 => (p_high_of web_ road_).bind fun high_of_4 => some (decide (low_of_3 < high_of_4)))).bind fun t_5 => some t_5) (fun (x_2 : Nat) => some (x_2 : Nat)) other_roads_1).bind fun lc_6 =>
  (p_first_side web_ road_ lc_6).bind fun first_side_7 =>
  some first_side_7
noncomputable def p_find_detour (web_ : Web) (plan_ : ((List Nat) × (List Nat))) (road_ : Nat) : Option (Option (List Nat)) :=
  (p_other_roads web_ plan_.2).bind fun other_roads_1 =>
  (lcP (fun (x_2 : Nat) => (p_high_of web_ x_2).bind fun high_of_3 => (p_low_of web_ road_).bind fun low_of_4 => some (decide (high_of_3 ≤ low_of_4))) (fun (x_2 : Nat) => some (x_2 : Nat)) other_roads_1).bind fun lc_5 =>
  (p_first_detour web_ road_ lc_5).bind fun first_detour_6 =>
  some first_detour_6
noncomputable def p_find_reason (web_ : Web) (plan_ : ((List Nat) × (List Nat))) (road_ : Nat) : Option (Option (List Nat)) :=
  (if (decide (road_ ∈ plan_.1)) = true then (p_find_side web_ plan_ road_).bind fun find_side_1 => some (find_side_1 : (Option (List Nat))) else (p_find_detour web_ plan_ road_).bind fun find_detour_2 => some (find_detour_2 : (Option (List Nat)))).bind fun c_3 =>
  some c_3
noncomputable def p_find_breach (web_ : Web) (plan_ : ((List Nat) × (List Nat))) : Option (Option (List Nat)) :=
  (p_decided plan_).bind fun decided_1 =>
  (forC (R := (Option (List Nat))) (fun (x_4 : Nat) (v_2 : Unit) =>
    (p_find_reason web_ plan_ x_4).bind fun find_reason_5 =>
    (if find_reason_5.isNone = true then
      (if (decide (x_4 ∈ plan_.1)) = true then some (([x_4] : List Nat) : (List Nat)) else (p_other_roads web_ ([x_4] : List Nat)).bind fun other_roads_7 => some (other_roads_7 : (List Nat))).bind fun c_8 =>
      (p_raised web_ c_8).bind fun raised_9 =>
      some (.rt (some raised_9))
    else
      some (.nx ()))) decided_1 ()).bind (contC (fun r_13 => some r_13) fun (w_10 : Unit) =>
    some none)
noncomputable def p_taken (plan_ : ((List Nat) × (List Nat))) (step_ : (Str × Nat)) : Option ((List Nat) × (List Nat)) :=
  (if (decide (step_.1 = ("build" : Str))) = true then
    (addP plan_.1 ([step_.2] : List Nat)).bind fun sum_2 =>
    (sortTP nD sum_2).bind fun srt_3 =>
    some (srt_3, plan_.2)
  else
    (addP plan_.2 ([step_.2] : List Nat)).bind fun sum_4 =>
    (sortTP nD sum_4).bind fun srt_5 =>
    some (plan_.1, srt_5))
noncomputable def p_holds (web_ : Web) (plan_ : ((List Nat) × (List Nat))) : Option Bool :=
  (p_find_breach web_ plan_).bind fun find_breach_1 =>
  some find_breach_1.isNone
noncomputable def p_options (web_ : Web) (plan_ : ((List Nat) × (List Nat))) : Option (List (Str × Nat)) :=
  (p_decided plan_).bind fun decided_1 =>
  (p_other_roads web_ decided_1).bind fun other_roads_2 =>
  (lcT (fun (_ : Nat) => true) (fun (x_3 : Nat) => (("build" : Str), x_3)) other_roads_2).bind fun lc_4 =>
  (lcT (fun (_ : Nat) => true) (fun (x_5 : Nat) => (("drop" : Str), x_5)) other_roads_2).bind fun lc_6 =>
  (addP lc_4 lc_6).bind fun sum_7 =>
  (lcP (fun (x_8 : (Str × Nat)) => (p_taken plan_ x_8).bind fun taken_9 => (p_holds web_ taken_9).bind fun holds_10 => some holds_10) (fun (x_8 : (Str × Nat)) => some (x_8 : (Str × Nat))) sum_7).bind fun lc_11 =>
  some lc_11
noncomputable def p_find_against (web_ : Web) (plan_ : ((List Nat) × (List Nat))) (step_ : (Str × Nat)) : Option (Option (List Nat)) :=
  (p_taken plan_ step_).bind fun taken_1 =>
  (p_find_breach web_ taken_1).bind fun find_breach_2 =>
  some find_breach_2
noncomputable def p_candidates (web_ : Web) (road_ : Nat) : Option (List Nat) :=
  (web_.rs[road_]?).bind fun it_1 =>
  (lcT (fun (x_2 : Rd) => (decide (it_1.lo < x_2.hi) && decide (x_2.hi < it_1.hi))) (fun (x_2 : Rd) => x_2.hi) web_.rs).bind fun lc_3 =>
  (addP ([it_1.lo, it_1.hi] : List Nat) lc_3).bind fun sum_4 =>
  (sortSetP sum_4).bind fun srt_5 =>
  some srt_5
noncomputable def p_openers (web_ : Web) (plan_ : ((List Nat) × (List Nat))) (step_ : (Str × Nat)) : Option (List Nat) :=
  (p_taken plan_ step_).bind fun taken_1 =>
  (p_other_roads web_ ([] : List Nat)).bind fun other_roads_2 =>
  (forP (fun (x_5 : Nat) (v_3 : (List Nat)) =>
    (p_candidates web_ x_5).bind fun candidates_6 =>
    (lcP (fun (_ : Nat) => some true) (fun (x_7 : Nat) => (p_with_length web_ x_5 x_7).bind fun with_length_8 => (p_holds with_length_8 taken_1).bind fun holds_9 => some (holds_9 : Bool)) candidates_6).bind fun lc_10 =>
    (if (lc_10.any id) = true then
      (appP v_3 x_5).bind fun found_12 =>
      some found_12
    else
      some v_3)) other_roads_2 ([] : List Nat)).bind fun (w_13 : (List Nat)) =>
  some w_13
noncomputable def p_clashes (web_ : Web) (plan_ : ((List Nat) × (List Nat))) : Option (List ((Str × Nat) × (Str × Nat))) :=
  (p_options web_ plan_).bind fun options_1 =>
  (forP (fun (x_4 : (Nat × (Str × Nat))) (v_2 : (List ((Str × Nat) × (Str × Nat)))) =>
    (forP (fun (x_7 : (Str × Nat)) (v_5 : (List ((Str × Nat) × (Str × Nat)))) =>
      (andP (decide (x_4.2.2 ≠ x_7.2)) ((p_taken plan_ x_4.2).bind fun taken_8 => (p_taken taken_8 x_7).bind fun taken_9 => (p_holds web_ taken_9).bind fun holds_10 => some (!holds_10))).bind fun t_11 =>
      (if t_11 = true then
        (appP v_5 (x_4.2, x_7)).bind fun found_13 =>
        some found_13
      else
        some v_5)) (options_1.drop (x_4.1 + (1 : Nat))) v_2).bind fun (w_14 : (List ((Str × Nat) × (Str × Nat)))) =>
    some w_14) (numd options_1) ([] : List ((Str × Nat) × (Str × Nat)))).bind fun (w_16 : (List ((Str × Nat) × (Str × Nat)))) =>
  some w_16
noncomputable def p_completed (web_ : Web) (plan_ : ((List Nat) × (List Nat))) : Option ((List Nat) × (List Nat)) :=
  (p_options web_ plan_).bind fun options_1 =>
  (whP (fun (v_2 : ((List Nat) × (List Nat)) × (List (Str × Nat))) => (neP0 (p2 D.str nD) v_2.2).bind fun ne_5 => some ne_5) (fun (v_2 : ((List Nat) × (List Nat)) × (List (Str × Nat))) =>
    (v_2.2[(0 : Nat)]?).bind fun it_6 =>
    (p_taken v_2.1 it_6).bind fun taken_7 =>
    (p_options web_ taken_7).bind fun options_8 =>
    some (taken_7, options_8)) 1000 (plan_, options_1)).bind fun (w_9 : ((List Nat) × (List Nat)) × (List (Str × Nat))) =>
  some w_9.1
end G

namespace G
open PySem PySem.Spec L2 Pv
noncomputable def p__law_take (amount : Nat) (st : List Cell) : Option (Nat × List Cell) := match m__law_take [.hd 0, nD amount] st with
  | some (.fro (.int v), st') => if 0 ≤ v then some (v.toNat, st') else none
  | _ => none
noncomputable def openP (ns : List Int) : Option (List Cell) := match m__law_open [.scr ns] [] with
  | some (.own d, []) => some [.d d]
  | _ => none

noncomputable def p__law_one_of (some_ : (List Nat)) (st : List Cell) : Option (Nat × List Cell) :=
  (p__law_take some_.length st).bind fun take_1 =>
  (some_[take_1.1]?).bind fun it_2 =>
  some (it_2, take_1.2)
noncomputable def p__law_draw_bounds (st : List Cell) : Option ((Nat × Nat) × List Cell) :=
  (p__law_take (10 : Nat) st).bind fun take_1 =>
  (p__law_take (100 : Nat) take_1.2).bind fun take_2 =>
  (p__law_one_of ([(0 : Nat), (1 : Nat), (2 : Nat), (3 : Nat), (5 : Nat), take_1.1, take_2.1] : List Nat) take_2.2).bind fun one_of_3 =>
  (p__law_take (10 : Nat) one_of_3.2).bind fun take_4 =>
  (p__law_take (100 : Nat) take_4.2).bind fun take_5 =>
  (p__law_one_of ([(0 : Nat), (0 : Nat), (1 : Nat), (2 : Nat), (4 : Nat), take_4.1, take_5.1] : List Nat) take_5.2).bind fun one_of_6 =>
  some ((one_of_3.1, (min (99 : Nat) (one_of_3.1 + one_of_6.1))), one_of_6.2)
noncomputable def p__law_draw_web (houses_ : Nat) (most_ : Nat) (st : List Cell) : Option (Web × List Cell) :=
  (p__law_take houses_ st).bind fun take_1 =>
  (some (((1 : Nat) + take_1.1) : Nat)).bind fun count_2 =>
  (rng2P (1 : Nat) count_2).bind fun rng_3 =>
  (forP (fun (x_6 : Nat) (v_4 : (List Rd) × List Cell) =>
    (p__law_take (v_4.1.length + (1 : Nat)) v_4.2).bind fun take_7 =>
    (p__law_take x_6 take_7.2).bind fun take_8 =>
    (p__law_draw_bounds take_8.2).bind fun draw_bounds_9 =>
    (insP v_4.1 take_7.1 (Rd.mk take_8.1 x_6 draw_bounds_9.1.1 draw_bounds_9.1.2)).bind fun roads_10 =>
    some (roads_10, draw_bounds_9.2)) rng_3 (([] : List Rd), take_1.2)).bind fun (w_11 : (List Rd) × List Cell) =>
  (p__law_take (most_ + (1 : Nat)) w_11.2).bind fun take_13 =>
  (rngP take_13.1).bind fun rng_14 =>
  (forP (fun (x_17 : Nat) (v_15 : (List Rd) × List Cell) =>
    (if ((decide ((1 : Nat) < count_2)) && (decide (v_15.1.length < most_))) = true then
      (natP ((count_2 : Int) - (1 : Int))).bind fun y_19 =>
      (p__law_take y_19 v_15.2).bind fun take_20 =>
      (some (((1 : Nat) + take_20.1) : Nat)).bind fun b_21 =>
      (p__law_take (v_15.1.length + (1 : Nat)) take_20.2).bind fun take_22 =>
      (p__law_take b_21 take_22.2).bind fun take_23 =>
      (p__law_draw_bounds take_23.2).bind fun draw_bounds_24 =>
      (insP v_15.1 take_22.1 (Rd.mk take_23.1 b_21 draw_bounds_24.1.1 draw_bounds_24.1.2)).bind fun roads_25 =>
      some (roads_25, draw_bounds_24.2)
    else
      some (v_15.1, v_15.2))) rng_14 (w_11.1, take_13.2)).bind fun (w_26 : (List Rd) × List Cell) =>
  (rngP count_2).bind fun rng_28 =>
  (forP (fun (x_31 : Nat) (v_29 : (List Nat) × List Cell) =>
    (p__law_take (x_31 + (1 : Nat)) v_29.2).bind fun take_32 =>
    (insP v_29.1 take_32.1 x_31).bind fun order_33 =>
    some (order_33, take_32.2)) rng_28 (([] : List Nat), w_26.2)).bind fun (w_34 : (List Nat) × List Cell) =>
  (forP (fun (x_38 : Rd) (v_36 : (List Rd)) =>
    (w_34.1[x_38.a]?).bind fun it_39 =>
    (w_34.1[x_38.b]?).bind fun it_40 =>
    (w_34.1[x_38.a]?).bind fun it_41 =>
    (w_34.1[x_38.b]?).bind fun it_42 =>
    (appP v_36 (Rd.mk (min it_39 it_40) (max it_41 it_42) x_38.lo x_38.hi)).bind fun turned_43 =>
    some turned_43) w_26.1 ([] : List Rd)).bind fun (w_44 : (List Rd)) =>
  some ((Web.mk count_2 w_44), w_34.2)
noncomputable def p__law_draw_lengths (web_ : Web) (st : List Cell) : Option ((List Nat) × List Cell) :=
  (lcS (fun (_ : Rd) z => some (true, z)) (fun (x_1 : Rd) z_2 => (natP (((x_1.hi : Int) - (x_1.lo : Int)) + (1 : Int))).bind fun y_3 => (p__law_take y_3 z_2).bind fun take_4 => some ((x_1.lo + take_4.1), take_4.2)) web_.rs st).bind fun lc_5 =>
  some (lc_5.1, lc_5.2)
noncomputable def p__law_raised (web_ : Web) (some_ : (List Nat)) : Option (List Nat) :=
  (lcT (fun (_ : (Nat × Rd)) => true) (fun (x_1 : (Nat × Rd)) => (if (decide (x_1.1 ∈ some_)) = true then x_1.2.hi else x_1.2.lo)) (numd web_.rs)).bind fun lc_2 =>
  some lc_2
noncomputable def p__law_reach (web_ : Web) (roads_ : (List Nat)) (house_ : Nat) : Option (List Nat) :=
  (whP (fun (v_1 : (List Nat) × (List Nat)) => some (decide (v_1.2 ≠ ([] : List Nat)))) (fun (v_1 : (List Nat) × (List Nat)) =>
    (popP v_1.2).bind fun waiting_4 =>
    (forP (fun (x_7 : Nat) (v_5 : (List Nat) × (List Nat)) =>
      (web_.rs[x_7]?).bind fun it_8 =>
      (forP (fun (x_11 : Nat) (v_9 : (List Nat) × (List Nat)) =>
        (if ((decide (waiting_4.1 ∈ ([it_8.a, it_8.b] : List Nat))) && (decide (x_11 ∉ v_9.1))) = true then
          (appP v_9.1 x_11).bind fun found_13 =>
          (appP v_9.2 x_11).bind fun waiting_14 =>
          some (found_13, waiting_14)
        else
          some (v_9.1, v_9.2))) ([it_8.a, it_8.b] : List Nat) (v_5.1, v_5.2)).bind fun (w_15 : (List Nat) × (List Nat)) =>
      some (w_15.1, w_15.2)) roads_ (v_1.1, waiting_4.2)).bind fun (w_17 : (List Nat) × (List Nat)) =>
    some (w_17.1, w_17.2)) 1000 (([house_] : List Nat), ([house_] : List Nat))).bind fun (w_19 : (List Nat) × (List Nat)) =>
  (sortP nD w_19.1).bind fun srt_21 =>
  some srt_21
noncomputable def p__law_is_apart (web_ : Web) (roads_ : (List Nat)) (road_ : Nat) : Option Bool :=
  (web_.rs[road_]?).bind fun it_1 =>
  (lcT (fun (x_2 : Nat) => (decide (x_2 ≠ road_))) (fun (x_2 : Nat) => x_2) roads_).bind fun lc_3 =>
  (p__law_reach web_ lc_3 it_1.a).bind fun reach_4 =>
  some (decide (it_1.b ∉ reach_4))
noncomputable def p__law_is_used (web_ : Web) (lengths_ : (List Nat)) (road_ : Nat) : Option Bool :=
  (lcP (fun (x_1 : (Nat × Nat)) => (lengths_[road_]?).bind fun it_2 => some (decide (x_1.2 < it_2))) (fun (x_1 : (Nat × Nat)) => some (x_1.1 : Nat)) (numd lengths_)).bind fun lc_3 =>
  (p__law_is_apart web_ lc_3 road_).bind fun is_apart_4 =>
  some is_apart_4
noncomputable def p__law_is_needed (web_ : Web) (lengths_ : (List Nat)) (road_ : Nat) : Option Bool :=
  (lcP (fun (x_1 : (Nat × Nat)) => (lengths_[road_]?).bind fun it_2 => some (decide (x_1.2 ≤ it_2))) (fun (x_1 : (Nat × Nat)) => some (x_1.1 : Nat)) (numd lengths_)).bind fun lc_3 =>
  (p__law_is_apart web_ lc_3 road_).bind fun is_apart_4 =>
  some is_apart_4
noncomputable def p_law (script_ : (List Int)) : Option (Bool × List Cell) :=
  (openP script_).bind fun st_1 =>
  (rngP (3 : Nat)).bind fun rng_2 =>
  (forC (R := Bool × List Cell) (fun (x_5 : Nat) (v_3 : List Cell) =>
    (([(10 : Nat), (7 : Nat), (5 : Nat)] : List Nat)[x_5]?).bind fun it_6 =>
    (p__law_draw_web (6 : Nat) it_6 v_3).bind fun draw_web_7 =>
    (reprP (webD draw_web_7.1)).bind fun rep_8 =>
    (rngP draw_web_7.1.rs.length).bind fun rng_9 =>
    (p__law_draw_lengths draw_web_7.1 draw_web_7.2).bind fun draw_lengths_10 =>
    (some (draw_lengths_10.1 : (List Nat))).bind fun first_11 =>
    (p__law_raised draw_web_7.1 ([] : List Nat)).bind fun raised_12 =>
    (p__law_raised draw_web_7.1 rng_9).bind fun raised_13 =>
    (forC (R := Bool × List Cell) (fun (x_16 : (List Nat)) (v_14 : Unit) =>
      (lcP (fun (x_17 : Nat) => (p__law_is_used draw_web_7.1 x_16 x_17).bind fun is_used_18 => some is_used_18) (fun (x_17 : Nat) => some (x_17 : Nat)) rng_9).bind fun lc_19 =>
      (lcP (fun (x_20 : Nat) => (p__law_is_needed draw_web_7.1 x_16 x_20).bind fun is_needed_21 => some is_needed_21) (fun (x_20 : Nat) => some (x_20 : Nat)) rng_9).bind fun lc_22 =>
      (p_used draw_web_7.1 x_16).bind fun used_23 =>
      (p_needed draw_web_7.1 x_16).bind fun needed_24 =>
      (toldP used_23 needed_24).bind fun tl_25 =>
      (sameP (h2 (lC nD) (lC nD)) (used_23, needed_24) (lc_19, lc_22)).bind fun same_26 =>
      (orP (!same_26) ((reprP (webD draw_web_7.1)).bind fun rep_27 => some (decide (rep_27 ≠ rep_8)))).bind fun t_28 =>
      (if t_28 = true then
        some (.rt (false, draw_lengths_10.2))
      else
        (andP (decide (x_5 = (2 : Nat))) ((p_used draw_web_7.1 x_16).bind fun used_30 => (p_needed draw_web_7.1 x_16).bind fun needed_31 => some (decide (([used_30, needed_31] : List (List Nat)) ≠ ([lc_19, lc_22] : List (List Nat)))))).bind fun t_32 =>
        (if t_32 = true then
          some (.rt (false, draw_lengths_10.2))
        else
          some (.nx ())))) ([first_11, raised_12, raised_13, first_11] : List (List Nat)) ()).bind (contC (fun r_37 => some (.rt r_37)) fun (w_34 : Unit) =>
      some (.nx draw_lengths_10.2))) rng_2 st_1).bind (contC (fun r_41 => some r_41) fun (w_38 : List Cell) =>
    some (true, w_38))
end G

namespace G
open PySem PySem.Spec L2 Pv
theorem q__law_take (amount : Nat) {st : List Cell} {r : Nat × List Cell} (hp : p__law_take amount st = some r) : m__law_take [.hd 0, nD amount] st = some (.fro (nD r.1), r.2) := by
  unfold p__law_take at hp
  split at hp
  · rename_i v st' e
    split at hp
    · rename_i h
      have he := Option.some.inj hp
      subst he
      rw [e]
      show _ = some (RV.fro (.int ((v.toNat : Nat) : Int)), st')
      rw [Int.toNat_of_nonneg h]
    · cases hp
  · cases hp
theorem openP_of {ns : List Int} {st : List Cell} (h : openP ns = some st) : ∃ d, m__law_open [.scr ns] [] = some (.own d, []) ∧ [Cell.d d] = st := by
  unfold openP at h
  split at h
  · rename_i d e
    exact ⟨d, e, Option.some.inj h⟩
  · cases h

theorem q__law_one_of (some_ : (List Nat)) {st : List Cell} {r : (Nat × List Cell)} (hp : p__law_one_of some_ st = some r) : m__law_one_of [.hd 0, (lC nD) some_] st = some (.fro (nD r.1), r.2) := by
  refine fn_R rfl ?_
  show S ev__law_one_of ⟨[.fro (.hd 0), .fro ((lC nD) some_)], st⟩ _
  unfold ev__law_one_of
  unfold p__law_one_of at hp
  obtain ⟨take_1, htake_1, hp⟩ := bs hp
  obtain ⟨it_2, hit_2, hp⟩ := bs hp
  refine S_ret (E_2 (O_slot rfl) (O_vf (E_callS (s' := ⟨[.fro (.hd 0), .fro ((lC nD) some_)], take_1.2⟩) (A_f (E_name rfl) (A_f (E_N (L_cons (O_slot rfl) L_nil) (o_lenL (f := nD) _)) A_nil)) (q__law_take some_.length htake_1) rfl)) (o_ixL (f := nD) hit_2)) ?_
  have he := Option.some.inj hp
  subst he
  exact ⟨rfl, rfl⟩
theorem q__law_draw_bounds {st : List Cell} {r : ((Nat × Nat) × List Cell)} (hp : p__law_draw_bounds st = some r) : m__law_draw_bounds [.hd 0] st = some (.fro ((p2 nD nD) r.1), r.2) := by
  refine fn_R rfl ?_
  show S ev__law_draw_bounds ⟨[.fro (.hd 0), .non], st⟩ _
  unfold ev__law_draw_bounds
  unfold p__law_draw_bounds at hp
  obtain ⟨take_1, htake_1, hp⟩ := bs hp
  obtain ⟨take_2, htake_2, hp⟩ := bs hp
  obtain ⟨one_of_3, hone_of_3, hp⟩ := bs hp
  refine S_seq (S_set (env' := [.fro (.hd 0), .fro (nD one_of_3.1)]) (E_callS (s' := ⟨[.fro (.hd 0), .non], one_of_3.2⟩) (A_f (E_name rfl) (A_o (E_lst (A_f (E_n 0 rfl) (A_f (E_n 1 rfl) (A_f (E_n 2 rfl) (A_f (E_n 3 rfl) (A_f (E_n 5 rfl) (A_f (E_callS (s' := ⟨[.fro (.hd 0), .non], take_1.2⟩) (A_f (E_name rfl) (A_f (E_n 10 rfl) A_nil)) (q__law_take (10 : Nat) htake_1) rfl) (A_f (E_callS (s' := ⟨[.fro (.hd 0), .non], take_2.2⟩) (A_f (E_name rfl) (A_f (E_n 100 rfl) A_nil)) (q__law_take (100 : Nat) htake_2) rfl) A_nil))))))) rfl) A_nil)) (q__law_one_of ([(0 : Nat), (1 : Nat), (2 : Nat), (3 : Nat), (5 : Nat), take_1.1, take_2.1] : List Nat) hone_of_3) rfl) rfl ?_)
  obtain ⟨take_4, htake_4, hp⟩ := bs hp
  obtain ⟨take_5, htake_5, hp⟩ := bs hp
  obtain ⟨one_of_6, hone_of_6, hp⟩ := bs hp
  refine S_ret (E_tup (A_f (E_name rfl) (A_f (E_N (L_cons (O_vf (E_n 99 rfl)) (L_cons (O_vf (E_2 (O_slot rfl) (O_vf (E_callS (s' := ⟨[.fro (.hd 0), .fro (nD one_of_3.1)], one_of_6.2⟩) (A_f (E_name rfl) (A_o (E_lst (A_f (E_n 0 rfl) (A_f (E_n 0 rfl) (A_f (E_n 1 rfl) (A_f (E_n 2 rfl) (A_f (E_n 4 rfl) (A_f (E_callS (s' := ⟨[.fro (.hd 0), .fro (nD one_of_3.1)], take_4.2⟩) (A_f (E_name rfl) (A_f (E_n 10 rfl) A_nil)) (q__law_take (10 : Nat) htake_4) rfl) (A_f (E_callS (s' := ⟨[.fro (.hd 0), .fro (nD one_of_3.1)], take_5.2⟩) (A_f (E_name rfl) (A_f (E_n 100 rfl) A_nil)) (q__law_take (100 : Nat) htake_5) rfl) A_nil))))))) rfl) A_nil)) (q__law_one_of ([(0 : Nat), (0 : Nat), (1 : Nat), (2 : Nat), (4 : Nat), take_4.1, take_5.1] : List Nat) hone_of_6) rfl)) (o_addN _ _))) L_nil)) (o_minN _ _)) A_nil)) rfl) ?_
  have he := Option.some.inj hp
  subst he
  exact ⟨rfl, rfl⟩
theorem q__law_draw_web (houses_ : Nat) (most_ : Nat) {st : List Cell} {r : (Web × List Cell)} (hp : p__law_draw_web houses_ most_ st = some r) : m__law_draw_web [.hd 0, nD houses_, nD most_] st = some (.fro (webD r.1), r.2) := by
  refine fn_R rfl ?_
  show S ev__law_draw_web ⟨[.fro (.hd 0), .fro (nD houses_), .fro (nD most_), .non, .non, .non, .non, .non, .non, .non, .non, .non, .non], st⟩ _
  unfold ev__law_draw_web
  unfold p__law_draw_web at hp
  obtain ⟨take_1, htake_1, hp⟩ := bs hp
  obtain ⟨count_2, hcount_2, hp⟩ := bs hp
  replace hcount_2 := Option.some.inj hcount_2
  refine S_seq (S_par (env' := [.fro (.hd 0), .fro (nD houses_), .fro (nD most_), .fro (nD count_2), .own ((lC rdD) ([] : List Rd)), .non, .non, .non, .non, .non, .non, .non, .non]) (E_as (E_2 (O_vf (E_n 1 rfl)) (O_vf (E_callS (s' := ⟨[.fro (.hd 0), .fro (nD houses_), .fro (nD most_), .non, .non, .non, .non, .non, .non, .non, .non, .non, .non], take_1.2⟩) (A_f (E_name rfl) (A_f (E_name rfl) A_nil)) (q__law_take houses_ htake_1) rfl)) (o_addN _ _)) (congrArg (fun z => RV.fro (nD z)) hcount_2)) (E_lst A_nil rfl) rfl ?_)
  obtain ⟨rng_3, hrng_3, hp⟩ := bs hp
  obtain ⟨w_11, hw_11, hp⟩ := bs hp
  refine S_seq (S_for nD (fun (v_4 : (List Rd) × List Cell) (g_5 : Slot × Unit) => (⟨[.fro (.hd 0), .fro (nD houses_), .fro (nD most_), .fro (nD count_2), .own ((lC rdD) v_4.1), g_5.1, .non, .non, .non, .non, .non, .non, .non], v_4.2⟩ : Sg)) (.non, ()) (I_rng2 (A_f (E_n 1 rfl) (A_f (E_name rfl) A_nil)) hrng_3) rfl hw_11 (fun x_6 v_4 w' g_5 hp => ?_) (fun g_12 => ?_))
  · refine ⟨⟨[.fro (.hd 0), .fro (nD houses_), .fro (nD most_), .fro (nD count_2), .own ((lC rdD) v_4.1), .fro (nD x_6), .non, .non, .non, .non, .non, .non, .non], v_4.2⟩, rfl, ?_⟩
    obtain ⟨take_7, htake_7, hp⟩ := bs hp
    obtain ⟨take_8, htake_8, hp⟩ := bs hp
    obtain ⟨draw_bounds_9, hdraw_bounds_9, hp⟩ := bs hp
    obtain ⟨roads_10, hroads_10, hp⟩ := bs hp
    refine S_dropM (M_mut (env' := [.fro (.hd 0), .fro (nD houses_), .fro (nD most_), .fro (nD count_2), .own ((lC rdD) roads_10), .fro (nD x_6), .non, .non, .non, .non, .non, .non, .non]) rfl rfl (A_f (E_callS (s' := ⟨[.fro (.hd 0), .fro (nD houses_), .fro (nD most_), .fro (nD count_2), .own ((lC rdD) v_4.1), .fro (nD x_6), .non, .non, .non, .non, .non, .non, .non], take_7.2⟩) (A_f (E_name rfl) (A_f (E_2 (O_vf (E_N (L_cons (O_slot rfl) L_nil) (o_lenL (f := rdD) _))) (O_vf (E_n 1 rfl)) (o_addN _ _)) A_nil)) (q__law_take (v_4.1.length + (1 : Nat)) htake_7) rfl) (A_f (E_2 (O_vf (E_tup (A_f (E_callS (s' := ⟨[.fro (.hd 0), .fro (nD houses_), .fro (nD most_), .fro (nD count_2), .own ((lC rdD) v_4.1), .fro (nD x_6), .non, .non, .non, .non, .non, .non, .non], take_8.2⟩) (A_f (E_name rfl) (A_f (E_name rfl) A_nil)) (q__law_take x_6 htake_8) rfl) (A_f (E_name rfl) A_nil)) rfl)) (O_vf (E_callS (s' := ⟨[.fro (.hd 0), .fro (nD houses_), .fro (nD most_), .fro (nD count_2), .own ((lC rdD) v_4.1), .fro (nD x_6), .non, .non, .non, .non, .non, .non, .non], draw_bounds_9.2⟩) (A_f (E_name rfl) A_nil) (q__law_draw_bounds hdraw_bounds_9) rfl)) (addT_b rfl)) A_nil)) rfl (o_ins (f := rdD) hroads_10) rfl) ?_
    have he := Option.some.inj hp
    subst he
    exact ⟨.inl rfl, (.fro (nD x_6), ()), rfl⟩
  obtain ⟨take_13, htake_13, hp⟩ := bs hp
  obtain ⟨rng_14, hrng_14, hp⟩ := bs hp
  obtain ⟨w_26, hw_26, hp⟩ := bs hp
  refine S_seq (S_for nD (fun (v_15 : (List Rd) × List Cell) (g_16 : Slot × Slot × Unit) => (⟨[.fro (.hd 0), .fro (nD houses_), .fro (nD most_), .fro (nD count_2), .own ((lC rdD) v_15.1), g_12.1, g_16.1, g_16.2.1, .non, .non, .non, .non, .non], v_15.2⟩ : Sg)) (.non, .non, ()) (I_rng1 (A_f (E_callS (s' := ⟨[.fro (.hd 0), .fro (nD houses_), .fro (nD most_), .fro (nD count_2), .own ((lC rdD) w_11.1), g_12.1, .non, .non, .non, .non, .non, .non, .non], take_13.2⟩) (A_f (E_name rfl) (A_f (E_2 (O_slot rfl) (O_vf (E_n 1 rfl)) (o_addN _ _)) A_nil)) (q__law_take (most_ + (1 : Nat)) htake_13) rfl) A_nil) hrng_14) rfl hw_26 (fun x_17 v_15 w' g_16 hp => ?_) (fun g_27 => ?_))
  · refine ⟨⟨[.fro (.hd 0), .fro (nD houses_), .fro (nD most_), .fro (nD count_2), .own ((lC rdD) v_15.1), g_12.1, .fro (nD x_17), g_16.2.1, .non, .non, .non, .non, .non], v_15.2⟩, rfl, ?_⟩
    refine S_if (B_and (B_B (E_2 (O_slot rfl) (O_vf (E_n 1 rfl)) (o_gtN _ _))) (B_B (E_2 (O_vf (E_N (L_cons (O_slot rfl) L_nil) (o_lenL (f := rdD) _))) (O_slot rfl) (o_ltN _ _)))) (fun hb_18 => ?_) (fun hb_18 => ?_)
    · have hp := ite_t hb_18 hp
      obtain ⟨y_19, hy_19, hp⟩ := bs hp
      obtain ⟨take_20, htake_20, hp⟩ := bs hp
      obtain ⟨b_21, hb_21, hp⟩ := bs hp
      replace hb_21 := Option.some.inj hb_21
      refine S_seq (S_set (env' := [.fro (.hd 0), .fro (nD houses_), .fro (nD most_), .fro (nD count_2), .own ((lC rdD) v_15.1), g_12.1, .fro (nD x_17), .fro (nD b_21), .non, .non, .non, .non, .non]) (E_as (E_2 (O_vf (E_n 1 rfl)) (O_vf (E_callS (s' := ⟨[.fro (.hd 0), .fro (nD houses_), .fro (nD most_), .fro (nD count_2), .own ((lC rdD) v_15.1), g_12.1, .fro (nD x_17), g_16.2.1, .non, .non, .non, .non, .non], take_20.2⟩) (A_f (E_name rfl) (A_f (E_nat hy_19 (E_2 (O_slot rfl) (O_vf E_c) (o_subI _ _))) A_nil)) (q__law_take y_19 htake_20) rfl)) (o_addN _ _)) (congrArg (fun z => RV.fro (nD z)) hb_21)) rfl ?_)
      obtain ⟨take_22, htake_22, hp⟩ := bs hp
      obtain ⟨take_23, htake_23, hp⟩ := bs hp
      obtain ⟨draw_bounds_24, hdraw_bounds_24, hp⟩ := bs hp
      obtain ⟨roads_25, hroads_25, hp⟩ := bs hp
      refine S_dropM (M_mut (env' := [.fro (.hd 0), .fro (nD houses_), .fro (nD most_), .fro (nD count_2), .own ((lC rdD) roads_25), g_12.1, .fro (nD x_17), .fro (nD b_21), .non, .non, .non, .non, .non]) rfl rfl (A_f (E_callS (s' := ⟨[.fro (.hd 0), .fro (nD houses_), .fro (nD most_), .fro (nD count_2), .own ((lC rdD) v_15.1), g_12.1, .fro (nD x_17), .fro (nD b_21), .non, .non, .non, .non, .non], take_22.2⟩) (A_f (E_name rfl) (A_f (E_2 (O_vf (E_N (L_cons (O_slot rfl) L_nil) (o_lenL (f := rdD) _))) (O_vf (E_n 1 rfl)) (o_addN _ _)) A_nil)) (q__law_take (v_15.1.length + (1 : Nat)) htake_22) rfl) (A_f (E_2 (O_vf (E_tup (A_f (E_callS (s' := ⟨[.fro (.hd 0), .fro (nD houses_), .fro (nD most_), .fro (nD count_2), .own ((lC rdD) v_15.1), g_12.1, .fro (nD x_17), .fro (nD b_21), .non, .non, .non, .non, .non], take_23.2⟩) (A_f (E_name rfl) (A_f (E_name rfl) A_nil)) (q__law_take b_21 htake_23) rfl) (A_f (E_name rfl) A_nil)) rfl)) (O_vf (E_callS (s' := ⟨[.fro (.hd 0), .fro (nD houses_), .fro (nD most_), .fro (nD count_2), .own ((lC rdD) v_15.1), g_12.1, .fro (nD x_17), .fro (nD b_21), .non, .non, .non, .non, .non], draw_bounds_24.2⟩) (A_f (E_name rfl) A_nil) (q__law_draw_bounds hdraw_bounds_24) rfl)) (addT_b rfl)) A_nil)) rfl (o_ins (f := rdD) hroads_25) rfl) ?_
      have he := Option.some.inj hp
      subst he
      exact ⟨.inl rfl, (.fro (nD x_17), .fro (nD b_21), ()), rfl⟩
    · have hp := ite_f hb_18 hp
      refine S_pass ?_
      have he := Option.some.inj hp
      subst he
      exact ⟨.inl rfl, (.fro (nD x_17), g_16.2.1, ()), rfl⟩
  refine S_seq (S_par (env' := [.fro (.hd 0), .fro (nD houses_), .fro (nD most_), .fro (nD count_2), .own ((lC rdD) w_26.1), g_12.1, g_27.1, g_27.2.1, .own ((lC nD) ([] : List Nat)), .own ((lC rdD) ([] : List Rd)), .non, .non, .non]) (E_lst A_nil rfl) (E_lst A_nil rfl) rfl ?_)
  obtain ⟨rng_28, hrng_28, hp⟩ := bs hp
  obtain ⟨w_34, hw_34, hp⟩ := bs hp
  refine S_seq (S_for nD (fun (v_29 : (List Nat) × List Cell) (g_30 : Slot × Unit) => (⟨[.fro (.hd 0), .fro (nD houses_), .fro (nD most_), .fro (nD count_2), .own ((lC rdD) w_26.1), g_30.1, g_27.1, g_27.2.1, .own ((lC nD) v_29.1), .own ((lC rdD) ([] : List Rd)), .non, .non, .non], v_29.2⟩ : Sg)) (g_12.1, ()) (I_rng1 (A_f (E_name rfl) A_nil) hrng_28) rfl hw_34 (fun x_31 v_29 w' g_30 hp => ?_) (fun g_35 => ?_))
  · refine ⟨⟨[.fro (.hd 0), .fro (nD houses_), .fro (nD most_), .fro (nD count_2), .own ((lC rdD) w_26.1), .fro (nD x_31), g_27.1, g_27.2.1, .own ((lC nD) v_29.1), .own ((lC rdD) ([] : List Rd)), .non, .non, .non], v_29.2⟩, rfl, ?_⟩
    obtain ⟨take_32, htake_32, hp⟩ := bs hp
    obtain ⟨order_33, horder_33, hp⟩ := bs hp
    refine S_dropM (M_mut (env' := [.fro (.hd 0), .fro (nD houses_), .fro (nD most_), .fro (nD count_2), .own ((lC rdD) w_26.1), .fro (nD x_31), g_27.1, g_27.2.1, .own ((lC nD) order_33), .own ((lC rdD) ([] : List Rd)), .non, .non, .non]) rfl rfl (A_f (E_callS (s' := ⟨[.fro (.hd 0), .fro (nD houses_), .fro (nD most_), .fro (nD count_2), .own ((lC rdD) w_26.1), .fro (nD x_31), g_27.1, g_27.2.1, .own ((lC nD) v_29.1), .own ((lC rdD) ([] : List Rd)), .non, .non, .non], take_32.2⟩) (A_f (E_name rfl) (A_f (E_2 (O_slot rfl) (O_vf (E_n 1 rfl)) (o_addN _ _)) A_nil)) (q__law_take (x_31 + (1 : Nat)) htake_32) rfl) (A_f (E_name rfl) A_nil)) rfl (o_ins (f := nD) horder_33) rfl) ?_
    have he := Option.some.inj hp
    subst he
    exact ⟨.inl rfl, (.fro (nD x_31), ()), rfl⟩
  obtain ⟨w_44, hw_44, hp⟩ := bs hp
  refine S_seq (S_for rdD (fun (v_36 : (List Rd)) (g_37 : Slot × Slot × Slot × Slot × Unit) => (⟨[.fro (.hd 0), .fro (nD houses_), .fro (nD most_), .fro (nD count_2), .fro ((lC rdD) w_26.1), g_35.1, g_27.1, g_37.1, .own ((lC nD) w_34.1), .own ((lC rdD) v_36), g_37.2.1, g_37.2.2.1, g_37.2.2.2.1], w_34.2⟩ : Sg)) (g_27.2.1, .non, .non, .non, ()) (I_seq (E_nameO (s' := ⟨[.fro (.hd 0), .fro (nD houses_), .fro (nD most_), .fro (nD count_2), .fro ((lC rdD) w_26.1), g_35.1, g_27.1, g_27.2.1, .own ((lC nD) w_34.1), .own ((lC rdD) ([] : List Rd)), .non, .non, .non], w_34.2⟩) rfl rfl) rfl) rfl hw_44 (fun x_38 v_36 w' g_37 hp => ?_) (fun g_45 => ?_))
  · refine ⟨⟨[.fro (.hd 0), .fro (nD houses_), .fro (nD most_), .fro (nD count_2), .fro ((lC rdD) w_26.1), g_35.1, g_27.1, .fro (nD x_38.b), .own ((lC nD) w_34.1), .own ((lC rdD) v_36), .fro (nD x_38.a), .fro (nD x_38.lo), .fro (nD x_38.hi)], w_34.2⟩, rfl, ?_⟩
    obtain ⟨it_39, hit_39, hp⟩ := bs hp
    obtain ⟨it_40, hit_40, hp⟩ := bs hp
    obtain ⟨it_41, hit_41, hp⟩ := bs hp
    obtain ⟨it_42, hit_42, hp⟩ := bs hp
    obtain ⟨turned_43, hturned_43, hp⟩ := bs hp
    refine S_dropM (M_mut (env' := [.fro (.hd 0), .fro (nD houses_), .fro (nD most_), .fro (nD count_2), .fro ((lC rdD) w_26.1), g_35.1, g_27.1, .fro (nD x_38.b), .own ((lC nD) w_34.1), .own ((lC rdD) turned_43), .fro (nD x_38.a), .fro (nD x_38.lo), .fro (nD x_38.hi)]) rfl rfl (A_f (E_tup (A_f (E_N (L_cons (O_vf (E_2 (O_slot rfl) (O_slot rfl) (o_ixL (f := nD) hit_39))) (L_cons (O_vf (E_2 (O_slot rfl) (O_slot rfl) (o_ixL (f := nD) hit_40))) L_nil)) (o_minN _ _)) (A_f (E_N (L_cons (O_vf (E_2 (O_slot rfl) (O_slot rfl) (o_ixL (f := nD) hit_41))) (L_cons (O_vf (E_2 (O_slot rfl) (O_slot rfl) (o_ixL (f := nD) hit_42))) L_nil)) (o_maxN _ _)) (A_f (E_name rfl) (A_f (E_name rfl) A_nil)))) rfl) A_nil) rfl (o_app (f := rdD) hturned_43) rfl) ?_
    have he := Option.some.inj hp
    subst he
    exact ⟨.inl rfl, (.fro (nD x_38.b), .fro (nD x_38.a), .fro (nD x_38.lo), .fro (nD x_38.hi), ()), rfl⟩
  refine S_ret (E_tup (A_f (E_name rfl) (A_f (E_N (L_cons (O_slot rfl) L_nil) (o_tupL (f := rdD) _)) A_nil)) rfl) ?_
  have he := Option.some.inj hp
  subst he
  exact ⟨rfl, rfl⟩
theorem q__law_draw_lengths (web_ : Web) {st : List Cell} {r : ((List Nat) × List Cell)} (hp : p__law_draw_lengths web_ st = some r) : m__law_draw_lengths [.hd 0, webD web_] st = some (.fro ((tC nD) r.1), r.2) := by
  refine fn_R rfl ?_
  show S ev__law_draw_lengths ⟨[.fro (.hd 0), .fro (webD web_), .non, .non, .non, .non], st⟩ _
  unfold ev__law_draw_lengths
  unfold p__law_draw_lengths at hp
  obtain ⟨lc_5, hlc_5, hp⟩ := bs hp
  refine S_ret (E_N (L_cons (O_vo (E_lcS rdD nD (cs := fun z => z) (env := [.fro (.hd 0), .fro (webD web_), .non, .non, .non, .non]) (s2 := ⟨[.fro (.hd 0), .fro (webD web_), .non, .non, .non, .non], st⟩) (s' := ⟨[.fro (.hd 0), .fro (webD web_), .non, .non, .non, .non], lc_5.2⟩) (I_seq (E_2 (O_slot rfl) (O_vf (E_n 1 rfl)) rfl) rfl) rfl rfl rfl rfl hlc_5 (fun x_1 z_2 b hb => by have he := Option.some.inj hb; subst he; exact ⟨⟨[.fro (.hd 0), .fro (webD web_), .fro (nD x_1.a), .fro (nD x_1.b), .fro (nD x_1.lo), .fro (nD x_1.hi)], z_2⟩, ⟨[.fro (.hd 0), .fro (webD web_), .fro (nD x_1.a), .fro (nD x_1.b), .fro (nD x_1.lo), .fro (nD x_1.hi)], z_2⟩, rfl, B_yes, rfl, fun _ yy hq => by obtain ⟨y_3, hy_3, hq⟩ := bs hq; obtain ⟨take_4, htake_4, hq⟩ := bs hq; have hq := Option.some.inj hq; subst hq; exact ⟨_, ⟨[.fro (.hd 0), .fro (webD web_), .fro (nD x_1.a), .fro (nD x_1.b), .fro (nD x_1.lo), .fro (nD x_1.hi)], take_4.2⟩, (E_2 (O_slot rfl) (O_vf (E_callS (s' := ⟨[.fro (.hd 0), .fro (webD web_), .fro (nD x_1.a), .fro (nD x_1.b), .fro (nD x_1.lo), .fro (nD x_1.hi)], take_4.2⟩) (A_f (E_name rfl) (A_f (E_nat hy_3 (E_2 (O_vf (E_2 (O_slot rfl) (O_slot rfl) (o_subI _ _))) (O_vf E_c) (o_addI _ _))) A_nil)) (q__law_take y_3 htake_4) rfl)) (o_addN _ _)), rfl, rfl⟩⟩))) L_nil) (o_tupL (f := nD) _)) ?_
  have he := Option.some.inj hp
  subst he
  exact ⟨rfl, rfl⟩
theorem q__law_raised (web_ : Web) (some_ : (List Nat)) {r : (List Nat)} (hp : p__law_raised web_ some_ = some r) (st : List Cell) : m__law_raised [webD web_, (lC nD) some_] st = some (.fro ((tC nD) r), st) := by
  refine fn_R rfl ?_
  show S ev__law_raised ⟨[.fro (webD web_), .fro ((lC nD) some_), .non, .non], st⟩ _
  unfold ev__law_raised
  unfold p__law_raised at hp
  obtain ⟨lc_2, hlc_2, hp⟩ := bs hp
  refine S_ret (E_N (L_cons (O_vo (E_lc (p2 nD rdD) nD (env := [.fro (webD web_), .fro ((lC nD) some_), .non, .non]) (s' := ⟨[.fro (webD web_), .fro ((lC nD) some_), .non, .non], st⟩) (I_args (A_f (E_2 (O_slot rfl) (O_vf (E_n 1 rfl)) rfl) A_nil) (o_enumT (f := rdD) _)) rfl rfl ((lcT_P _).trans hlc_2) (fun x_1 b hb => by skip; exact ⟨⟨[.fro (webD web_), .fro ((lC nD) some_), .fro (nD x_1.1), .fro (rdD x_1.2)], st⟩, ⟨[.fro (webD web_), .fro ((lC nD) some_), .fro (nD x_1.1), .fro (rdD x_1.2)], st⟩, rfl, B_as B_yes (Option.some.inj hb), rfl, fun _ yy hq => by skip; exact ⟨_, ⟨[.fro (webD web_), .fro ((lC nD) some_), .fro (nD x_1.1), .fro (rdD x_1.2)], st⟩, (E_iteT (f := nD) (u := x_1.2.hi) (v := x_1.2.lo) (B_B (E_2 (O_slot rfl) (O_slot rfl) (o_inL (f := nD) x_1.1 some_))) (E_2 (O_slot rfl) (O_vf (E_n 3 rfl)) rfl) (E_2 (O_slot rfl) (O_vf (E_n 2 rfl)) rfl)), congrArg nD (by first | exact Option.some.inj hq | exact (decide_eq_decide.mpr Iff.rfl).trans (Option.some.inj hq)), rfl⟩⟩))) L_nil) (o_tupL (f := nD) _)) ?_
  have he := Option.some.inj hp
  exact ⟨congrArg (fun z => Out.rt (RV.fro ((tC nD) z))) he, rfl⟩
theorem q__law_reach (web_ : Web) (roads_ : (List Nat)) (house_ : Nat) {r : (List Nat)} (hp : p__law_reach web_ roads_ house_ = some r) (st : List Cell) : m__law_reach [webD web_, (lC nD) roads_, nD house_] st = some (.own ((lC nD) r), st) := by
  refine fn_R rfl ?_
  show S ev__law_reach ⟨[.fro (webD web_), .fro ((lC nD) roads_), .fro (nD house_), .non, .non, .non, .non, .non, .non, .non], st⟩ _
  unfold ev__law_reach
  unfold p__law_reach at hp
  refine S_seq (S_par (env' := [.fro (webD web_), .fro ((lC nD) roads_), .fro (nD house_), .own ((lC nD) ([house_] : List Nat)), .own ((lC nD) ([house_] : List Nat)), .non, .non, .non, .non, .non]) (E_lst (A_f (E_name rfl) A_nil) rfl) (E_lst (A_f (E_name rfl) A_nil) rfl) rfl ?_)
  obtain ⟨w_19, hw_19, hp⟩ := bs hp
  refine S_seq (S_wh (fun (v_1 : (List Nat) × (List Nat)) (g_2 : Slot × Slot × Slot × Slot × Slot × Unit) => (⟨[.fro (webD web_), .fro ((lC nD) roads_), .fro (nD house_), .own ((lC nD) v_1.1), .own ((lC nD) v_1.2), g_2.1, g_2.2.1, g_2.2.2.1, g_2.2.2.2.1, g_2.2.2.2.2.1], st⟩ : Sg)) (.non, .non, .non, .non, .non, ()) rfl hw_19 (fun v_1 g_2 b hq => by skip; exact B_as (B_B (E_2 (O_slot rfl) (O_vo (E_lst A_nil rfl)) (o_ne (f := (lC nD)) v_1.2 ([] : List Nat)))) (Option.some.inj hq)) (fun v_1 w' g_2 hp => ?_) (fun g_20 => ?_))
  · obtain ⟨waiting_4, hwaiting_4, hp⟩ := bs hp
    refine S_seq (S_setM (env' := [.fro (webD web_), .fro ((lC nD) roads_), .fro (nD house_), .own ((lC nD) v_1.1), .own ((lC nD) waiting_4.2), .fro (nD waiting_4.1), g_2.2.1, g_2.2.2.1, g_2.2.2.2.1, g_2.2.2.2.2.1]) (M_mut (env' := [.fro (webD web_), .fro ((lC nD) roads_), .fro (nD house_), .own ((lC nD) v_1.1), .own ((lC nD) waiting_4.2), g_2.1, g_2.2.1, g_2.2.2.1, g_2.2.2.2.1, g_2.2.2.2.2.1]) rfl rfl A_nil rfl (o_pop (f := nD) hwaiting_4) rfl) rfl ?_)
    obtain ⟨w_17, hw_17, hp⟩ := bs hp
    refine S_for nD (fun (v_5 : (List Nat) × (List Nat)) (g_6 : Slot × Slot × Slot × Slot × Unit) => (⟨[.fro (webD web_), .fro ((lC nD) roads_), .fro (nD house_), .own ((lC nD) v_5.1), .own ((lC nD) v_5.2), .fro (nD waiting_4.1), g_6.1, g_6.2.1, g_6.2.2.1, g_6.2.2.2.1], st⟩ : Sg)) (g_2.2.1, g_2.2.2.1, g_2.2.2.2.1, g_2.2.2.2.2.1, ()) (I_seq (E_name rfl) rfl) rfl hw_17 (fun x_7 v_5 w' g_6 hp => ?_) (fun g_18 => ?_)
    · refine ⟨⟨[.fro (webD web_), .fro ((lC nD) roads_), .fro (nD house_), .own ((lC nD) v_5.1), .own ((lC nD) v_5.2), .fro (nD waiting_4.1), .fro (nD x_7), g_6.2.1, g_6.2.2.1, g_6.2.2.2.1], st⟩, rfl, ?_⟩
      obtain ⟨it_8, hit_8, hp⟩ := bs hp
      refine S_seq (S_asg (s2 := ⟨[.fro (webD web_), .fro ((lC nD) roads_), .fro (nD house_), .own ((lC nD) v_5.1), .own ((lC nD) v_5.2), .fro (nD waiting_4.1), .fro (nD x_7), .fro (nD it_8.a), .fro (nD it_8.b), g_6.2.2.2.1], st⟩) (E_sl (O_vf (E_2 (O_vf (E_2 (O_slot rfl) (O_vf (E_n 1 rfl)) rfl)) (O_slot rfl) (o_ixT (f := rdD) hit_8))) P_no (P_pt (O_vf (E_n 2 rfl))) rfl) rfl ?_)
      obtain ⟨w_15, hw_15, hp⟩ := bs hp
      refine S_for nD (fun (v_9 : (List Nat) × (List Nat)) (g_10 : Slot × Unit) => (⟨[.fro (webD web_), .fro ((lC nD) roads_), .fro (nD house_), .own ((lC nD) v_9.1), .own ((lC nD) v_9.2), .fro (nD waiting_4.1), .fro (nD x_7), .fro (nD it_8.a), .fro (nD it_8.b), g_10.1], st⟩ : Sg)) (g_6.2.2.2.1, ()) (I_seq (E_lst (A_f (E_name rfl) (A_f (E_name rfl) A_nil)) rfl) rfl) rfl hw_15 (fun x_11 v_9 w' g_10 hp => ?_) (fun g_16 => ?_)
      · refine ⟨⟨[.fro (webD web_), .fro ((lC nD) roads_), .fro (nD house_), .own ((lC nD) v_9.1), .own ((lC nD) v_9.2), .fro (nD waiting_4.1), .fro (nD x_7), .fro (nD it_8.a), .fro (nD it_8.b), .fro (nD x_11)], st⟩, rfl, ?_⟩
        refine S_if (B_and (B_B (E_2 (O_slot rfl) (O_vf (E_tup (A_f (E_name rfl) (A_f (E_name rfl) A_nil)) rfl)) (o_inT (f := nD) waiting_4.1 ([it_8.a, it_8.b] : List Nat)))) (B_B (E_2 (O_slot rfl) (O_slot rfl) (o_ninL (f := nD) x_11 v_9.1)))) (fun hb_12 => ?_) (fun hb_12 => ?_)
        · have hp := ite_t hb_12 hp
          obtain ⟨found_13, hfound_13, hp⟩ := bs hp
          refine S_seq (S_dropM (M_mut (env' := [.fro (webD web_), .fro ((lC nD) roads_), .fro (nD house_), .own ((lC nD) found_13), .own ((lC nD) v_9.2), .fro (nD waiting_4.1), .fro (nD x_7), .fro (nD it_8.a), .fro (nD it_8.b), .fro (nD x_11)]) rfl rfl (A_f (E_name rfl) A_nil) rfl (o_app (f := nD) hfound_13) rfl) ?_)
          obtain ⟨waiting_14, hwaiting_14, hp⟩ := bs hp
          refine S_dropM (M_mut (env' := [.fro (webD web_), .fro ((lC nD) roads_), .fro (nD house_), .own ((lC nD) found_13), .own ((lC nD) waiting_14), .fro (nD waiting_4.1), .fro (nD x_7), .fro (nD it_8.a), .fro (nD it_8.b), .fro (nD x_11)]) rfl rfl (A_f (E_name rfl) A_nil) rfl (o_app (f := nD) hwaiting_14) rfl) ?_
          have he := Option.some.inj hp
          subst he
          exact ⟨.inl rfl, (.fro (nD x_11), ()), rfl⟩
        · have hp := ite_f hb_12 hp
          refine S_pass ?_
          have he := Option.some.inj hp
          subst he
          exact ⟨.inl rfl, (.fro (nD x_11), ()), rfl⟩
      have he := Option.some.inj hp
      subst he
      exact ⟨.inl rfl, (.fro (nD x_7), .fro (nD it_8.a), .fro (nD it_8.b), g_16.1, ()), rfl⟩
    have he := Option.some.inj hp
    subst he
    exact ⟨.inl rfl, (.fro (nD waiting_4.1), g_18.1, g_18.2.1, g_18.2.2.1, g_18.2.2.2.1, ()), rfl⟩
  obtain ⟨srt_21, hsrt_21, hp⟩ := bs hp
  refine S_ret (E_N (L_cons (O_slot rfl) L_nil) (o_sortL (f := nD) hsrt_21)) ?_
  have he := Option.some.inj hp
  exact ⟨congrArg (fun z => Out.rt (RV.own ((lC nD) z))) he, rfl⟩
theorem q__law_is_apart (web_ : Web) (roads_ : (List Nat)) (road_ : Nat) {r : Bool} (hp : p__law_is_apart web_ roads_ road_ = some r) (st : List Cell) : m__law_is_apart [webD web_, (lC nD) roads_, nD road_] st = some (.fro (D.bl r), st) := by
  refine fn_R rfl ?_
  show S ev__law_is_apart ⟨[.fro (webD web_), .fro ((lC nD) roads_), .fro (nD road_), .non, .non, .non], st⟩ _
  unfold ev__law_is_apart
  unfold p__law_is_apart at hp
  obtain ⟨it_1, hit_1, hp⟩ := bs hp
  refine S_seq (S_asg (s2 := ⟨[.fro (webD web_), .fro ((lC nD) roads_), .fro (nD road_), .fro (nD it_1.a), .fro (nD it_1.b), .non], st⟩) (E_sl (O_vf (E_2 (O_vf (E_2 (O_slot rfl) (O_vf (E_n 1 rfl)) rfl)) (O_slot rfl) (o_ixT (f := rdD) hit_1))) P_no (P_pt (O_vf (E_n 2 rfl))) rfl) rfl ?_)
  obtain ⟨lc_3, hlc_3, hp⟩ := bs hp
  obtain ⟨reach_4, hreach_4, hp⟩ := bs hp
  refine S_ret (E_2 (O_slot rfl) (O_vo (E_call (A_f (E_name rfl) (A_o (E_lc nD nD (env := [.fro (webD web_), .fro ((lC nD) roads_), .fro (nD road_), .fro (nD it_1.a), .fro (nD it_1.b), .non]) (s' := ⟨[.fro (webD web_), .fro ((lC nD) roads_), .fro (nD road_), .fro (nD it_1.a), .fro (nD it_1.b), .non], st⟩) (I_seq (E_name rfl) rfl) rfl rfl ((lcT_P _).trans hlc_3) (fun x_2 b hb => by skip; exact ⟨⟨[.fro (webD web_), .fro ((lC nD) roads_), .fro (nD road_), .fro (nD it_1.a), .fro (nD it_1.b), .fro (nD x_2)], st⟩, ⟨[.fro (webD web_), .fro ((lC nD) roads_), .fro (nD road_), .fro (nD it_1.a), .fro (nD it_1.b), .fro (nD x_2)], st⟩, rfl, B_as (B_B (E_2 (O_slot rfl) (O_slot rfl) (o_ne (f := nD) x_2 road_))) (Option.some.inj hb), rfl, fun _ yy hq => by skip; exact ⟨_, ⟨[.fro (webD web_), .fro ((lC nD) roads_), .fro (nD road_), .fro (nD it_1.a), .fro (nD it_1.b), .fro (nD x_2)], st⟩, (E_name rfl), congrArg nD (Option.some.inj hq), rfl⟩⟩)) (A_f (E_name rfl) A_nil))) (q__law_reach web_ lc_3 it_1.a hreach_4 _))) (o_ninL (f := nD) it_1.b reach_4)) ?_
  have he := Option.some.inj hp
  exact ⟨congrArg (fun z => Out.rt (RV.fro (D.bl z))) he, rfl⟩
theorem q__law_is_used (web_ : Web) (lengths_ : (List Nat)) (road_ : Nat) {r : Bool} (hp : p__law_is_used web_ lengths_ road_ = some r) (st : List Cell) : m__law_is_used [webD web_, (tC nD) lengths_, nD road_] st = some (.fro (D.bl r), st) := by
  refine fn_R rfl ?_
  show S ev__law_is_used ⟨[.fro (webD web_), .fro ((tC nD) lengths_), .fro (nD road_), .non, .non], st⟩ _
  unfold ev__law_is_used
  unfold p__law_is_used at hp
  obtain ⟨lc_3, hlc_3, hp⟩ := bs hp
  obtain ⟨is_apart_4, his_apart_4, hp⟩ := bs hp
  refine S_ret (E_call (A_f (E_name rfl) (A_o (E_lc (p2 nD nD) nD (env := [.fro (webD web_), .fro ((tC nD) lengths_), .fro (nD road_), .non, .non]) (s' := ⟨[.fro (webD web_), .fro ((tC nD) lengths_), .fro (nD road_), .non, .non], st⟩) (I_args (A_f (E_name rfl) A_nil) (o_enumT (f := nD) _)) rfl rfl hlc_3 (fun x_1 b hb => by obtain ⟨it_2, hit_2, hb⟩ := bs hb; exact ⟨⟨[.fro (webD web_), .fro ((tC nD) lengths_), .fro (nD road_), .fro (nD x_1.1), .fro (nD x_1.2)], st⟩, ⟨[.fro (webD web_), .fro ((tC nD) lengths_), .fro (nD road_), .fro (nD x_1.1), .fro (nD x_1.2)], st⟩, rfl, B_as (B_B (E_2 (O_slot rfl) (O_vf (E_2 (O_slot rfl) (O_slot rfl) (o_ixT (f := nD) hit_2))) (o_ltN _ _))) (Option.some.inj hb), rfl, fun _ yy hq => by skip; exact ⟨_, ⟨[.fro (webD web_), .fro ((tC nD) lengths_), .fro (nD road_), .fro (nD x_1.1), .fro (nD x_1.2)], st⟩, (E_name rfl), congrArg nD (Option.some.inj hq), rfl⟩⟩)) (A_f (E_name rfl) A_nil))) (q__law_is_apart web_ lc_3 road_ his_apart_4 _)) ?_
  have he := Option.some.inj hp
  exact ⟨congrArg (fun z => Out.rt (RV.fro (D.bl z))) he, rfl⟩
theorem q__law_is_needed (web_ : Web) (lengths_ : (List Nat)) (road_ : Nat) {r : Bool} (hp : p__law_is_needed web_ lengths_ road_ = some r) (st : List Cell) : m__law_is_needed [webD web_, (tC nD) lengths_, nD road_] st = some (.fro (D.bl r), st) := by
  refine fn_R rfl ?_
  show S ev__law_is_needed ⟨[.fro (webD web_), .fro ((tC nD) lengths_), .fro (nD road_), .non, .non], st⟩ _
  unfold ev__law_is_needed
  unfold p__law_is_needed at hp
  obtain ⟨lc_3, hlc_3, hp⟩ := bs hp
  obtain ⟨is_apart_4, his_apart_4, hp⟩ := bs hp
  refine S_ret (E_call (A_f (E_name rfl) (A_o (E_lc (p2 nD nD) nD (env := [.fro (webD web_), .fro ((tC nD) lengths_), .fro (nD road_), .non, .non]) (s' := ⟨[.fro (webD web_), .fro ((tC nD) lengths_), .fro (nD road_), .non, .non], st⟩) (I_args (A_f (E_name rfl) A_nil) (o_enumT (f := nD) _)) rfl rfl hlc_3 (fun x_1 b hb => by obtain ⟨it_2, hit_2, hb⟩ := bs hb; exact ⟨⟨[.fro (webD web_), .fro ((tC nD) lengths_), .fro (nD road_), .fro (nD x_1.1), .fro (nD x_1.2)], st⟩, ⟨[.fro (webD web_), .fro ((tC nD) lengths_), .fro (nD road_), .fro (nD x_1.1), .fro (nD x_1.2)], st⟩, rfl, B_as (B_B (E_2 (O_slot rfl) (O_vf (E_2 (O_slot rfl) (O_slot rfl) (o_ixT (f := nD) hit_2))) (o_leN _ _))) (Option.some.inj hb), rfl, fun _ yy hq => by skip; exact ⟨_, ⟨[.fro (webD web_), .fro ((tC nD) lengths_), .fro (nD road_), .fro (nD x_1.1), .fro (nD x_1.2)], st⟩, (E_name rfl), congrArg nD (Option.some.inj hq), rfl⟩⟩)) (A_f (E_name rfl) A_nil))) (q__law_is_apart web_ lc_3 road_ his_apart_4 _)) ?_
  have he := Option.some.inj hp
  exact ⟨congrArg (fun z => Out.rt (RV.fro (D.bl z))) he, rfl⟩
theorem q_ends_of (web_ : Web) (road_ : Nat) {r : (Nat × Nat)} (hp : p_ends_of web_ road_ = some r) (st : List Cell) : m_ends_of [webD web_, nD road_] st = some (.fro ((p2 nD nD) r), st) := by
  refine fn_R rfl ?_
  show S ev_ends_of ⟨[.fro (webD web_), .fro (nD road_)], st⟩ _
  unfold ev_ends_of
  unfold p_ends_of at hp
  obtain ⟨it_1, hit_1, hp⟩ := bs hp
  refine S_ret (E_sl (O_vf (E_2 (O_vf (E_2 (O_slot rfl) (O_vf (E_n 1 rfl)) rfl)) (O_slot rfl) (o_ixT (f := rdD) hit_1))) P_no (P_pt (O_vf (E_n 2 rfl))) rfl) ?_
  have he := Option.some.inj hp
  exact ⟨congrArg (fun z => Out.rt (RV.fro ((p2 nD nD) z))) he, rfl⟩
theorem q_greedy (web_ : Web) (order_ : (List Nat)) {r : (List Nat)} (hp : p_greedy web_ order_ = some r) (st : List Cell) : m_greedy [webD web_, (lC nD) order_] st = some (.fro ((tC nD) r), st) := by
  refine fn_R rfl ?_
  show S ev_greedy ⟨[.fro (webD web_), .fro ((lC nD) order_), .non, .non, .non, .non, .non, .non, .non, .non], st⟩ _
  unfold ev_greedy
  unfold p_greedy at hp
  obtain ⟨rng_1, hrng_1, hp⟩ := bs hp
  refine S_seq (S_par (env' := [.fro (webD web_), .fro ((lC nD) order_), .own ((lC nD) rng_1), .own ((lC nD) ([] : List Nat)), .non, .non, .non, .non, .non, .non]) (E_rgL (E_2 (O_slot rfl) (O_vf (E_n 0 rfl)) rfl) hrng_1) (E_lst A_nil rfl) rfl ?_)
  obtain ⟨w_12, hw_12, hp⟩ := bs hp
  refine S_seq (S_for nD (fun (v_2 : (List Nat) × (List Nat)) (g_3 : Slot × Slot × Slot × Slot × Slot × Unit) => (⟨[.fro (webD web_), .fro ((lC nD) order_), .own ((lC nD) v_2.1), .own ((lC nD) v_2.2), g_3.1, g_3.2.1, g_3.2.2.1, g_3.2.2.2.1, g_3.2.2.2.2.1, .non], st⟩ : Sg)) (.non, .non, .non, .non, .non, ()) (I_seq (E_name rfl) rfl) rfl hw_12 (fun x_4 v_2 w' g_3 hp => ?_) (fun g_13 => ?_))
  · refine ⟨⟨[.fro (webD web_), .fro ((lC nD) order_), .own ((lC nD) v_2.1), .own ((lC nD) v_2.2), .fro (nD x_4), g_3.2.1, g_3.2.2.1, g_3.2.2.2.1, g_3.2.2.2.2.1, .non], st⟩, rfl, ?_⟩
    obtain ⟨ends_of_5, hends_of_5, hp⟩ := bs hp
    refine S_seq (S_asg (s2 := ⟨[.fro (webD web_), .fro ((lC nD) order_), .own ((lC nD) v_2.1), .own ((lC nD) v_2.2), .fro (nD x_4), .fro (nD ends_of_5.1), .fro (nD ends_of_5.2), g_3.2.2.2.1, g_3.2.2.2.2.1, .non], st⟩) (E_call (A_f (E_name rfl) (A_f (E_name rfl) A_nil)) (q_ends_of web_ x_4 hends_of_5 _)) rfl ?_)
    obtain ⟨it_6, hit_6, hp⟩ := bs hp
    obtain ⟨it_7, hit_7, hp⟩ := bs hp
    refine S_seq (S_par (env' := [.fro (webD web_), .fro ((lC nD) order_), .own ((lC nD) v_2.1), .own ((lC nD) v_2.2), .fro (nD x_4), .fro (nD ends_of_5.1), .fro (nD ends_of_5.2), .fro (nD it_6), .fro (nD it_7), .non]) (E_2 (O_slot rfl) (O_slot rfl) (o_ixL (f := nD) hit_6)) (E_2 (O_slot rfl) (O_slot rfl) (o_ixL (f := nD) hit_7)) rfl ?_)
    refine S_if (B_B (E_2 (O_slot rfl) (O_slot rfl) (o_ne (f := nD) it_6 it_7))) (fun hb_8 => ?_) (fun hb_8 => ?_)
    · have hp := ite_t hb_8 hp
      obtain ⟨lc_10, hlc_10, hp⟩ := bs hp
      refine S_seq (S_set (env' := [.fro (webD web_), .fro ((lC nD) order_), .own ((lC nD) lc_10), .own ((lC nD) v_2.2), .fro (nD x_4), .fro (nD ends_of_5.1), .fro (nD ends_of_5.2), .fro (nD it_6), .fro (nD it_7), .non]) (E_lc nD nD (env := [.fro (webD web_), .fro ((lC nD) order_), .fro ((lC nD) v_2.1), .non, .fro (nD x_4), .fro (nD ends_of_5.1), .fro (nD ends_of_5.2), .fro (nD it_6), .fro (nD it_7), .non]) (s' := ⟨[.fro (webD web_), .fro ((lC nD) order_), .fro ((lC nD) v_2.1), .own ((lC nD) v_2.2), .fro (nD x_4), .fro (nD ends_of_5.1), .fro (nD ends_of_5.2), .fro (nD it_6), .fro (nD it_7), .non], st⟩) (I_seq (E_nameO (s' := ⟨[.fro (webD web_), .fro ((lC nD) order_), .fro ((lC nD) v_2.1), .own ((lC nD) v_2.2), .fro (nD x_4), .fro (nD ends_of_5.1), .fro (nD ends_of_5.2), .fro (nD it_6), .fro (nD it_7), .non], st⟩) rfl rfl) rfl) rfl rfl ((lcT_P _).trans hlc_10) (fun x_9 b hb => by skip; exact ⟨⟨[.fro (webD web_), .fro ((lC nD) order_), .fro ((lC nD) v_2.1), .non, .fro (nD x_4), .fro (nD ends_of_5.1), .fro (nD ends_of_5.2), .fro (nD it_6), .fro (nD it_7), .fro (nD x_9)], st⟩, ⟨[.fro (webD web_), .fro ((lC nD) order_), .fro ((lC nD) v_2.1), .non, .fro (nD x_4), .fro (nD ends_of_5.1), .fro (nD ends_of_5.2), .fro (nD it_6), .fro (nD it_7), .fro (nD x_9)], st⟩, rfl, B_as B_yes (Option.some.inj hb), rfl, fun _ yy hq => by skip; exact ⟨_, ⟨[.fro (webD web_), .fro ((lC nD) order_), .fro ((lC nD) v_2.1), .non, .fro (nD x_4), .fro (nD ends_of_5.1), .fro (nD ends_of_5.2), .fro (nD it_6), .fro (nD it_7), .fro (nD x_9)], st⟩, (E_iteT (f := nD) (u := it_6) (v := x_9) (B_B (E_2 (O_slot rfl) (O_slot rfl) (o_eq (f := nD) x_9 it_7))) (E_name rfl) (E_name rfl)), congrArg nD (Option.some.inj hq), rfl⟩⟩)) rfl ?_)
      obtain ⟨found_11, hfound_11, hp⟩ := bs hp
      refine S_dropM (M_mut (env' := [.fro (webD web_), .fro ((lC nD) order_), .own ((lC nD) lc_10), .own ((lC nD) found_11), .fro (nD x_4), .fro (nD ends_of_5.1), .fro (nD ends_of_5.2), .fro (nD it_6), .fro (nD it_7), .non]) rfl rfl (A_f (E_name rfl) A_nil) rfl (o_app (f := nD) hfound_11) rfl) ?_
      have he := Option.some.inj hp
      subst he
      exact ⟨.inl rfl, (.fro (nD x_4), .fro (nD ends_of_5.1), .fro (nD ends_of_5.2), .fro (nD it_6), .fro (nD it_7), ()), rfl⟩
    · have hp := ite_f hb_8 hp
      refine S_pass ?_
      have he := Option.some.inj hp
      subst he
      exact ⟨.inl rfl, (.fro (nD x_4), .fro (nD ends_of_5.1), .fro (nD ends_of_5.2), .fro (nD it_6), .fro (nD it_7), ()), rfl⟩
  obtain ⟨srt_14, hsrt_14, hp⟩ := bs hp
  refine S_ret (E_N (L_cons (O_vo (E_N (L_cons (O_slot rfl) L_nil) (o_sortL (f := nD) hsrt_14))) L_nil) (o_tupL (f := nD) _)) ?_
  have he := Option.some.inj hp
  exact ⟨congrArg (fun z => Out.rt (RV.fro ((tC nD) z))) he, rfl⟩
theorem q_one_least (web_ : Web) (lengths_ : (List Nat)) {r : (List Nat)} (hp : p_one_least web_ lengths_ = some r) (st : List Cell) : m_one_least [webD web_, (tC nD) lengths_] st = some (.fro ((tC nD) r), st) := by
  refine fn_R rfl ?_
  show S ev_one_least ⟨[.fro (webD web_), .fro ((tC nD) lengths_)], st⟩ _
  unfold ev_one_least
  unfold p_one_least at hp
  obtain ⟨rng_1, hrng_1, hp⟩ := bs hp
  obtain ⟨srt_2, hsrt_2, hp⟩ := bs hp
  obtain ⟨greedy_3, hgreedy_3, hp⟩ := bs hp
  refine S_ret (E_call (A_f (E_name rfl) (A_o (E_sortR (keyA_ok lengths_) (E_N (L_cons (O_vf (E_2 (O_slot rfl) (O_vf (E_n 1 rfl)) rfl)) L_nil) (o_lenT (f := rdD) _)) hrng_1 rfl hsrt_2) A_nil)) (q_greedy web_ srt_2 hgreedy_3 _)) ?_
  have he := Option.some.inj hp
  exact ⟨congrArg (fun z => Out.rt (RV.fro ((tC nD) z))) he, rfl⟩
theorem q_total (lengths_ : (List Nat)) (tree_ : (List Nat)) {r : Nat} (hp : p_total lengths_ tree_ = some r) (st : List Cell) : m_total [(tC nD) lengths_, (tC nD) tree_] st = some (.fro (nD r), st) := by
  refine fn_R rfl ?_
  show S ev_total ⟨[.fro ((tC nD) lengths_), .fro ((tC nD) tree_), .non], st⟩ _
  unfold ev_total
  unfold p_total at hp
  obtain ⟨lc_3, hlc_3, hp⟩ := bs hp
  refine S_ret (E_N (L_cons (O_vo (E_lc nD nD (env := [.fro ((tC nD) lengths_), .fro ((tC nD) tree_), .non]) (s' := ⟨[.fro ((tC nD) lengths_), .fro ((tC nD) tree_), .non], st⟩) (I_seq (E_name rfl) rfl) rfl rfl hlc_3 (fun x_1 b hb => by skip; exact ⟨⟨[.fro ((tC nD) lengths_), .fro ((tC nD) tree_), .fro (nD x_1)], st⟩, ⟨[.fro ((tC nD) lengths_), .fro ((tC nD) tree_), .fro (nD x_1)], st⟩, rfl, B_as B_yes (Option.some.inj hb), rfl, fun _ yy hq => by obtain ⟨it_2, hit_2, hq⟩ := bs hq; exact ⟨_, ⟨[.fro ((tC nD) lengths_), .fro ((tC nD) tree_), .fro (nD x_1)], st⟩, (E_2 (O_slot rfl) (O_slot rfl) (o_ixT (f := nD) hit_2)), congrArg nD (Option.some.inj hq), rfl⟩⟩))) L_nil) (o_sumN _)) ?_
  have he := Option.some.inj hp
  exact ⟨congrArg (fun z => Out.rt (RV.fro (nD z))) he, rfl⟩
theorem q_least_total (web_ : Web) (lengths_ : (List Nat)) {r : Nat} (hp : p_least_total web_ lengths_ = some r) (st : List Cell) : m_least_total [webD web_, (tC nD) lengths_] st = some (.fro (nD r), st) := by
  refine fn_R rfl ?_
  show S ev_least_total ⟨[.fro (webD web_), .fro ((tC nD) lengths_)], st⟩ _
  unfold ev_least_total
  unfold p_least_total at hp
  obtain ⟨one_least_1, hone_least_1, hp⟩ := bs hp
  obtain ⟨total_2, htotal_2, hp⟩ := bs hp
  refine S_ret (E_call (A_f (E_name rfl) (A_f (E_call (A_f (E_name rfl) (A_f (E_name rfl) A_nil)) (q_one_least web_ lengths_ hone_least_1 _)) A_nil)) (q_total lengths_ one_least_1 htotal_2 _)) ?_
  have he := Option.some.inj hp
  exact ⟨congrArg (fun z => Out.rt (RV.fro (nD z))) he, rfl⟩
theorem q_choices (size_ : Nat) (many_ : Int) {r : (List (List Nat))} (hp : p_choices size_ many_ = some r) (st : List Cell) : ∃ rv, m_choices [nD size_, D.int many_] st = some (rv, st) ∧ rv.d = (lC (tC nD)) r := by
  refine fn_D rfl ?_
  show S ev_choices ⟨[.fro (nD size_), .fro (D.int many_), .non, .non, .non, .non, .non], st⟩ _
  unfold ev_choices
  unfold p_choices at hp
  obtain ⟨found_1, hfound_1, hp⟩ := bs hp
  replace hfound_1 := Option.some.inj hfound_1
  refine S_seq (S_set (env' := [.fro (nD size_), .fro (D.int many_), .own ((lC (tC nD)) found_1), .non, .non, .non, .non]) (E_as (E_lst (A_f (E_tup A_nil rfl) A_nil) rfl) (congrArg (fun z => RV.own ((lC (tC nD)) z)) hfound_1)) rfl ?_)
  obtain ⟨lo_2, hlo_2, hp⟩ := bs hp
  obtain ⟨rng_3, hrng_3, hp⟩ := bs hp
  obtain ⟨w_19, hw_19, hp⟩ := bs hp
  refine S_seq (S_for nD (fun (v_4 : (List (List Nat))) (g_5 : Slot × Slot × Slot × Bool × Unit) => (⟨[.fro (nD size_), .fro (D.int many_), (eiS g_5.2.2.2.1 ((lC (tC nD)) v_4)), g_5.1, g_5.2.1, g_5.2.2.1, .non], st⟩ : Sg)) (.non, .non, .non, true, ()) (I_rng1i (A_f (E_name rfl) A_nil) (rok_of hlo_2) hrng_3) rfl hw_19 (fun x_6 v_4 w' g_5 hp => ?_) (fun g_20 => ?_))
  · refine ⟨⟨[.fro (nD size_), .fro (D.int many_), (eiS g_5.2.2.2.1 ((lC (tC nD)) v_4)), .fro (nD x_6), g_5.2.1, g_5.2.2.1, .non], st⟩, rfl, ?_⟩
    refine S_seq (S_set (env' := [.fro (nD size_), .fro (D.int many_), (eiS g_5.2.2.2.1 ((lC (tC nD)) v_4)), .fro (nD x_6), .own ((lC (tC nD)) ([] : List (List Nat))), g_5.2.2.1, .non]) (E_lst A_nil rfl) rfl ?_)
    obtain ⟨w_17, hw_17, hp⟩ := bs hp
    refine S_seq (S_for (tC nD) (fun (v_7 : (List (List Nat))) (g_8 : Slot × Unit) => (⟨[.fro (nD size_), .fro (D.int many_), .fro ((lC (tC nD)) v_4), .fro (nD x_6), .own ((lC (tC nD)) v_7), g_8.1, .non], st⟩ : Sg)) (g_5.2.2.1, ()) (I_seq (E_nameE (s' := ⟨[.fro (nD size_), .fro (D.int many_), .fro ((lC (tC nD)) v_4), .fro (nD x_6), .own ((lC (tC nD)) ([] : List (List Nat))), g_5.2.2.1, .non], st⟩) rfl rfl) rfl) rfl hw_17 (fun x_9 v_7 w' g_8 hp => ?_) (fun g_18 => ?_))
    · refine ⟨⟨[.fro (nD size_), .fro (D.int many_), .fro ((lC (tC nD)) v_4), .fro (nD x_6), .own ((lC (tC nD)) v_7), .fro ((tC nD) x_9), .non], st⟩, rfl, ?_⟩
      obtain ⟨c_11, hc_11, hp⟩ := bs hp
      obtain ⟨rng_12, hrng_12, hp⟩ := bs hp
      obtain ⟨lc_15, hlc_15, hp⟩ := bs hp
      obtain ⟨longer_16, hlonger_16, hp⟩ := bs hp
      refine S_dropM (M_mut (env' := [.fro (nD size_), .fro (D.int many_), .fro ((lC (tC nD)) v_4), .fro (nD x_6), .own ((lC (tC nD)) longer_16), .fro ((tC nD) x_9), .non]) rfl rfl (A_o (E_lc nD (tC nD) (env := [.fro (nD size_), .fro (D.int many_), .fro ((lC (tC nD)) v_4), .fro (nD x_6), .non, .fro ((tC nD) x_9), .non]) (s' := ⟨[.fro (nD size_), .fro (D.int many_), .fro ((lC (tC nD)) v_4), .fro (nD x_6), .own ((lC (tC nD)) v_7), .fro ((tC nD) x_9), .non], st⟩) (I_rng2 (A_f (E_ite (r := .fro (nD c_11)) (s2 := ⟨[.fro (nD size_), .fro (D.int many_), .fro ((lC (tC nD)) v_4), .fro (nD x_6), .own ((lC (tC nD)) v_7), .fro ((tC nD) x_9), .non], st⟩) (B_B (E_2 (O_slot rfl) (O_vf (E_tup A_nil rfl)) (o_ne (f := (tC nD)) x_9 ([] : List Nat)))) (fun hc => by have hq := ite_t hc hc_11; obtain ⟨it_10, hit_10, hq⟩ := bs hq; exact E_as (E_2 (O_vf (E_2 (O_slot rfl) (O_vf (E_neg (O_vf E_c))) (o_ixTl (f := nD) hit_10))) (O_vf (E_n 1 rfl)) (o_addN _ _)) (congrArg (fun z => RV.fro (nD z)) (Option.some.inj hq))) (fun hc => by have hq := ite_f hc hc_11; skip; exact E_as (E_n 0 rfl) (congrArg (fun z => RV.fro (nD z)) (Option.some.inj hq)))) (A_f (E_name rfl) A_nil)) hrng_12) rfl rfl hlc_15 (fun x_13 b hb => by skip; exact ⟨⟨[.fro (nD size_), .fro (D.int many_), .fro ((lC (tC nD)) v_4), .fro (nD x_6), .non, .fro ((tC nD) x_9), .fro (nD x_13)], st⟩, ⟨[.fro (nD size_), .fro (D.int many_), .fro ((lC (tC nD)) v_4), .fro (nD x_6), .non, .fro ((tC nD) x_9), .fro (nD x_13)], st⟩, rfl, B_as B_yes (Option.some.inj hb), rfl, fun _ yy hq => by obtain ⟨sum_14, hsum_14, hq⟩ := bs hq; exact ⟨_, ⟨[.fro (nD size_), .fro (D.int many_), .fro ((lC (tC nD)) v_4), .fro (nD x_6), .non, .fro ((tC nD) x_9), .fro (nD x_13)], st⟩, (E_2 (O_slot rfl) (O_vf (E_tup (A_f (E_name rfl) A_nil) rfl)) (o_addT (f := nD) hsum_14)), congrArg (tC nD) (Option.some.inj hq), rfl⟩⟩)) A_nil) rfl (o_ext (f := (tC nD)) hlonger_16) rfl) ?_
      have he := Option.some.inj hp
      subst he
      exact ⟨.inl rfl, (.fro ((tC nD) x_9), ()), rfl⟩
    refine S_set (env' := [.fro (nD size_), .fro (D.int many_), .fro ((lC (tC nD)) w_17), .fro (nD x_6), .fro ((lC (tC nD)) w_17), g_18.1, .non]) (E_nameO (s' := ⟨[.fro (nD size_), .fro (D.int many_), .fro ((lC (tC nD)) v_4), .fro (nD x_6), .fro ((lC (tC nD)) w_17), g_18.1, .non], st⟩) rfl rfl) rfl ?_
    have he := Option.some.inj hp
    subst he
    exact ⟨.inl rfl, (.fro (nD x_6), .fro ((lC (tC nD)) w_17), g_18.1, false, ()), rfl⟩
  refine S_retE rfl fun rv s2 hdv hst => ?_
  have he := Option.some.inj hp
  subst he
  exact ⟨_, rfl, hdv, hst⟩
theorem q_reached (pairs_ : (List (Nat × Nat))) (house_ : Nat) {r : (List Nat)} (hp : p_reached pairs_ house_ = some r) (st : List Cell) : m_reached [(lC (p2 nD nD)) pairs_, nD house_] st = some (.own ((lC nD) r), st) := by
  refine fn_R rfl ?_
  show S ev_reached ⟨[.fro ((lC (p2 nD nD)) pairs_), .fro (nD house_), .non, .non, .non, .non], st⟩ _
  unfold ev_reached
  unfold p_reached at hp
  refine S_seq (S_par (env' := [.fro ((lC (p2 nD nD)) pairs_), .fro (nD house_), .own ((lC nD) ([house_] : List Nat)), .fro (D.bl true), .non, .non]) (E_lst (A_f (E_name rfl) A_nil) rfl) E_c rfl ?_)
  obtain ⟨w_11, hw_11, hp⟩ := bs hp
  refine S_seq (S_wh (fun (v_1 : (List Nat) × Bool) (g_2 : Slot × Slot × Unit) => (⟨[.fro ((lC (p2 nD nD)) pairs_), .fro (nD house_), .own ((lC nD) v_1.1), .fro (D.bl v_1.2), g_2.1, g_2.2.1], st⟩ : Sg)) (.non, .non, ()) rfl hw_11 (fun v_1 g_2 b hq => by skip; exact B_as (B_tru (O_slot rfl) rfl) (Option.some.inj hq)) (fun v_1 w' g_2 hp => ?_) (fun g_12 => ?_))
  · refine S_seq (S_set (env' := [.fro ((lC (p2 nD nD)) pairs_), .fro (nD house_), .own ((lC nD) v_1.1), .fro (D.bl false), g_2.1, g_2.2.1]) E_c rfl ?_)
    obtain ⟨w_9, hw_9, hp⟩ := bs hp
    refine S_for (p2 nD nD) (fun (v_4 : (List Nat) × Bool) (g_5 : Slot × Slot × Unit) => (⟨[.fro ((lC (p2 nD nD)) pairs_), .fro (nD house_), .own ((lC nD) v_4.1), .fro (D.bl v_4.2), g_5.1, g_5.2.1], st⟩ : Sg)) (g_2.1, g_2.2.1, ()) (I_seq (E_name rfl) rfl) rfl hw_9 (fun x_6 v_4 w' g_5 hp => ?_) (fun g_10 => ?_)
    · refine ⟨⟨[.fro ((lC (p2 nD nD)) pairs_), .fro (nD house_), .own ((lC nD) v_4.1), .fro (D.bl v_4.2), .fro (nD x_6.1), .fro (nD x_6.2)], st⟩, rfl, ?_⟩
      refine S_if (B_B (E_2 (O_vf (E_2 (O_slot rfl) (O_slot rfl) (o_inL (f := nD) x_6.1 v_4.1))) (O_vf (E_2 (O_slot rfl) (O_slot rfl) (o_inL (f := nD) x_6.2 v_4.1))) (o_ne (f := D.bl) (decide (x_6.1 ∈ v_4.1)) (decide (x_6.2 ∈ v_4.1))))) (fun hb_7 => ?_) (fun hb_7 => ?_)
      · have hp := ite_t hb_7 hp
        obtain ⟨found_8, hfound_8, hp⟩ := bs hp
        refine S_seq (S_dropM (M_mut (env' := [.fro ((lC (p2 nD nD)) pairs_), .fro (nD house_), .own ((lC nD) found_8), .fro (D.bl v_4.2), .fro (nD x_6.1), .fro (nD x_6.2)]) rfl rfl (A_f (E_iteT (f := nD) (u := x_6.2) (v := x_6.1) (B_B (E_2 (O_slot rfl) (O_slot rfl) (o_inL (f := nD) x_6.1 v_4.1))) (E_name rfl) (E_name rfl)) A_nil) rfl (o_app (f := nD) hfound_8) rfl) ?_)
        refine S_set (env' := [.fro ((lC (p2 nD nD)) pairs_), .fro (nD house_), .own ((lC nD) found_8), .fro (D.bl true), .fro (nD x_6.1), .fro (nD x_6.2)]) E_c rfl ?_
        have he := Option.some.inj hp
        subst he
        exact ⟨.inl rfl, (.fro (nD x_6.1), .fro (nD x_6.2), ()), rfl⟩
      · have hp := ite_f hb_7 hp
        refine S_pass ?_
        have he := Option.some.inj hp
        subst he
        exact ⟨.inl rfl, (.fro (nD x_6.1), .fro (nD x_6.2), ()), rfl⟩
    have he := Option.some.inj hp
    subst he
    exact ⟨.inl rfl, (g_10.1, g_10.2.1, ()), rfl⟩
  obtain ⟨srt_13, hsrt_13, hp⟩ := bs hp
  refine S_ret (E_N (L_cons (O_slot rfl) L_nil) (o_sortL (f := nD) hsrt_13)) ?_
  have he := Option.some.inj hp
  exact ⟨congrArg (fun z => Out.rt (RV.own ((lC nD) z))) he, rfl⟩
theorem q_do_join (web_ : Web) (roads_ : (List Nat)) {r : Bool} (hp : p_do_join web_ roads_ = some r) (st : List Cell) : m_do_join [webD web_, (tC nD) roads_] st = some (.fro (D.bl r), st) := by
  refine fn_R rfl ?_
  show S ev_do_join ⟨[.fro (webD web_), .fro ((tC nD) roads_), .non], st⟩ _
  unfold ev_do_join
  unfold p_do_join at hp
  obtain ⟨lc_3, hlc_3, hp⟩ := bs hp
  obtain ⟨reached_4, hreached_4, hp⟩ := bs hp
  refine S_ret (E_2 (O_vf (E_N (L_cons (O_vo (E_call (A_o (E_lc nD (p2 nD nD) (env := [.fro (webD web_), .fro ((tC nD) roads_), .non]) (s' := ⟨[.fro (webD web_), .fro ((tC nD) roads_), .non], st⟩) (I_seq (E_name rfl) rfl) rfl rfl hlc_3 (fun x_1 b hb => by skip; exact ⟨⟨[.fro (webD web_), .fro ((tC nD) roads_), .fro (nD x_1)], st⟩, ⟨[.fro (webD web_), .fro ((tC nD) roads_), .fro (nD x_1)], st⟩, rfl, B_as B_yes (Option.some.inj hb), rfl, fun _ yy hq => by obtain ⟨ends_of_2, hends_of_2, hq⟩ := bs hq; exact ⟨_, ⟨[.fro (webD web_), .fro ((tC nD) roads_), .fro (nD x_1)], st⟩, (E_call (A_f (E_name rfl) (A_f (E_name rfl) A_nil)) (q_ends_of web_ x_1 hends_of_2 _)), congrArg (p2 nD nD) (Option.some.inj hq), rfl⟩⟩)) (A_f (E_n 0 rfl) A_nil)) (q_reached lc_3 (0 : Nat) hreached_4 _))) L_nil) (o_lenL (f := nD) _))) (O_vf (E_2 (O_slot rfl) (O_vf (E_n 0 rfl)) rfl)) (o_eq (f := nD) reached_4.length web_.n)) ?_
  have he := Option.some.inj hp
  exact ⟨congrArg (fun z => Out.rt (RV.fro (D.bl z))) he, rfl⟩
theorem q_trees (web_ : Web) {r : (List (List Nat))} (hp : p_trees web_ = some r) (st : List Cell) : m_trees [webD web_] st = some (.own ((lC (tC nD)) r), st) := by
  refine fn_R rfl ?_
  show S ev_trees ⟨[.fro (webD web_), .non], st⟩ _
  unfold ev_trees
  unfold p_trees at hp
  obtain ⟨choices_1, hchoices_1, hp⟩ := bs hp
  obtain ⟨rvchoices_1, hmchoices_1, hdchoices_1⟩ := q_choices web_.rs.length ((web_.n : Int) - (1 : Int)) hchoices_1 st
  obtain ⟨lc_4, hlc_4, hp⟩ := bs hp
  refine S_ret (E_lc (tC nD) (tC nD) (env := [.fro (webD web_), .non]) (s' := ⟨[.fro (webD web_), .non], st⟩) (I_seq (E_call (A_f (E_N (L_cons (O_vf (E_2 (O_slot rfl) (O_vf (E_n 1 rfl)) rfl)) L_nil) (o_lenT (f := rdD) _)) (A_f (E_2 (O_vf (E_2 (O_slot rfl) (O_vf (E_n 0 rfl)) rfl)) (O_vf E_c) (o_subI _ _)) A_nil)) hmchoices_1) (by rw [hdchoices_1]; rfl)) rfl rfl hlc_4 (fun x_2 b hb => by obtain ⟨do_join_3, hdo_join_3, hb⟩ := bs hb; exact ⟨⟨[.fro (webD web_), .fro ((tC nD) x_2)], st⟩, ⟨[.fro (webD web_), .fro ((tC nD) x_2)], st⟩, rfl, B_as (B_tru (O_vf (E_call (A_f (E_name rfl) (A_f (E_name rfl) A_nil)) (q_do_join web_ x_2 hdo_join_3 _))) rfl) (Option.some.inj hb), rfl, fun _ yy hq => by skip; exact ⟨_, ⟨[.fro (webD web_), .fro ((tC nD) x_2)], st⟩, (E_name rfl), congrArg (tC nD) (Option.some.inj hq), rfl⟩⟩)) ?_
  have he := Option.some.inj hp
  exact ⟨congrArg (fun z => Out.rt (RV.own ((lC (tC nD)) z))) he, rfl⟩
theorem q_least_trees (web_ : Web) (lengths_ : (List Nat)) {r : (List (List Nat))} (hp : p_least_trees web_ lengths_ = some r) (st : List Cell) : m_least_trees [webD web_, (tC nD) lengths_] st = some (.own ((lC (tC nD)) r), st) := by
  refine fn_R rfl ?_
  show S ev_least_trees ⟨[.fro (webD web_), .fro ((tC nD) lengths_), .non, .non], st⟩ _
  unfold ev_least_trees
  unfold p_least_trees at hp
  obtain ⟨least_total_1, hleast_total_1, hp⟩ := bs hp
  refine S_seq (S_set (env' := [.fro (webD web_), .fro ((tC nD) lengths_), .fro (nD least_total_1), .non]) (E_call (A_f (E_name rfl) (A_f (E_name rfl) A_nil)) (q_least_total web_ lengths_ hleast_total_1 _)) rfl ?_)
  obtain ⟨trees_2, htrees_2, hp⟩ := bs hp
  obtain ⟨lc_5, hlc_5, hp⟩ := bs hp
  refine S_ret (E_lc (tC nD) (tC nD) (env := [.fro (webD web_), .fro ((tC nD) lengths_), .fro (nD least_total_1), .non]) (s' := ⟨[.fro (webD web_), .fro ((tC nD) lengths_), .fro (nD least_total_1), .non], st⟩) (I_seq (E_call (A_f (E_name rfl) A_nil) (q_trees web_ htrees_2 _)) rfl) rfl rfl hlc_5 (fun x_3 b hb => by obtain ⟨total_4, htotal_4, hb⟩ := bs hb; exact ⟨⟨[.fro (webD web_), .fro ((tC nD) lengths_), .fro (nD least_total_1), .fro ((tC nD) x_3)], st⟩, ⟨[.fro (webD web_), .fro ((tC nD) lengths_), .fro (nD least_total_1), .fro ((tC nD) x_3)], st⟩, rfl, B_as (B_B (E_2 (O_vf (E_call (A_f (E_name rfl) (A_f (E_name rfl) A_nil)) (q_total lengths_ x_3 htotal_4 _))) (O_slot rfl) (o_eq (f := nD) total_4 least_total_1))) (Option.some.inj hb), rfl, fun _ yy hq => by skip; exact ⟨_, ⟨[.fro (webD web_), .fro ((tC nD) lengths_), .fro (nD least_total_1), .fro ((tC nD) x_3)], st⟩, (E_name rfl), congrArg (tC nD) (Option.some.inj hq), rfl⟩⟩)) ?_
  have he := Option.some.inj hp
  exact ⟨congrArg (fun z => Out.rt (RV.own ((lC (tC nD)) z))) he, rfl⟩
theorem q_used (web_ : Web) (lengths_ : (List Nat)) {r : (List Nat)} (hp : p_used web_ lengths_ = some r) (st : List Cell) : m_used [webD web_, (tC nD) lengths_] st = some (.own ((lC nD) r), st) := by
  refine fn_R rfl ?_
  show S ev_used ⟨[.fro (webD web_), .fro ((tC nD) lengths_), .non, .non, .non], st⟩ _
  unfold ev_used
  unfold p_used at hp
  obtain ⟨least_trees_1, hleast_trees_1, hp⟩ := bs hp
  refine S_seq (S_set (env' := [.fro (webD web_), .fro ((tC nD) lengths_), .own ((lC (tC nD)) least_trees_1), .non, .non]) (E_call (A_f (E_name rfl) (A_f (E_name rfl) A_nil)) (q_least_trees web_ lengths_ hleast_trees_1 _)) rfl ?_)
  obtain ⟨rng_2, hrng_2, hp⟩ := bs hp
  obtain ⟨lc_6, hlc_6, hp⟩ := bs hp
  refine S_ret (E_lc nD nD (env := [.fro (webD web_), .fro ((tC nD) lengths_), .fro ((lC (tC nD)) least_trees_1), .non, .non]) (s' := ⟨[.fro (webD web_), .fro ((tC nD) lengths_), .fro ((lC (tC nD)) least_trees_1), .non, .non], st⟩) (I_rng1 (A_f (E_N (L_cons (O_vf (E_2 (O_slot rfl) (O_vf (E_n 1 rfl)) rfl)) L_nil) (o_lenT (f := rdD) _)) A_nil) hrng_2) rfl rfl hlc_6 (fun x_3 b hb => by obtain ⟨lc_5, hlc_5, hb⟩ := bs hb; exact ⟨⟨[.fro (webD web_), .fro ((tC nD) lengths_), .fro ((lC (tC nD)) least_trees_1), .fro (nD x_3), .non], st⟩, ⟨[.fro (webD web_), .fro ((tC nD) lengths_), .fro ((lC (tC nD)) least_trees_1), .fro (nD x_3), .non], st⟩, rfl, B_as (B_tru (O_vf (E_N (L_cons (O_vo (E_lc (tC nD) D.bl (env := [.fro (webD web_), .fro ((tC nD) lengths_), .fro ((lC (tC nD)) least_trees_1), .fro (nD x_3), .non]) (s' := ⟨[.fro (webD web_), .fro ((tC nD) lengths_), .fro ((lC (tC nD)) least_trees_1), .fro (nD x_3), .non], st⟩) (I_seq (E_name rfl) rfl) rfl rfl ((lcT_P _).trans hlc_5) (fun x_4 b hb => by skip; exact ⟨⟨[.fro (webD web_), .fro ((tC nD) lengths_), .fro ((lC (tC nD)) least_trees_1), .fro (nD x_3), .fro ((tC nD) x_4)], st⟩, ⟨[.fro (webD web_), .fro ((tC nD) lengths_), .fro ((lC (tC nD)) least_trees_1), .fro (nD x_3), .fro ((tC nD) x_4)], st⟩, rfl, B_as B_yes (Option.some.inj hb), rfl, fun _ yy hq => by skip; exact ⟨_, ⟨[.fro (webD web_), .fro ((tC nD) lengths_), .fro ((lC (tC nD)) least_trees_1), .fro (nD x_3), .fro ((tC nD) x_4)], st⟩, (E_2 (O_slot rfl) (O_slot rfl) (o_inT (f := nD) x_3 x_4)), congrArg D.bl (by first | exact Option.some.inj hq | exact (decide_eq_decide.mpr Iff.rfl).trans (Option.some.inj hq)), rfl⟩⟩))) L_nil) (o_any _))) rfl) (Option.some.inj hb), rfl, fun _ yy hq => by skip; exact ⟨_, ⟨[.fro (webD web_), .fro ((tC nD) lengths_), .fro ((lC (tC nD)) least_trees_1), .fro (nD x_3), .non], st⟩, (E_name rfl), congrArg nD (Option.some.inj hq), rfl⟩⟩)) ?_
  have he := Option.some.inj hp
  exact ⟨congrArg (fun z => Out.rt (RV.own ((lC nD) z))) he, rfl⟩
theorem q_needed (web_ : Web) (lengths_ : (List Nat)) {r : (List Nat)} (hp : p_needed web_ lengths_ = some r) (st : List Cell) : m_needed [webD web_, (tC nD) lengths_] st = some (.own ((lC nD) r), st) := by
  refine fn_R rfl ?_
  show S ev_needed ⟨[.fro (webD web_), .fro ((tC nD) lengths_), .non, .non, .non], st⟩ _
  unfold ev_needed
  unfold p_needed at hp
  obtain ⟨least_trees_1, hleast_trees_1, hp⟩ := bs hp
  refine S_seq (S_set (env' := [.fro (webD web_), .fro ((tC nD) lengths_), .own ((lC (tC nD)) least_trees_1), .non, .non]) (E_call (A_f (E_name rfl) (A_f (E_name rfl) A_nil)) (q_least_trees web_ lengths_ hleast_trees_1 _)) rfl ?_)
  obtain ⟨rng_2, hrng_2, hp⟩ := bs hp
  obtain ⟨lc_6, hlc_6, hp⟩ := bs hp
  refine S_ret (E_lc nD nD (env := [.fro (webD web_), .fro ((tC nD) lengths_), .fro ((lC (tC nD)) least_trees_1), .non, .non]) (s' := ⟨[.fro (webD web_), .fro ((tC nD) lengths_), .fro ((lC (tC nD)) least_trees_1), .non, .non], st⟩) (I_rng1 (A_f (E_N (L_cons (O_vf (E_2 (O_slot rfl) (O_vf (E_n 1 rfl)) rfl)) L_nil) (o_lenT (f := rdD) _)) A_nil) hrng_2) rfl rfl hlc_6 (fun x_3 b hb => by obtain ⟨lc_5, hlc_5, hb⟩ := bs hb; exact ⟨⟨[.fro (webD web_), .fro ((tC nD) lengths_), .fro ((lC (tC nD)) least_trees_1), .fro (nD x_3), .non], st⟩, ⟨[.fro (webD web_), .fro ((tC nD) lengths_), .fro ((lC (tC nD)) least_trees_1), .fro (nD x_3), .non], st⟩, rfl, B_as (B_tru (O_vf (E_N (L_cons (O_vo (E_lc (tC nD) D.bl (env := [.fro (webD web_), .fro ((tC nD) lengths_), .fro ((lC (tC nD)) least_trees_1), .fro (nD x_3), .non]) (s' := ⟨[.fro (webD web_), .fro ((tC nD) lengths_), .fro ((lC (tC nD)) least_trees_1), .fro (nD x_3), .non], st⟩) (I_seq (E_name rfl) rfl) rfl rfl ((lcT_P _).trans hlc_5) (fun x_4 b hb => by skip; exact ⟨⟨[.fro (webD web_), .fro ((tC nD) lengths_), .fro ((lC (tC nD)) least_trees_1), .fro (nD x_3), .fro ((tC nD) x_4)], st⟩, ⟨[.fro (webD web_), .fro ((tC nD) lengths_), .fro ((lC (tC nD)) least_trees_1), .fro (nD x_3), .fro ((tC nD) x_4)], st⟩, rfl, B_as B_yes (Option.some.inj hb), rfl, fun _ yy hq => by skip; exact ⟨_, ⟨[.fro (webD web_), .fro ((tC nD) lengths_), .fro ((lC (tC nD)) least_trees_1), .fro (nD x_3), .fro ((tC nD) x_4)], st⟩, (E_2 (O_slot rfl) (O_slot rfl) (o_inT (f := nD) x_3 x_4)), congrArg D.bl (by first | exact Option.some.inj hq | exact (decide_eq_decide.mpr Iff.rfl).trans (Option.some.inj hq)), rfl⟩⟩))) L_nil) (o_all _))) rfl) (Option.some.inj hb), rfl, fun _ yy hq => by skip; exact ⟨_, ⟨[.fro (webD web_), .fro ((tC nD) lengths_), .fro ((lC (tC nD)) least_trees_1), .fro (nD x_3), .non], st⟩, (E_name rfl), congrArg nD (Option.some.inj hq), rfl⟩⟩)) ?_
  have he := Option.some.inj hp
  exact ⟨congrArg (fun z => Out.rt (RV.own ((lC nD) z))) he, rfl⟩
theorem q_law (script_ : (List Int)) {r : (Bool × List Cell)} (hp : p_law script_ = some r) : m_law [D.scr script_] [] = some (.fro (D.bl r.1), r.2) := by
  refine fn_R rfl ?_
  show S ev_law ⟨[.fro (D.scr script_), .non, .non, .non, .non, .non, .non, .non, .non, .non, .non, .non], []⟩ _
  unfold ev_law
  unfold p_law at hp
  obtain ⟨st_1, hst_1, hp⟩ := bs hp
  obtain ⟨pd, hpd, hpe⟩ := openP_of hst_1
  refine S_seq (S_setC (env' := [.fro (D.scr script_), .fro (.hd 0), .non, .non, .non, .non, .non, .non, .non, .non, .non, .non]) (E_call (A_f (E_name rfl) A_nil) hpd) rfl hpe ?_)
  obtain ⟨rng_2, hrng_2, hp⟩ := bs hp
  obtain ⟨c_40, hc_40, hp⟩ := bs hp
  refine S_seq (S_forC nD (fun (v_3 : List Cell) (g_4 : Slot × Slot × Slot × Slot × Slot × Slot × Slot × Slot × Slot × Unit) => (⟨[.fro (D.scr script_), .fro (.hd 0), g_4.1, g_4.2.1, g_4.2.2.1, g_4.2.2.2.1, g_4.2.2.2.2.1, g_4.2.2.2.2.2.1, g_4.2.2.2.2.2.2.1, g_4.2.2.2.2.2.2.2.1, g_4.2.2.2.2.2.2.2.2.1, .non], v_3⟩ : Sg)) (fun (r : Bool × List Cell) rv (s' : Sg) => rv = RV.fro (D.bl r.1) ∧ s'.st = r.2) (.non, .non, .non, .non, .non, .non, .non, .non, .non, ()) (I_rng1 (A_f (E_n 3 rfl) A_nil) hrng_2) rfl hc_40 (fun x_5 v_3 c' g_4 hp => ?_) (fun r_41 rv s' hcr hrr => ?_) (fun w_38 g_39 hcr => ?_))
  · refine ⟨⟨[.fro (D.scr script_), .fro (.hd 0), .fro (nD x_5), g_4.2.1, g_4.2.2.1, g_4.2.2.2.1, g_4.2.2.2.2.1, g_4.2.2.2.2.2.1, g_4.2.2.2.2.2.2.1, g_4.2.2.2.2.2.2.2.1, g_4.2.2.2.2.2.2.2.2.1, .non], v_3⟩, rfl, ?_⟩
    obtain ⟨it_6, hit_6, hp⟩ := bs hp
    obtain ⟨draw_web_7, hdraw_web_7, hp⟩ := bs hp
    refine S_seq (S_set (env' := [.fro (D.scr script_), .fro (.hd 0), .fro (nD x_5), .fro (webD draw_web_7.1), g_4.2.2.1, g_4.2.2.2.1, g_4.2.2.2.2.1, g_4.2.2.2.2.2.1, g_4.2.2.2.2.2.2.1, g_4.2.2.2.2.2.2.2.1, g_4.2.2.2.2.2.2.2.2.1, .non]) (E_callS (s' := ⟨[.fro (D.scr script_), .fro (.hd 0), .fro (nD x_5), g_4.2.1, g_4.2.2.1, g_4.2.2.2.1, g_4.2.2.2.2.1, g_4.2.2.2.2.2.1, g_4.2.2.2.2.2.2.1, g_4.2.2.2.2.2.2.2.1, g_4.2.2.2.2.2.2.2.2.1, .non], draw_web_7.2⟩) (A_f (E_name rfl) (A_f (E_n 6 rfl) (A_f (E_2 (O_vo (E_lst (A_f (E_n 10 rfl) (A_f (E_n 7 rfl) (A_f (E_n 5 rfl) A_nil))) rfl)) (O_slot rfl) (o_ixL (f := nD) hit_6)) A_nil))) (q__law_draw_web (6 : Nat) it_6 hdraw_web_7) rfl) rfl ?_)
    obtain ⟨rep_8, hrep_8, hp⟩ := bs hp
    obtain ⟨rng_9, hrng_9, hp⟩ := bs hp
    refine S_seq (S_par (env' := [.fro (D.scr script_), .fro (.hd 0), .fro (nD x_5), .fro (webD draw_web_7.1), .fro (D.str rep_8), .own ((lC nD) rng_9), g_4.2.2.2.2.1, g_4.2.2.2.2.2.1, g_4.2.2.2.2.2.2.1, g_4.2.2.2.2.2.2.2.1, g_4.2.2.2.2.2.2.2.2.1, .non]) (E_N (L_cons (O_slot rfl) L_nil) (o_repr hrep_8)) (E_rgL (E_N (L_cons (O_vf (E_2 (O_slot rfl) (O_vf (E_n 1 rfl)) rfl)) L_nil) (o_lenT (f := rdD) _)) hrng_9) rfl ?_)
    obtain ⟨draw_lengths_10, hdraw_lengths_10, hp⟩ := bs hp
    obtain ⟨first_11, hfirst_11, hp⟩ := bs hp
    replace hfirst_11 := Option.some.inj hfirst_11
    refine S_seq (S_set (env' := [.fro (D.scr script_), .fro (.hd 0), .fro (nD x_5), .fro (webD draw_web_7.1), .fro (D.str rep_8), .own ((lC nD) rng_9), .fro ((tC nD) first_11), g_4.2.2.2.2.2.1, g_4.2.2.2.2.2.2.1, g_4.2.2.2.2.2.2.2.1, g_4.2.2.2.2.2.2.2.2.1, .non]) (E_as (E_callS (s' := ⟨[.fro (D.scr script_), .fro (.hd 0), .fro (nD x_5), .fro (webD draw_web_7.1), .fro (D.str rep_8), .own ((lC nD) rng_9), g_4.2.2.2.2.1, g_4.2.2.2.2.2.1, g_4.2.2.2.2.2.2.1, g_4.2.2.2.2.2.2.2.1, g_4.2.2.2.2.2.2.2.2.1, .non], draw_lengths_10.2⟩) (A_f (E_name rfl) (A_f (E_name rfl) A_nil)) (q__law_draw_lengths draw_web_7.1 hdraw_lengths_10) rfl) (congrArg (fun z => RV.fro ((tC nD) z)) hfirst_11)) rfl ?_)
    obtain ⟨raised_12, hraised_12, hp⟩ := bs hp
    obtain ⟨raised_13, hraised_13, hp⟩ := bs hp
    obtain ⟨c_36, hc_36, hp⟩ := bs hp
    refine S_forC (tC nD) (fun (v_14 : Unit) (g_15 : Slot × Slot × Slot × Slot × Unit) => (⟨[.fro (D.scr script_), .fro (.hd 0), .fro (nD x_5), .fro (webD draw_web_7.1), .fro (D.str rep_8), .fro ((lC nD) rng_9), .fro ((tC nD) first_11), g_15.1, g_15.2.1, g_15.2.2.1, g_15.2.2.2.1, .non], draw_lengths_10.2⟩ : Sg)) (fun (r : Bool × List Cell) rv (s' : Sg) => rv = RV.fro (D.bl r.1) ∧ s'.st = r.2) (g_4.2.2.2.2.2.1, g_4.2.2.2.2.2.2.1, g_4.2.2.2.2.2.2.2.1, g_4.2.2.2.2.2.2.2.2.1, ()) (I_seq (E_lst (A_f (E_name rfl) (A_f (E_call (A_f (E_name rfl) (A_o (E_lst A_nil rfl) A_nil)) (q__law_raised draw_web_7.1 ([] : List Nat) hraised_12 _)) (A_f (E_call (A_f (E_name rfl) (A_f (E_nameO (s' := ⟨[.fro (D.scr script_), .fro (.hd 0), .fro (nD x_5), .fro (webD draw_web_7.1), .fro (D.str rep_8), .fro ((lC nD) rng_9), .fro ((tC nD) first_11), g_4.2.2.2.2.2.1, g_4.2.2.2.2.2.2.1, g_4.2.2.2.2.2.2.2.1, g_4.2.2.2.2.2.2.2.2.1, .non], draw_lengths_10.2⟩) rfl rfl) A_nil)) (q__law_raised draw_web_7.1 rng_9 hraised_13 _)) (A_f (E_name rfl) A_nil)))) rfl) rfl) rfl hc_36 (fun x_16 v_14 c' g_15 hp => ?_) (fun r_37 rv s' hcr hrr => ?_) (fun w_34 g_35 hcr => ?_)
    · refine ⟨⟨[.fro (D.scr script_), .fro (.hd 0), .fro (nD x_5), .fro (webD draw_web_7.1), .fro (D.str rep_8), .fro ((lC nD) rng_9), .fro ((tC nD) first_11), .fro ((tC nD) x_16), g_15.2.1, g_15.2.2.1, g_15.2.2.2.1, .non], draw_lengths_10.2⟩, rfl, ?_⟩
      obtain ⟨lc_19, hlc_19, hp⟩ := bs hp
      refine S_seq (S_set (env' := [.fro (D.scr script_), .fro (.hd 0), .fro (nD x_5), .fro (webD draw_web_7.1), .fro (D.str rep_8), .fro ((lC nD) rng_9), .fro ((tC nD) first_11), .fro ((tC nD) x_16), .own ((lC nD) lc_19), g_15.2.2.1, g_15.2.2.2.1, .non]) (E_lc nD nD (env := [.fro (D.scr script_), .fro (.hd 0), .fro (nD x_5), .fro (webD draw_web_7.1), .fro (D.str rep_8), .fro ((lC nD) rng_9), .fro ((tC nD) first_11), .fro ((tC nD) x_16), (hideSlot g_15.2.1), (hideSlot g_15.2.2.1), (hideSlot g_15.2.2.2.1), .non]) (s' := ⟨[.fro (D.scr script_), .fro (.hd 0), .fro (nD x_5), .fro (webD draw_web_7.1), .fro (D.str rep_8), .fro ((lC nD) rng_9), .fro ((tC nD) first_11), .fro ((tC nD) x_16), g_15.2.1, g_15.2.2.1, g_15.2.2.2.1, .non], draw_lengths_10.2⟩) (I_seq (E_name rfl) rfl) rfl rfl hlc_19 (fun x_17 b hb => by obtain ⟨is_used_18, his_used_18, hb⟩ := bs hb; exact ⟨⟨[.fro (D.scr script_), .fro (.hd 0), .fro (nD x_5), .fro (webD draw_web_7.1), .fro (D.str rep_8), .fro ((lC nD) rng_9), .fro ((tC nD) first_11), .fro ((tC nD) x_16), (hideSlot g_15.2.1), (hideSlot g_15.2.2.1), (hideSlot g_15.2.2.2.1), .fro (nD x_17)], draw_lengths_10.2⟩, ⟨[.fro (D.scr script_), .fro (.hd 0), .fro (nD x_5), .fro (webD draw_web_7.1), .fro (D.str rep_8), .fro ((lC nD) rng_9), .fro ((tC nD) first_11), .fro ((tC nD) x_16), (hideSlot g_15.2.1), (hideSlot g_15.2.2.1), (hideSlot g_15.2.2.2.1), .fro (nD x_17)], draw_lengths_10.2⟩, rfl, B_as (B_tru (O_vf (E_call (A_f (E_name rfl) (A_f (E_name rfl) (A_f (E_name rfl) A_nil))) (q__law_is_used draw_web_7.1 x_16 x_17 his_used_18 _))) rfl) (Option.some.inj hb), rfl, fun _ yy hq => by skip; exact ⟨_, ⟨[.fro (D.scr script_), .fro (.hd 0), .fro (nD x_5), .fro (webD draw_web_7.1), .fro (D.str rep_8), .fro ((lC nD) rng_9), .fro ((tC nD) first_11), .fro ((tC nD) x_16), (hideSlot g_15.2.1), (hideSlot g_15.2.2.1), (hideSlot g_15.2.2.2.1), .fro (nD x_17)], draw_lengths_10.2⟩, (E_name rfl), congrArg nD (Option.some.inj hq), rfl⟩⟩)) rfl ?_)
      obtain ⟨lc_22, hlc_22, hp⟩ := bs hp
      refine S_seq (S_set (env' := [.fro (D.scr script_), .fro (.hd 0), .fro (nD x_5), .fro (webD draw_web_7.1), .fro (D.str rep_8), .fro ((lC nD) rng_9), .fro ((tC nD) first_11), .fro ((tC nD) x_16), .own ((lC nD) lc_19), .own ((lC nD) lc_22), g_15.2.2.2.1, .non]) (E_lc nD nD (env := [.fro (D.scr script_), .fro (.hd 0), .fro (nD x_5), .fro (webD draw_web_7.1), .fro (D.str rep_8), .fro ((lC nD) rng_9), .fro ((tC nD) first_11), .fro ((tC nD) x_16), .non, (hideSlot g_15.2.2.1), (hideSlot g_15.2.2.2.1), .non]) (s' := ⟨[.fro (D.scr script_), .fro (.hd 0), .fro (nD x_5), .fro (webD draw_web_7.1), .fro (D.str rep_8), .fro ((lC nD) rng_9), .fro ((tC nD) first_11), .fro ((tC nD) x_16), .own ((lC nD) lc_19), g_15.2.2.1, g_15.2.2.2.1, .non], draw_lengths_10.2⟩) (I_seq (E_name rfl) rfl) rfl rfl hlc_22 (fun x_20 b hb => by obtain ⟨is_needed_21, his_needed_21, hb⟩ := bs hb; exact ⟨⟨[.fro (D.scr script_), .fro (.hd 0), .fro (nD x_5), .fro (webD draw_web_7.1), .fro (D.str rep_8), .fro ((lC nD) rng_9), .fro ((tC nD) first_11), .fro ((tC nD) x_16), .non, (hideSlot g_15.2.2.1), (hideSlot g_15.2.2.2.1), .fro (nD x_20)], draw_lengths_10.2⟩, ⟨[.fro (D.scr script_), .fro (.hd 0), .fro (nD x_5), .fro (webD draw_web_7.1), .fro (D.str rep_8), .fro ((lC nD) rng_9), .fro ((tC nD) first_11), .fro ((tC nD) x_16), .non, (hideSlot g_15.2.2.1), (hideSlot g_15.2.2.2.1), .fro (nD x_20)], draw_lengths_10.2⟩, rfl, B_as (B_tru (O_vf (E_call (A_f (E_name rfl) (A_f (E_name rfl) (A_f (E_name rfl) A_nil))) (q__law_is_needed draw_web_7.1 x_16 x_20 his_needed_21 _))) rfl) (Option.some.inj hb), rfl, fun _ yy hq => by skip; exact ⟨_, ⟨[.fro (D.scr script_), .fro (.hd 0), .fro (nD x_5), .fro (webD draw_web_7.1), .fro (D.str rep_8), .fro ((lC nD) rng_9), .fro ((tC nD) first_11), .fro ((tC nD) x_16), .non, (hideSlot g_15.2.2.1), (hideSlot g_15.2.2.2.1), .fro (nD x_20)], draw_lengths_10.2⟩, (E_name rfl), congrArg nD (Option.some.inj hq), rfl⟩⟩)) rfl ?_)
      obtain ⟨used_23, hused_23, hp⟩ := bs hp
      obtain ⟨needed_24, hneeded_24, hp⟩ := bs hp
      obtain ⟨tl_25, htl_25, hp⟩ := bs hp
      obtain ⟨same_26, hsame_26, hp⟩ := bs hp
      obtain ⟨t_28, ht_28, hp⟩ := bs hp
      refine S_seq (S_told (env0 := [.fro (D.scr script_), .fro (.hd 0), .fro (nD x_5), .fro (webD draw_web_7.1), .fro (D.str rep_8), .fro ((lC nD) rng_9), .fro ((tC nD) first_11), .fro ((tC nD) x_16), .own ((lC nD) lc_19), .own ((lC nD) lc_22), .own ((h2 (lC nD) (lC nD)) (used_23, needed_24)), .non]) (qenv := [(quietSlot (.fro (D.scr script_))), (quietSlot (.fro (.hd 0))), (quietSlot (.fro (nD x_5))), .fro (webD draw_web_7.1), .fro (D.str rep_8), (quietSlot (.fro ((lC nD) rng_9))), (quietSlot (.fro ((tC nD) first_11))), (quietSlot (.fro ((tC nD) x_16))), .fro ((lC nD) lc_19), .fro ((lC nD) lc_22), .fro ((h2 (lC nD) (lC nD)) (used_23, needed_24)), (quietSlot (.non))]) (env' := [.fro (D.scr script_), .fro (.hd 0), .fro (nD x_5), .fro (webD draw_web_7.1), .fro (D.str rep_8), .fro ((lC nD) rng_9), .fro ((tC nD) first_11), .fro ((tC nD) x_16), .own ((lC nD) lc_19), .own ((lC nD) lc_22), .non, .non]) (E_call (A_f (E_name rfl) (A_f (E_name rfl) A_nil)) (q_used draw_web_7.1 x_16 hused_23 _)) (E_call (A_f (E_name rfl) (A_f (E_name rfl) A_nil)) (q_needed draw_web_7.1 x_16 hneeded_24 _)) htl_25 (by simp) rfl (QE.skip (QE.skip (QE.skip (QE.fro (QE.fro (QE.skip (QE.skip (QE.skip (QE.own (QE.own (QE.own (QE.skip QE.nil)))))))))))) (B_orP (B_not (B_tru (O_vf (E_quiet (env := [(quietSlot ((quietSlot (.fro (D.scr script_))))), (quietSlot ((quietSlot (.fro (.hd 0))))), (quietSlot ((quietSlot (.fro (nD x_5))))), (quietSlot (.fro (webD draw_web_7.1))), (quietSlot (.fro (D.str rep_8))), (quietSlot ((quietSlot (.fro ((lC nD) rng_9))))), (quietSlot ((quietSlot (.fro ((tC nD) first_11))))), (quietSlot ((quietSlot (.fro ((tC nD) x_16))))), .fro ((lC nD) lc_19), .fro ((lC nD) lc_22), .fro ((h2 (lC nD) (lC nD)) (used_23, needed_24)), (quietSlot ((quietSlot (.non))))]) (QE.skip (QE.skip (QE.skip (QE.skip (QE.skip (QE.skip (QE.skip (QE.skip (QE.fro (QE.fro (QE.fro (QE.skip QE.nil)))))))))))) (E_call (A_f (E_name rfl) (A_o (E_lst (A_f (E_name rfl) (A_f (E_name rfl) A_nil)) rfl) A_nil)) (q_same (a := (used_23, needed_24)) (b := (lc_19, lc_22)) hsame_26 _)))) rfl)) ht_28 (fun _ hq => (by obtain ⟨rep_27, hrep_27, hq⟩ := bs hq; exact B_as (B_B (E_2 (O_vf (E_N (L_cons (O_slot rfl) L_nil) (o_repr hrep_27))) (O_slot rfl) (o_neS _ _))) (Option.some.inj hq)))) rfl (fun hb_29 => ?_) (fun hb_29 => ?_))
      · have hp := ite_t hb_29 hp
        refine S_ret E_c ?_
        have he := Option.some.inj hp
        subst he
        exact ⟨_, rfl, rfl, rfl⟩
      · have hp := ite_f hb_29 hp
        obtain ⟨t_32, ht_32, hp⟩ := bs hp
        refine S_if (B_andPS (s' := ⟨[.fro (D.scr script_), .fro (.hd 0), .fro (nD x_5), .fro (webD draw_web_7.1), .fro (D.str rep_8), .fro ((lC nD) rng_9), .fro ((tC nD) first_11), .fro ((tC nD) x_16), (eiS (cond (decide (x_5 = (2 : Nat))) false true) ((lC nD) lc_19)), (eiS (cond (decide (x_5 = (2 : Nat))) false true) ((lC nD) lc_22)), .non, .non], draw_lengths_10.2⟩) (B_B (E_2 (O_slot rfl) (O_vf (E_n 2 rfl)) (o_eq (f := nD) x_5 (2 : Nat)))) ht_32 (fun _ hq => (by obtain ⟨used_30, hused_30, hq⟩ := bs hq; obtain ⟨needed_31, hneeded_31, hq⟩ := bs hq; exact B_as (B_B (E_2 (O_vo (E_lst (A_o (E_call (A_f (E_name rfl) (A_f (E_name rfl) A_nil)) (q_used draw_web_7.1 x_16 hused_30 _)) (A_o (E_call (A_f (E_name rfl) (A_f (E_name rfl) A_nil)) (q_needed draw_web_7.1 x_16 hneeded_31 _)) A_nil)) rfl)) (O_vo (E_lst (A_f (E_nameO (s' := ⟨[.fro (D.scr script_), .fro (.hd 0), .fro (nD x_5), .fro (webD draw_web_7.1), .fro (D.str rep_8), .fro ((lC nD) rng_9), .fro ((tC nD) first_11), .fro ((tC nD) x_16), .fro ((lC nD) lc_19), .own ((lC nD) lc_22), .non, .non], draw_lengths_10.2⟩) rfl rfl) (A_f (E_nameO (s' := ⟨[.fro (D.scr script_), .fro (.hd 0), .fro (nD x_5), .fro (webD draw_web_7.1), .fro (D.str rep_8), .fro ((lC nD) rng_9), .fro ((tC nD) first_11), .fro ((tC nD) x_16), .fro ((lC nD) lc_19), .fro ((lC nD) lc_22), .non, .non], draw_lengths_10.2⟩) rfl rfl) A_nil)) rfl)) (o_ne (f := (lC (lC nD))) ([used_30, needed_31] : List (List Nat)) ([lc_19, lc_22] : List (List Nat))))) (Option.some.inj hq))) (by generalize (decide (x_5 = (2 : Nat))) = bx; cases bx <;> rfl)) (fun hb_33 => ?_) (fun hb_33 => ?_)
        · have hp := ite_t hb_33 hp
          refine S_ret E_c ?_
          have he := Option.some.inj hp
          subst he
          exact ⟨_, rfl, rfl, rfl⟩
        · have hp := ite_f hb_33 hp
          refine S_pass ?_
          have he := Option.some.inj hp
          subst he
          exact ⟨.inl rfl, (.fro ((tC nD) x_16), (eiS (cond (decide (x_5 = (2 : Nat))) false true) ((lC nD) lc_19)), (eiS (cond (decide (x_5 = (2 : Nat))) false true) ((lC nD) lc_22)), .non, ()), rfl⟩
    · subst hcr
      obtain ⟨rfl, hst⟩ := hrr
      have he := Option.some.inj hp
      subst he
      exact ⟨_, rfl, rfl, hst⟩
    · subst hcr
      have hp := (contC_r _ _ _).symm.trans hp
      have he := Option.some.inj hp
      subst he
      exact ⟨.inl rfl, (.fro (nD x_5), .fro (webD draw_web_7.1), .fro (D.str rep_8), .fro ((lC nD) rng_9), .fro ((tC nD) first_11), g_35.1, g_35.2.1, g_35.2.2.1, g_35.2.2.2.1, ()), rfl⟩
  · subst hcr
    obtain ⟨rfl, hst⟩ := hrr
    have he := Option.some.inj hp
    subst he
    exact ⟨rfl, hst⟩
  · subst hcr
    have hp := (contC_r _ _ _).symm.trans hp
    refine S_ret E_c ?_
    have he := Option.some.inj hp
    subst he
    exact ⟨rfl, rfl⟩
end G

namespace G
open PySem PySem.Spec L2 Pv
instance noTabs : TabL := ⟨[]⟩
section
variable {α β σ R τ : Type}
theorem lcG_eq {c : α → Option Bool} {e : α → Option β} {p : α → Bool} {f : α → β} : ∀ {xs : List α}, (∀ x ∈ xs, c x = some (p x)) → (∀ x ∈ xs, p x = true → e x = some (f x)) → lcG c e xs = some ((xs.filter p).map f)
  | [], _, _ => rfl
  | x :: xs, h1, h2 => by
    unfold lcG
    rw [h1 x (.head _), Option.bind_some]
    have ih := lcG_eq (xs := xs) (fun y hy => h1 y (.tail _ hy)) fun y hy => h2 y (.tail _ hy)
    cases hp : p x with
    | true => rw [if_pos rfl, h2 x (.head _) hp, Option.bind_some, ih, List.filter_cons_of_pos hp]; rfl
    | false => rw [if_neg (by simp), ih, List.filter_cons_of_neg (by simp [hp])]
theorem lcP_eq {c : α → Option Bool} {e : α → Option β} {xs : List α} (p : α → Bool) (f : α → β) (hl : xs.length ≤ 1000000) (h1 : ∀ x ∈ xs, c x = some (p x)) (h2 : ∀ x ∈ xs, p x = true → e x = some (f x)) : lcP c e xs = some ((xs.filter p).map f) := by
  unfold lcP; rw [if_pos hl, lcG_eq h1 h2]
theorem lcP_filter {c : α → Option Bool} {xs : List α} (p : α → Bool) (hl : xs.length ≤ 1000000) (h1 : ∀ x ∈ xs, c x = some (p x)) : lcP c (fun x => some x) xs = some (xs.filter p) := by
  have := lcP_eq (e := fun x => some x) p id hl h1 fun x _ _ => rfl
  rw [List.map_id] at this
  exact this
theorem lcP_map {e : α → Option β} {xs : List α} (f : α → β) (hl : xs.length ≤ 1000000) (h2 : ∀ x ∈ xs, e x = some (f x)) : lcP (fun _ => some true) e xs = some (xs.map f) := by
  rw [lcP_eq (fun _ => true) f hl (fun _ _ => rfl) fun x hx _ => h2 x hx, List.filter_eq_self.mpr fun _ _ => rfl]
theorem lcT_eq {p : α → Bool} {f : α → β} {xs : List α} (hl : xs.length ≤ 1000000) : lcT p f xs = some ((xs.filter p).map f) := if_pos hl
theorem lcT_filter {p : α → Bool} {xs : List α} (hl : xs.length ≤ 1000000) : lcT p (fun x => x) xs = some (xs.filter p) := by
  rw [lcT_eq hl]; simp
theorem lcT_map {f : α → β} {xs : List α} (hl : xs.length ≤ 1000000) : lcT (fun _ => true) f xs = some (xs.map f) := by
  rw [lcT_eq hl, List.filter_eq_self.mpr fun _ _ => rfl]
theorem rngP_eq {n : Nat} (h : n ≤ 1000000) : rngP n = some (List.range n) := if_pos h
theorem rng2P_eq {a b : Nat} (h : a ≤ 1000000) (h2 : b ≤ 1000000) : rng2P a b = some (List.range' a (b - a)) := if_pos ⟨h, h2⟩
theorem appP_eq {xs : List α} {x : α} (h : xs.length < 1000000) : appP xs x = some (xs ++ [x]) := if_pos h
theorem addP_eq {xs ys : List α} (h : xs.length + ys.length ≤ 1000000) : addP xs ys = some (xs ++ ys) := if_pos h
theorem insP_eq {xs : List α} {i : Nat} {x : α} (h : xs.length < 1000000) (hi : i < 1000000) : insP xs i x = some (xs.take i ++ [x] ++ xs.drop i) := if_pos ⟨h, hi⟩
theorem numd_len (xs : List α) : (numd xs).length = xs.length := by simp [numd]
theorem numd_get (xs : List α) (i : Nat) : (numd xs)[i]? = xs[i]?.map fun x => (i, x) := by
  unfold numd
  by_cases h : i < xs.length
  · rw [List.getElem?_eq_getElem (by simpa using h), List.getElem?_eq_getElem h]
    simp
  · rw [List.getElem?_eq_none (by simp; omega), List.getElem?_eq_none (by omega)]; rfl
theorem forP_inv (I : Nat → σ → Prop) {b : α → σ → Option σ} : ∀ (xs : List α) (k : Nat) (v : σ), I k v → (∀ i x v, xs[i]? = some x → I (k + i) v → ∃ w, b x v = some w ∧ I (k + i + 1) w) → ∃ w, forP b xs v = some w ∧ I (k + xs.length) w
  | [], k, v, h, _ => ⟨v, rfl, h⟩
  | x :: xs, k, v, h, hs => by
    obtain ⟨w, e, hw⟩ := hs 0 x v rfl h
    obtain ⟨u, e2, hu⟩ := forP_inv I xs (k + 1) w hw fun i y v hy hv => by
      rw [show k + 1 + i = k + (i + 1) by omega] at hv ⊢
      exact hs (i + 1) y v hy hv
    refine ⟨u, ?_, by rw [List.length_cons, show k + (xs.length + 1) = k + 1 + xs.length by omega]; exact hu⟩
    show (b x v).bind _ = _
    rw [e, Option.bind_some, e2]
theorem forP_I (I : Nat → σ → Prop) {b : α → σ → Option σ} {xs : List α} {v : σ} (h : I 0 v) (hs : ∀ i x v, xs[i]? = some x → I i v → ∃ w, b x v = some w ∧ I (i + 1) w) : ∃ w, forP b xs v = some w ∧ I xs.length w := by
  obtain ⟨w, e, q⟩ := forP_inv I xs 0 v h fun i x v hx hv => by
    rw [Nat.zero_add] at hv ⊢; exact hs i x v hx hv
  exact ⟨w, e, by simpa using q⟩
/-- a loop that is a fold -/
theorem forP_fold {b : α → σ → Option σ} (g : σ → α → σ) (I : σ → Prop) : ∀ (xs : List α) (v : σ), I v → (∀ x ∈ xs, ∀ v, I v → b x v = some (g v x) ∧ I (g v x)) → forP b xs v = some (xs.foldl g v) ∧ I (xs.foldl g v)
  | [], v, h, _ => ⟨rfl, h⟩
  | x :: xs, v, h, hs => by
    obtain ⟨e, q⟩ := hs x (.head _) v h
    obtain ⟨e2, q2⟩ := forP_fold g I xs (g v x) q fun y hy => hs y (.tail _ hy)
    refine ⟨?_, q2⟩
    show (b x v).bind _ = _
    rw [e, Option.bind_some, e2]; rfl
/-- a loop that puts things behind a list -/
theorem forP_app {b : α → List β → Option (List β)} (p : α → Bool) (f : α → β) : ∀ (xs : List α) (v : List β), v.length + xs.length ≤ 1000000 → (∀ x ∈ xs, ∀ v : List β, v.length < 1000000 → b x v = some (if p x = true then v ++ [f x] else v)) → forP b xs v = some (v ++ (xs.filter p).map f)
  | [], v, _, _ => by simp [forP]
  | x :: xs, v, hl, hs => by
    show (b x v).bind _ = _
    rw [List.length_cons] at hl
    rw [hs x (.head _) v (by omega), Option.bind_some]
    cases hp : p x with
    | true =>
      rw [if_pos rfl, forP_app p f xs _ (by simp; omega) fun y hy => hs y (.tail _ hy), List.filter_cons_of_pos hp]
      simp
    | false =>
      rw [if_neg (by simp), forP_app p f xs _ (by omega) fun y hy => hs y (.tail _ hy), List.filter_cons_of_neg (by simp [hp])]
theorem forP_map {b : α → List β → Option (List β)} (f : α → β) {xs : List α} (hl : xs.length ≤ 1000000) (hs : ∀ x ∈ xs, ∀ v : List β, v.length < 1000000 → b x v = some (v ++ [f x])) : forP b xs [] = some (xs.map f) := by
  rw [forP_app (fun _ => true) f xs [] (by simpa using hl) fun x hx v hv => by rw [if_pos rfl]; exact hs x hx v hv, List.filter_eq_self.mpr fun _ _ => rfl]
  simp
/-- a loop that looks at each -/
theorem forC_all {b : α → σ → Option (Ctl σ R)} {v : σ} : ∀ {xs : List α}, (∀ x ∈ xs, b x v = some (.nx v)) → forC b xs v = some (.inr v)
  | [], _ => rfl
  | x :: xs, h => by
    show (b x v).bind _ = _
    rw [h x (.head _), Option.bind_some]
    exact forC_all fun y hy => h y (.tail _ hy)
theorem forC_inv (I : Nat → σ → Prop) {b : α → σ → Option (Ctl σ R)} : ∀ (xs : List α) (k : Nat) (v : σ), I k v → (∀ i x v, xs[i]? = some x → I (k + i) v → ∃ w, b x v = some (.nx w) ∧ I (k + i + 1) w) → ∃ w, forC b xs v = some (.inr w) ∧ I (k + xs.length) w
  | [], k, v, h, _ => ⟨v, rfl, h⟩
  | x :: xs, k, v, h, hs => by
    obtain ⟨w, e, hw⟩ := hs 0 x v rfl h
    obtain ⟨u, e2, hu⟩ := forC_inv I xs (k + 1) w hw fun i y v hy hv => by
      rw [show k + 1 + i = k + (i + 1) by omega] at hv ⊢
      exact hs (i + 1) y v hy hv
    refine ⟨u, ?_, by rw [List.length_cons, show k + (xs.length + 1) = k + 1 + xs.length by omega]; exact hu⟩
    show (b x v).bind _ = _
    rw [e, Option.bind_some]; exact e2
theorem forC_I (I : Nat → σ → Prop) {b : α → σ → Option (Ctl σ R)} {xs : List α} {v : σ} (h : I 0 v) (hs : ∀ i x v, xs[i]? = some x → I i v → ∃ w, b x v = some (.nx w) ∧ I (i + 1) w) : ∃ w, forC b xs v = some (.inr w) ∧ I xs.length w := by
  obtain ⟨w, e, q⟩ := forC_inv I xs 0 v h fun i x v hx hv => by
    rw [Nat.zero_add] at hv ⊢; exact hs i x v hx hv
  exact ⟨w, e, by simpa using q⟩
/-- while, by a measure -/
theorem whP_meas {c : σ → Option Bool} {b : σ → Option σ} (I : Nat → σ → Prop) (h : ∀ n v, I n v → ∃ t, c v = some t ∧ (t = true → ∃ w m, b v = some w ∧ m < n ∧ I m w)) : ∀ (N n : Nat) (v : σ), n < N → I n v → ∃ w m, whP c b N v = some w ∧ I m w ∧ c w = some false
  | 0, n, v, hN, _ => by omega
  | N + 1, n, v, hN, hI => by
    obtain ⟨t, e, ht⟩ := h n v hI
    cases t with
    | false => exact ⟨v, n, by show (c v).bind _ = _; rw [e]; rfl, hI, e⟩
    | true =>
      obtain ⟨w, m, e2, hm, hw⟩ := ht rfl
      obtain ⟨u, m2, e3, q⟩ := whP_meas I h N m w (by omega) hw
      exact ⟨u, m2, by show (c v).bind _ = _; rw [e, Option.bind_some, if_pos rfl, e2, Option.bind_some, e3], q⟩
end
def Ok {α : Type} (o : Option α) (Q : α → Prop) : Prop := ∃ a, o = some a ∧ Q a
section
variable {α β σ R : Type}
theorem Ok.bind {o : Option α} {f : α → Option β} {P : α → Prop} {Q : β → Prop} (h : Ok o P) (k : ∀ a, P a → Ok (f a) Q) : Ok (o.bind f) Q := by
  obtain ⟨a, e, p⟩ := h
  obtain ⟨b, e2, q⟩ := k a p
  exact ⟨b, by rw [e, Option.bind_some, e2], q⟩
theorem Ok.bindE {o : Option α} {f : α → Option β} {a : α} {Q : β → Prop} (h : o = some a) (k : Ok (f a) Q) : Ok (o.bind f) Q := by
  obtain ⟨b, e2, q⟩ := k
  exact ⟨b, by rw [h, Option.bind_some, e2], q⟩
theorem Ok.ret {a : α} {Q : α → Prop} (h : Q a) : Ok (some a) Q := ⟨a, rfl, h⟩
theorem Ok.imp {o : Option α} {P Q : α → Prop} (h : Ok o P) (k : ∀ a, P a → Q a) : Ok o Q := by
  obtain ⟨a, e, p⟩ := h
  exact ⟨a, e, k a p⟩
theorem Ok.ite {b : Bool} {x y : Option α} {Q : α → Prop} (h1 : b = true → Ok x Q) (h2 : b = false → Ok y Q) : Ok (if b = true then x else y) Q := by
  cases b with
  | true => exact h1 rfl
  | false => exact h2 rfl
theorem Ok.eq {o : Option α} {a : α} (h : Ok o (· = a)) : o = some a := by
  obtain ⟨b, e, rfl⟩ := h
  exact e
theorem Ok.for {Q : σ → Prop} (I : Nat → σ → Prop) {b : α → σ → Option σ} {xs : List α} {v : σ} (h : I 0 v) (hs : ∀ i x v, xs[i]? = some x → I i v → Ok (b x v) (I (i + 1))) (hq : ∀ w, I xs.length w → Q w) : Ok (forP b xs v) Q := by
  obtain ⟨w, e, q⟩ := forP_I I h hs
  exact ⟨w, e, hq w q⟩
theorem Ok.forC {γ : Type} {Q : γ → Prop} (I : Nat → σ → Prop) {b : α → σ → Option (Ctl σ R)} {xs : List α} {v : σ} {f : R → Option γ} {g : σ → Option γ} (h : I 0 v) (hs : ∀ i x v, xs[i]? = some x → I i v → Ok (b x v) fun c => ∃ w, c = .nx w ∧ I (i + 1) w) (hq : ∀ w, I xs.length w → Ok (g w) Q) : Ok ((forC b xs v).bind (contC f g)) Q := by
  obtain ⟨w, e, q⟩ := forC_I I h fun i x v hx hv => by
    obtain ⟨c, e, w, rfl, hw⟩ := hs i x v hx hv
    exact ⟨w, e, hw⟩
  exact Ok.bindE e (hq w q)
theorem Ok.forCall {γ : Type} {Q : γ → Prop} {b : α → Unit → Option (Ctl Unit R)} {xs : List α} {f : R → Option γ} {g : Unit → Option γ} (hs : ∀ x ∈ xs, Ok (b x ()) (· = .nx ())) (hq : Ok (g ()) Q) : Ok ((Pv.forC b xs ()).bind (contC f g)) Q :=
  Ok.bindE (forC_all fun x hx => (hs x hx).eq) hq
end
def insS (x : Nat) : List Nat → List Nat
  | [] => [x]
  | y :: ys => if x ≤ y then x :: y :: ys else y :: insS x ys
def isort : List Nat → List Nat
  | [] => []
  | x :: xs => insS x (isort xs)
theorem insS_perm (x : Nat) : ∀ ys : List Nat, (insS x ys).Perm (x :: ys)
  | [] => List.Perm.refl _
  | y :: ys => by
    unfold insS
    split
    · exact List.Perm.refl _
    · exact ((insS_perm x ys).cons y).trans (List.Perm.swap x y ys)
theorem isort_perm : ∀ xs : List Nat, (isort xs).Perm xs
  | [] => List.Perm.refl _
  | x :: xs => (insS_perm x _).trans ((isort_perm xs).cons x)
theorem insS_pair (x : Nat) : ∀ ys : List Nat, ys.Pairwise (· ≤ ·) → (insS x ys).Pairwise (· ≤ ·)
  | [], _ => by simp [insS]
  | y :: ys, h => by
    rw [List.pairwise_cons] at h
    unfold insS
    split
    · rename_i hxy
      rw [List.pairwise_cons]
      refine ⟨fun z hz => ?_, List.pairwise_cons.mpr h⟩
      rcases List.mem_cons.mp hz with rfl | hz
      · exact hxy
      · have := h.1 z hz; omega
    · rename_i hxy
      rw [List.pairwise_cons]
      refine ⟨fun z hz => ?_, insS_pair x ys h.2⟩
      rcases List.mem_cons.mp ((insS_perm x ys).mem_iff.mp hz) with rfl | hz
      · omega
      · exact h.1 z hz
theorem isort_pair : ∀ xs : List Nat, (isort xs).Pairwise (· ≤ ·)
  | [] => List.Pairwise.nil
  | x :: xs => insS_pair x _ (isort_pair xs)
theorem isort_mem {x : Nat} {xs : List Nat} : x ∈ isort xs ↔ x ∈ xs := (isort_perm xs).mem_iff
theorem isort_nodup {xs : List Nat} : (isort xs).Nodup ↔ xs.Nodup := (isort_perm xs).nodup_iff
theorem isort_lt {xs : List Nat} (h : xs.Nodup) : (isort xs).Pairwise (· < ·) := by
  have h1 := isort_pair xs
  have h2 : (isort xs).Pairwise (· ≠ ·) := isort_nodup.mpr h
  exact (h1.and h2).imp fun h => Nat.lt_of_le_of_ne h.1 h.2
theorem dle_nD (x y : Nat) : dle (nD x) (nD y) = decide (x ≤ y) := by
  have : dle (nD x) (nD y) = !decide ((y : Int) < (x : Int)) := by
    show (!PyProof.Rows.lexLt PyProof.Rows.itemOrd [Sum.inl (y : Int)] [Sum.inl (x : Int)]) = _
    by_cases h : (y : Int) < (x : Int)
    · simp [PyProof.Rows.lexLt, PyProof.Rows.itemLt, h]
    · simp [PyProof.Rows.lexLt, PyProof.Rows.itemLt, h]
  rw [this]
  by_cases h : x ≤ y
  · simp [h]
  · simp [h]; omega
theorem sortBy_nD (xs : List Nat) : sortBy nD xs = isort xs := by
  unfold sortBy
  simp only [dle_nD]
  refine List.Perm.eq_of_pairwise (le := fun a b => a ≤ b) (fun a b _ _ h1 h2 => Nat.le_antisymm h1 h2) ?_ (isort_pair xs) ((List.mergeSort_perm _ _).trans (isort_perm xs).symm)
  have := List.pairwise_mergeSort (le := fun a b : Nat => decide (a ≤ b)) (fun a b c h1 h2 => by simp at *; omega) (fun a b => by simp; omega) xs
  exact this.imp fun h => by simpa using h
theorem sortOk_nD (xs : List Nat) (hl : xs.length ≤ 1000000) : sortOk (xs.map nD) = true := by
  unfold sortOk
  simp only [Bool.and_eq_true, Bool.or_eq_true, decide_eq_true_eq, List.length_map, List.all_eq_true, List.mem_map]
  refine ⟨⟨⟨hl, ?_⟩, ?_⟩, .inr ?_⟩
  · rintro _ ⟨x, _, rfl⟩; rfl
  · rintro _ ⟨x, _, rfl⟩ _ ⟨y, _, rfl⟩; rfl
  · rintro _ ⟨x, _, rfl⟩; rfl
theorem sortP_nD {xs : List Nat} (hl : xs.length ≤ 1000000) : sortP nD xs = some (isort xs) := by
  unfold sortP; rw [if_pos (sortOk_nD xs hl), sortBy_nD]
theorem tC_tU (xs : List Nat) : tC nD xs = tU xs := rfl
theorem sortP_tC {xs : List (List Nat)} (hl : xs.length ≤ 1000000) (h : ∀ x ∈ xs, x ≠ []) : sortP (tC nD) xs = some (sortBy (tC nD) xs) := by
  unfold sortP
  rw [if_pos]
  have e2 : xs.map (tC nD) = (xs.map fun xs => xs.map fun k : Nat => (k : Int)).map tN := by
    rw [List.map_map]
    refine List.map_congr_left fun x _ => ?_
    show tU x = tN _
    rw [tU, tN, nD_ints]
  rw [e2]
  refine sortOk_tN (by rw [List.length_map]; exact hl) fun x hx => ?_
  obtain ⟨y, hy, rfl⟩ := List.mem_map.mp hx
  exact fun z => h y hy (List.map_eq_nil_iff.mp z)
theorem sortBy_perm {α : Type} (f : α → D) (xs : List α) : (sortBy f xs).Perm xs := List.mergeSort_perm _ _
/-- two ascending lists with the same members -/
theorem asc_eq {xs ys : List Nat} (h1 : xs.Pairwise (· < ·)) (h2 : ys.Pairwise (· < ·)) (h : ∀ x, x ∈ xs ↔ x ∈ ys) : xs = ys := by
  have n1 : xs.Nodup := h1.imp fun h => Nat.ne_of_lt h
  have n2 : ys.Nodup := h2.imp fun h => Nat.ne_of_lt h
  exact List.Perm.eq_of_pairwise (le := fun a b => a < b) (fun a b _ _ h1 h2 => absurd h1 (by omega)) h1 h2 ((List.perm_ext_iff_of_nodup n1 n2).mpr h)
theorem sortUN_mem {x : Nat} {xs : List Nat} : x ∈ sortUN xs ↔ x ∈ xs := by
  unfold sortUN
  rw [List.mem_map]
  constructor
  · rintro ⟨i, hi, rfl⟩
    rw [sortU_mem, List.mem_map] at hi
    obtain ⟨a, ha, rfl⟩ := hi
    simpa using ha
  · intro h
    exact ⟨(x : Int), sortU_mem.mpr (List.mem_map.mpr ⟨x, h, rfl⟩), rfl⟩
theorem sortUN_asc (xs : List Nat) : (sortUN xs).Pairwise (· < ·) := by
  unfold sortUN
  rw [List.pairwise_map]
  refine (sortU_pair _).imp_of_mem fun {a b} ha hb h => ?_
  rw [sortU_mem, List.mem_map] at ha hb
  obtain ⟨x, _, rfl⟩ := ha
  obtain ⟨y, _, rfl⟩ := hb
  simpa using h
theorem sortUN_eq {xs : List Nat} (h : xs.Pairwise (· < ·)) : sortUN xs = xs := asc_eq (sortUN_asc xs) h fun x => sortUN_mem
theorem sortSetP_eq {xs : List Nat} (h : xs.length ≤ 60) : sortSetP xs = some (sortUN xs) := if_pos h
theorem nodup_len : ∀ (n : Nat) {l : List Nat}, l.Nodup → (∀ x ∈ l, x < n) → l.length ≤ n
  | 0, l, _, h => by
    cases l with
    | nil => simp
    | cons x l => exact absurd (h x (.head _)) (by omega)
  | n + 1, l, nd, h => by
    by_cases hn : n ∈ l
    · have h1 := nodup_len n (l := l.erase n) (nd.erase n) fun x hx => by
        have h2 := h x (List.mem_of_mem_erase hx)
        have h3 : x ≠ n := (List.Nodup.mem_erase_iff nd).mp hx |>.1
        omega
      rw [List.length_erase_of_mem hn] at h1
      omega
    · have := nodup_len n nd fun x hx => by
        have h2 := h x hx
        have h3 : x ≠ n := fun e => hn (e ▸ hx)
        omega
      omega
def bey (r : Rd) (x : Nat) : Option Nat := if x = r.a then some r.b else if x = r.b then some r.a else none
def nb (w : Web) (i x : Nat) : Option Nat := w.rs[i]?.bind fun r => bey r x
/-- the roads that are not among some -/
def oth (w : Web) (l : List Nat) : List Nat := (List.range w.rs.length).filter fun i => decide (i ∉ l)
theorem oth_mem {w : Web} {l : List Nat} {i : Nat} : i ∈ oth w l ↔ i < w.rs.length ∧ i ∉ l := by simp [oth]
theorem oth_len (w : Web) (l : List Nat) : (oth w l).length ≤ w.rs.length := by
  have := List.length_filter_le (fun i => decide (i ∉ l)) (List.range w.rs.length)
  rw [List.length_range] at this
  exact this
theorem oth_nodup (w : Web) (l : List Nat) : (oth w l).Nodup := List.nodup_range.filter _
theorem p_other_roads_eq {w : Web} (l : List Nat) (h : w.rs.length ≤ 1000) : p_other_roads w l = some (oth w l) := by
  unfold p_other_roads
  rw [rngP_eq (by omega), Option.bind_some, lcT_filter (by simp; omega), Option.bind_some]; rfl
theorem p_ends_of_eq {w : Web} {i : Nat} {r : Rd} (h : w.rs[i]? = some r) : p_ends_of w i = some (r.a, r.b) := by
  unfold p_ends_of; rw [h]; rfl
theorem p_low_of_eq {w : Web} {i : Nat} {r : Rd} (h : w.rs[i]? = some r) : p_low_of w i = some r.lo := by
  unfold p_low_of; rw [h]; rfl
theorem p_high_of_eq {w : Web} {i : Nat} {r : Rd} (h : w.rs[i]? = some r) : p_high_of w i = some r.hi := by
  unfold p_high_of; rw [h]; rfl
theorem get_lt {α : Type} {xs : List α} {i : Nat} (h : i < xs.length) : ∃ x, xs[i]? = some x := ⟨xs[i], List.getElem?_eq_getElem h⟩
/-- lengths: high for some roads, low for the others -/
def rai (w : Web) (l : List Nat) : List Nat := (numd w.rs).map fun x => if x.1 ∈ l then x.2.hi else x.2.lo
theorem p_raised_eq {w : Web} (l : List Nat) (h : w.rs.length ≤ 1000) : p_raised w l = some (rai w l) := by
  unfold p_raised
  rw [forP_map (fun x : Nat × Rd => if x.1 ∈ l then x.2.hi else x.2.lo) (by rw [numd_len]; omega) fun x _ v hv => by
    rw [appP_eq hv]; simp]
  rfl
theorem rai_len (w : Web) (l : List Nat) : (rai w l).length = w.rs.length := by rw [rai, List.length_map, numd_len]
theorem rai_get {w : Web} {l : List Nat} {i : Nat} {r : Rd} (h : w.rs[i]? = some r) : (rai w l)[i]? = some (if i ∈ l then r.hi else r.lo) := by
  rw [rai, List.getElem?_map, numd_get, h]; rfl
theorem p_beyond_eq {w : Web} {i : Nat} {r : Rd} (h : w.rs[i]? = some r) (x : Nat) : p_beyond w i x = some (nb w i x) := by
  unfold p_beyond nb bey
  rw [p_ends_of_eq h, h]
  simp only [Option.bind_some, decide_eq_true_eq]
  split
  · rfl
  · rfl
/-- a web with roads between houses -/
def RdsOk (w : Web) : Prop := ∀ r ∈ w.rs, r.a < r.b ∧ r.b < w.n
theorem nb_symm {w : Web} {i x y : Nat} (W : RdsOk w) (h : nb w i x = some y) : nb w i y = some x := by
  unfold nb at h ⊢
  obtain ⟨r, h1, h2⟩ := bind_some_iff h
  have lt := W r (List.mem_of_getElem? h1)
  rw [h1]
  show bey r y = some x
  unfold bey at h2 ⊢
  split at h2
  · rename_i e
    cases h2
    rw [if_neg (by omega), if_pos rfl, e]
  · split at h2
    · rename_i e
      cases h2
      rw [if_pos rfl, e]
    · cases h2
theorem nb_lt {w : Web} {i x t : Nat} (W : RdsOk w) (h : nb w i x = some t) : t < w.n := by
  unfold nb at h
  obtain ⟨r, h1, h2⟩ := bind_some_iff h
  have := W r (List.mem_of_getElem? h1)
  unfold bey at h2
  split at h2
  · cases h2; omega
  · split at h2
    · cases h2; omega
    · cases h2
/-- joined by roads of ok -/
inductive Jn (w : Web) (ok : List Nat) (x : Nat) : Nat → Prop
  | refl : Jn w ok x x
  | step {y z i : Nat} : Jn w ok x y → i ∈ ok → nb w i y = some z → Jn w ok x z
theorem Jn.trans {w : Web} {ok : List Nat} {x y z : Nat} (h1 : Jn w ok x y) (h2 : Jn w ok y z) : Jn w ok x z := by
  induction h2 with
  | refl => exact h1
  | step _ h3 h4 ih => exact .step ih h3 h4
theorem Jn.symm {w : Web} {ok : List Nat} (W : RdsOk w) {x y : Nat} (h : Jn w ok x y) : Jn w ok y x := by
  induction h with
  | refl => exact .refl
  | step _ h3 h4 ih => exact (Jn.step .refl h3 (nb_symm W h4)).trans ih
theorem Jn.mono {w : Web} {ok ok' : List Nat} (h : ∀ i ∈ ok, i ∈ ok') {x y : Nat} (j : Jn w ok x y) : Jn w ok' x y := by
  induction j with
  | refl => exact .refl
  | step _ h3 h4 ih => exact .step ih (h _ h3) h4
theorem Jn.lt {w : Web} {ok : List Nat} (W : RdsOk w) {x y : Nat} (j : Jn w ok x y) (hx : x < w.n) : y < w.n := by
  induction j with
  | refl => exact hx
  | step _ _ h4 _ => exact nb_lt W h4
theorem jn_closed {w : Web} {ok : List Nat} {F : Nat → Prop} {x : Nat} (h0 : F x) (hc : ∀ y, F y → ∀ i ∈ ok, ∀ z, nb w i y = some z → F z) {y : Nat} (j : Jn w ok x y) : F y := by
  induction j with
  | refl => exact h0
  | step _ h3 h4 ih => exact hc _ ih _ h3 _ h4
theorem nb_ends {w : Web} {i : Nat} {r : Rd} (h : w.rs[i]? = some r) : nb w i r.a = some r.b := by
  unfold nb; rw [h]; simp [bey]
theorem nb_cases {w : Web} {i x y : Nat} {r : Rd} (h : w.rs[i]? = some r) (e : nb w i x = some y) : (x = r.a ∧ y = r.b) ∨ (x = r.b ∧ y = r.a) := by
  unfold nb at e
  rw [h] at e
  have e : bey r x = some y := e
  unfold bey at e
  split at e
  · rename_i hx; cases e; exact .inl ⟨hx, rfl⟩
  · split at e
    · rename_i hx; cases e; exact .inr ⟨hx, rfl⟩
    · cases e
end G

namespace G
open PySem PySem.Spec L2 Pv
/-- the ways from a house to the goal, k houses deep -/
def wy (w : Web) (ok : List Nat) (goal : Nat) : Nat → Nat → List Nat → List (List Nat)
  | 0, _, _ => []
  | k + 1, here, seen => if here = goal then [[]] else ok.flatMap fun i => match nb w i here with
    | some t => if t ∈ seen then [] else (wy w ok goal k t (seen ++ [t])).map (i :: ·)
    | none => []
theorem flatMap_len {α β : Type} {f : α → List β} {B : Nat} : ∀ {l : List α}, (∀ x ∈ l, (f x).length ≤ B) → (l.flatMap f).length ≤ l.length * B
  | [], _ => by simp
  | x :: l, h => by
    rw [List.flatMap_cons, List.length_append, List.length_cons, Nat.add_mul, Nat.one_mul]
    have h1 := flatMap_len (l := l) (f := f) fun y hy => h y (.tail _ hy)
    have h2 := h x (.head _)
    omega
theorem wy_len {w : Web} {ok : List Nat} {goal : Nat} (hok : ok.length ≤ 9) : ∀ (k here : Nat) (seen : List Nat), (wy w ok goal k here seen).length ≤ 9 ^ (k - 1)
  | 0, _, _ => by simp [wy]
  | k + 1, here, seen => by
    unfold wy
    split
    · exact Nat.pos_of_ne_zero (by simp)
    · have : ∀ i ∈ ok, (match nb w i here with
        | some t => if t ∈ seen then [] else (wy w ok goal k t (seen ++ [t])).map (i :: ·)
        | none => []).length ≤ if k = 0 then 0 else 9 ^ (k - 1) := fun i _ => by
        split
        · split
          · simp
          · rename_i t _ _
            rw [List.length_map]
            split
            · rename_i hk; subst hk; simp [wy]
            · exact wy_len hok k t (seen ++ [t])
        · simp
      refine Nat.le_trans (flatMap_len this) ?_
      split
      · simp
      · rename_i hk
        rw [Nat.add_sub_cancel]
        obtain ⟨j, rfl⟩ : ∃ j, k = j + 1 := ⟨k - 1, by omega⟩
        rw [Nat.add_sub_cancel, Nat.pow_succ, Nat.mul_comm]
        exact Nat.mul_le_mul_left _ hok
theorem wy_short {w : Web} {ok : List Nat} {goal : Nat} : ∀ (k here : Nat) (seen : List Nat), ∀ x ∈ wy w ok goal k here seen, x.length < k
  | 0, _, _, x, h => by simp [wy] at h
  | k + 1, here, seen, x, h => by
    unfold wy at h
    split at h
    · simp at h; subst h; simp
    · obtain ⟨i, _, h⟩ := List.mem_flatMap.mp h
      split at h
      · split at h
        · simp at h
        · obtain ⟨y, hy, rfl⟩ := List.mem_map.mp h
          have := wy_short k _ _ y hy
          simp; omega
      · simp at h
theorem wy_ne {w : Web} {ok : List Nat} {goal k here : Nat} {seen : List Nat} (h : here ≠ goal) : ∀ x ∈ wy w ok goal k here seen, x ≠ [] := by
  intro x hx
  cases k with
  | zero => simp [wy] at hx
  | succ k =>
    unfold wy at hx
    rw [if_neg h] at hx
    obtain ⟨i, _, hx⟩ := List.mem_flatMap.mp hx
    split at hx
    · split at hx
      · simp at hx
      · obtain ⟨y, hy, rfl⟩ := List.mem_map.mp hx
        simp
    · simp at hx
inductive Pth (w : Web) (ok : List Nat) : Nat → List Nat → Nat → Prop
  | nil (x : Nat) : Pth w ok x [] x
  | cons {x t z i : Nat} {ts : List Nat} : i ∈ ok → nb w i x = some t → Pth w ok t ts z → Pth w ok x (t :: ts) z
theorem Pth.snoc {w : Web} {ok : List Nat} {x y z i : Nat} {ts : List Nat} (p : Pth w ok x ts y) (hi : i ∈ ok) (hn : nb w i y = some z) : Pth w ok x (ts ++ [z]) z := by
  induction p with
  | nil x => exact .cons hi hn (.nil _)
  | cons h1 h2 _ ih => exact .cons h1 h2 (ih hn)
theorem jn_pth {w : Web} {ok : List Nat} {x y : Nat} (j : Jn w ok x y) : ∃ ts, Pth w ok x ts y := by
  induction j with
  | refl => exact ⟨[], .nil _⟩
  | step _ h1 h2 ih =>
    obtain ⟨ts, p⟩ := ih
    exact ⟨_, p.snoc h1 h2⟩
theorem Pth.suffix {w : Web} {ok : List Nat} {x z t : Nat} {ts : List Nat} (p : Pth w ok x ts z) (ht : t ∈ ts) : ∃ us, Pth w ok t us z ∧ us.length < ts.length ∧ ∀ y ∈ us, y ∈ ts := by
  induction p with
  | nil x => simp at ht
  | cons h1 h2 p ih =>
    rcases List.mem_cons.mp ht with e | ht
    · subst e
      exact ⟨_, p, by simp, fun y hy => List.mem_cons_of_mem _ hy⟩
    · obtain ⟨us, a, b, c⟩ := ih ht
      exact ⟨us, a, by simp; omega, fun y hy => List.mem_cons_of_mem _ (c y hy)⟩
theorem wy_some {w : Web} {ok : List Nat} {goal : Nat} (W : RdsOk w) : ∀ (m k here : Nat) (seen ts : List Nat), ts.length ≤ m → Pth w ok here ts goal → (∀ y ∈ ts, y ∉ seen) → k + seen.length = w.n + 1 → seen.Nodup → (∀ y ∈ seen, y < w.n) → wy w ok goal k here seen ≠ []
  | m, 0, here, seen, ts, _, _, _, hk, nd, lt => by
    have := nodup_len _ nd lt
    omega
  | m, k + 1, here, seen, [], _, p, _, _, _, _ => by
    cases p
    unfold wy
    rw [if_pos rfl]
    simp
  | 0, k + 1, here, seen, t :: ts, h, _, _, _, _, _ => by simp at h
  | m + 1, k + 1, here, seen, t :: ts, h, p, av, hk, nd, lt => by
    cases p with
    | cons h1 h2 p =>
      rename_i i
      unfold wy
      split
      · simp
      · have ht : t ∉ seen := av t (.head _)
        have key : ∃ us, Pth w ok t us goal ∧ us.length ≤ m ∧ ∀ y ∈ us, y ∉ seen ++ [t] := by
          have base : ∀ (l : Nat) (us : List Nat), us.length ≤ l → Pth w ok t us goal → us.length ≤ m → (∀ y ∈ us, y ∉ seen) → ∃ us, Pth w ok t us goal ∧ us.length ≤ m ∧ ∀ y ∈ us, y ∉ seen ++ [t] := by
            intro l
            induction l with
            | zero =>
              intro us hl pu hm hs
              obtain rfl : us = [] := List.eq_nil_of_length_eq_zero (by omega)
              exact ⟨[], pu, by simp, by simp⟩
            | succ l ih =>
              intro us hl pu hm hs
              by_cases hin : t ∈ us
              · obtain ⟨vs, a, b, c⟩ := pu.suffix hin
                exact ih vs (by omega) a (by omega) fun y hy => hs y (c y hy)
              · refine ⟨us, pu, hm, fun y hy hy2 => ?_⟩
                rcases List.mem_append.mp hy2 with q | q
                · exact hs y hy q
                · exact hin (List.mem_singleton.mp q ▸ hy)
          exact base ts.length ts (Nat.le_refl _) p (by simpa using h) fun y hy => av y (.tail _ hy)
        obtain ⟨us, a, b, c⟩ := key
        have ih := wy_some W m k t (seen ++ [t]) us b a c (by simp; omega) (List.nodup_append.mpr ⟨nd, by simp, fun x hx y hy e => by simp at hy; subst hy; subst e; exact ht hx⟩) (fun y hy => by
          rcases List.mem_append.mp hy with hy | hy
          · exact lt y hy
          · simp at hy; subst hy; exact nb_lt W h2)
        intro e
        have := List.flatMap_eq_nil_iff.mp e i h1
        rw [h2] at this
        simp only [if_neg ht] at this
        exact ih (List.map_eq_nil_iff.mp this)
theorem wy_jn {w : Web} {ok : List Nat} {goal : Nat} : ∀ (k here : Nat) (seen : List Nat), ∀ x ∈ wy w ok goal k here seen, Jn w ok here goal
  | 0, _, _, x, h => by simp [wy] at h
  | k + 1, here, seen, x, h => by
    unfold wy at h
    split at h
    · rename_i e; subst e; exact .refl
    · obtain ⟨i, hi, h⟩ := List.mem_flatMap.mp h
      split at h
      · rename_i t ht
        split at h
        · simp at h
        · obtain ⟨y, hy, rfl⟩ := List.mem_map.mp h
          exact (Jn.step .refl hi ht).trans (wy_jn k _ _ y hy)
      · simp at h
/-- there is a way exactly between joined houses -/
theorem wy_iff {w : Web} {ok : List Nat} {a goal : Nat} (W : RdsOk w) (ha : a < w.n) (hne : a ≠ goal) : wy w ok goal w.n a [a] ≠ [] ↔ Jn w ok a goal := by
  constructor
  · intro h
    obtain ⟨x, hx⟩ := List.exists_mem_of_ne_nil _ h
    exact wy_jn _ _ _ x hx
  · intro j
    obtain ⟨ts, p⟩ := jn_pth j
    have key : ∃ us, Pth w ok a us goal ∧ ∀ y ∈ us, y ∉ [a] := by
      have base : ∀ (l : Nat) (us : List Nat), us.length ≤ l → Pth w ok a us goal → ∃ us, Pth w ok a us goal ∧ ∀ y ∈ us, y ∉ [a] := by
        intro l
        induction l with
        | zero =>
          intro us hl pu
          obtain rfl : us = [] := List.eq_nil_of_length_eq_zero (by omega)
          exact ⟨[], pu, by simp⟩
        | succ l ih =>
          intro us hl pu
          by_cases hin : a ∈ us
          · obtain ⟨vs, q1, q2, _⟩ := pu.suffix hin
            exact ih vs (by omega) q1
          · exact ⟨us, pu, fun y hy hy2 => hin (List.mem_singleton.mp hy2 ▸ hy)⟩
      exact base ts.length ts (Nat.le_refl _) p
    obtain ⟨us, q1, q2⟩ := key
    exact wy_some W us.length w.n a [a] us (Nat.le_refl _) q1 q2 (by simp) (by simp) (by simp; omega)

/-- a walk from a house to the goal that comes to no house twice -/
def Wk (w : Web) (goal : Nat) : List Nat → Nat → List Nat → Prop
  | [], here, _ => here = goal
  | i :: d, here, seen => ∃ t, nb w i here = some t ∧ t ∉ seen ∧ Wk w goal d t (seen ++ [t])
theorem wy_wk {w : Web} {ok : List Nat} {goal : Nat} : ∀ (k here : Nat) (seen : List Nat), ∀ d ∈ wy w ok goal k here seen, Wk w goal d here seen ∧ ∀ i ∈ d, i ∈ ok
  | 0, _, _, x, h => by simp [wy] at h
  | k + 1, here, seen, x, h => by
    unfold wy at h
    split at h
    · rename_i e
      simp at h
      subst h
      exact ⟨e, by simp⟩
    · obtain ⟨i, hi, h⟩ := List.mem_flatMap.mp h
      split at h
      · rename_i t ht
        split at h
        · simp at h
        · rename_i hs
          obtain ⟨y, hy, rfl⟩ := List.mem_map.mp h
          obtain ⟨a, b⟩ := wy_wk k _ _ y hy
          refine ⟨⟨t, ht, hs, a⟩, fun j hj => ?_⟩
          rcases List.mem_cons.mp hj with rfl | hj
          · exact hi
          · exact b j hj
      · simp at h
theorem wy_of_wk {w : Web} {ok : List Nat} {goal : Nat} (W : RdsOk w) : ∀ (d : List Nat) (k here : Nat) (seen : List Nat), Wk w goal d here seen → (∀ i ∈ d, i ∈ ok) → goal ∉ seen ∨ here = goal → k + seen.length = w.n + 1 → seen.Nodup → (∀ y ∈ seen, y < w.n) → here ≠ goal ∨ d = [] → d ∈ wy w ok goal k here seen
  | [], k, here, seen, h, _, _, hk, nd, lt, _ => by
    have := nodup_len _ nd lt
    obtain ⟨m, rfl⟩ : ∃ m, k = m + 1 := ⟨k - 1, by omega⟩
    have h : here = goal := h
    unfold wy
    rw [if_pos h]; simp
  | i :: d, k, here, seen, h, hi, hg, hk, nd, lt, hne => by
    have hn := nodup_len _ nd lt
    obtain ⟨m, rfl⟩ : ∃ m, k = m + 1 := ⟨k - 1, by omega⟩
    obtain ⟨t, h1, h2, h3⟩ := h
    have hne : here ≠ goal := by rcases hne with h | h; exact h; cases h
    have hg : goal ∉ seen := by rcases hg with h | h; exact h; exact absurd h hne
    unfold wy
    rw [if_neg hne, List.mem_flatMap]
    refine ⟨i, hi i (.head _), ?_⟩
    rw [h1]
    show i :: d ∈ if t ∈ seen then [] else (wy w ok goal m t (seen ++ [t])).map (i :: ·)
    rw [if_neg h2, List.mem_map]
    refine ⟨d, wy_of_wk W d m t (seen ++ [t]) h3 (fun j hj => hi j (.tail _ hj)) ?_ (by simp; omega) (List.nodup_append.mpr ⟨nd, by simp, fun x hx y hy e => by simp at hy; subst hy; subst e; exact h2 hx⟩) (fun y hy => ?_) ?_, rfl⟩
    · by_cases e : t = goal
      · exact .inr e
      · left
        intro q
        rcases List.mem_append.mp q with q | q
        · exact hg q
        · exact e (List.mem_singleton.mp q).symm
    · rcases List.mem_append.mp hy with hy | hy
      · exact lt y hy
      · simp at hy; subst hy; exact nb_lt W h1
    · by_cases e : t = goal
      · right
        cases d with
        | nil => rfl
        | cons j d =>
          exfalso
          -- the goal would be come to again
          have key : ∀ (d : List Nat) (x : Nat) (s : List Nat), Wk w goal d x s → goal ∈ s → d = [] := by
            intro d
            induction d with
            | nil => intro x s _ _; rfl
            | cons j d ih =>
              intro x s hw hs
              obtain ⟨u, a1, a2, a3⟩ := hw
              have := ih u (s ++ [u]) a3 (List.mem_append_left _ hs)
              subst this
              have a3 : u = goal := a3
              exact absurd (a3 ▸ hs) a2
          have := key (j :: d) t (seen ++ [t]) h3 (by rw [e]; simp)
          cases this
      · exact .inl e
theorem p_ways_on_eq {w : Web} (hn : w.n ≤ 6) (W : RdsOk w) {ok : List Nat} (hok : ok.length ≤ 9) (hlt : ∀ i ∈ ok, i < w.rs.length) (goal : Nat) : ∀ (K k here : Nat) (seen : List Nat), k ≤ K → k + seen.length = w.n + 1 → seen.Nodup → (∀ x ∈ seen, x < w.n) → here ∈ seen →
    p_ways_on K w ok here goal seen = some (wy w ok goal k here seen)
  | K, 0, here, seen, _, hl, nd, lt, _ => by
    have := nodup_len w.n nd lt
    omega
  | 0, k + 1, here, seen, h, _, _, _, _ => by omega
  | K + 1, k + 1, here, seen, hK, hl, nd, lt, hm => by
    have hs1 : 1 ≤ seen.length := by
      cases seen with
      | nil => simp at hm
      | cons => simp
    unfold wy p_ways_on
    by_cases hg : here = goal
    · simp [hg]
    · rw [if_neg (by simpa using hg), if_neg hg]
      let g : Nat → List (List Nat) := fun i => match nb w i here with
        | some t => if t ∈ seen then [] else (wy w ok goal k t (seen ++ [t])).map (i :: ·)
        | none => []
      have gl : ∀ i, (g i).length ≤ 9 ^ 5 := fun i => by
        show (match nb w i here with
        | some t => if t ∈ seen then [] else (wy w ok goal k t (seen ++ [t])).map (i :: ·)
        | none => []).length ≤ 9 ^ 5
        split
        · split
          · simp
          · rw [List.length_map]
            exact Nat.le_trans (wy_len hok _ _ _) (Nat.pow_le_pow_right (by decide) (by omega))
        · simp
      obtain ⟨v, e, hv⟩ := forP_I (I := fun j v => v = (ok.take j).flatMap g) (v := ([] : List (List Nat))) (xs := ok) (b := fun (x_4 : Nat) (v_2 : List (List Nat)) =>
        (p_beyond w x_4 here).bind fun beyond_5 =>
        (if (beyond_5.isSome && (!omem beyond_5 seen)) = true then
          (beyond_5).bind fun there_7 =>
          (addP seen ([there_7] : List Nat)).bind fun sum_8 =>
          (p_ways_on K w ok there_7 goal sum_8).bind fun ways_on_9 =>
          (lcP (fun (_ : (List Nat)) => some true) (fun (x_10 : (List Nat)) => (addP ([x_4] : List Nat) x_10).bind fun sum_11 => some (sum_11 : (List Nat))) ways_on_9).bind fun lc_12 =>
          (addP v_2 lc_12).bind fun found_13 =>
          some found_13
        else
          some v_2)) rfl (fun j i v hi hv => by
          subst hv
          obtain ⟨hj, _⟩ := List.getElem?_eq_some_iff.mp hi
          have him : i ∈ ok := List.mem_of_getElem? hi
          obtain ⟨r, hr⟩ := get_lt (hlt i him)
          have tk : (ok.take (j + 1)).flatMap g = (ok.take j).flatMap g ++ g i := by
            rw [List.take_succ, hi]; simp [List.flatMap_append]
          have acc : ((ok.take j).flatMap g).length ≤ 8 * 9 ^ 5 :=
            Nat.le_trans (flatMap_len fun x _ => gl x) (Nat.mul_le_mul_right _ (by rw [List.length_take]; omega))
          refine ⟨_, ?_, tk.symm⟩
          have gli := gl i
          rw [p_beyond_eq hr, Option.bind_some]
          show _ = some ((ok.take j).flatMap g ++ (match nb w i here with
            | some t => if t ∈ seen then [] else (wy w ok goal k t (seen ++ [t])).map (i :: ·)
            | none => []))
          generalize (ok.take j).flatMap g = A at acc ⊢
          cases hnb : nb w i here with
          | none => simp
          | some t =>
            by_cases hts : t ∈ seen
            · simp [hts, omem]
            · have htl := nb_lt W hnb
              have sl := nodup_len w.n nd lt
              have ih := p_ways_on_eq hn W hok hlt goal K k t (seen ++ [t]) (by omega) (by simp; omega) (List.nodup_append.mpr ⟨nd, by simp, fun x hx y hy e => by simp at hy; subst hy; subst e; exact hts hx⟩) (fun x hx => by
                rcases List.mem_append.mp hx with hx | hx
                · exact lt x hx
                · simp at hx; subst hx; exact htl) (by simp)
              have wl := wy_len (w := w) (goal := goal) hok k t (seen ++ [t])
              have wl2 : (wy w ok goal k t (seen ++ [t])).length ≤ 59049 := Nat.le_trans wl (Nat.le_trans (Nat.pow_le_pow_right (by decide) (show k - 1 ≤ 5 by omega)) (by decide))
              have e1 : addP seen [t] = some (seen ++ [t]) := addP_eq (by simp; omega)
              have e2 : lcP (fun (_ : List Nat) => some true) (fun (x : List Nat) => addP ([i] : List Nat) x) (wy w ok goal k t (seen ++ [t])) = some ((wy w ok goal k t (seen ++ [t])).map (i :: ·)) := lcP_map _ (by omega) fun x hx => by
                have := wy_short _ _ _ x hx
                rw [addP_eq (by simp; omega)]; rfl
              have e3 : addP A ((wy w ok goal k t (seen ++ [t])).map (i :: ·)) = some (A ++ (wy w ok goal k t (seen ++ [t])).map (i :: ·)) := addP_eq (by
                rw [List.length_map]
                have : 8 * 9 ^ 5 = 472392 := by decide
                omega)
              simp [hts, omem, e1, ih, e2, e3])
      rw [e, Option.bind_some, hv, List.take_of_length_le (Nat.le_refl _)]
/-- the roads of a list other than one -/
def oks (l : List Nat) (road : Nat) : List Nat := l.filter fun i => decide (i ≠ road)
theorem oks_mem {l : List Nat} {road i : Nat} : i ∈ oks l road ↔ i ∈ l ∧ i ≠ road := by simp [oks]
theorem oks_len {w : Web} {l : List Nat} {road : Nat} (nd : l.Nodup) (hl : ∀ i ∈ l, i < w.rs.length) (h : road < w.rs.length) (hm : w.rs.length ≤ 10) : (oks l road).length ≤ 9 := by
  have := nodup_len w.rs.length (l := road :: oks l road) (List.nodup_cons.mpr ⟨fun hi => (oks_mem.mp hi).2 rfl, nd.filter _⟩) fun x hx => by
    rcases List.mem_cons.mp hx with rfl | hx
    · exact h
    · exact hl x (oks_mem.mp hx).1
  rw [List.length_cons] at this
  omega
/-- all detours by some roads -/
def dets (w : Web) (l : List Nat) (road : Nat) (r : Rd) : List (List Nat) := wy w (oks l road) r.b w.n r.a [r.a]
section
variable {w : Web} {l : List Nat} {road : Nat} {r : Rd} (hn : w.n ≤ 6) (hm : w.rs.length ≤ 10) (W : RdsOk w) (hr : w.rs[road]? = some r) (nd : l.Nodup) (hl : ∀ i ∈ l, i < w.rs.length)
include hn hm W hr nd hl
theorem p_detours_by_eq : p_detours_by w road l = some (sortBy (tC nD) (dets w l road r)) := by
  have hrl := (List.getElem?_eq_some_iff.mp hr).1
  have Wr := W r (List.mem_of_getElem? hr)
  have ol := oks_len nd hl hrl hm
  have ll := nodup_len _ nd hl
  have wo := p_ways_on_eq hn W ol (fun i hi => hl i (oks_mem.mp hi).1) r.b 7 w.n r.a [r.a] (by omega) (by simp) (by simp) (by simp; omega) (by simp)
  have wl : (dets w l road r).length ≤ 1000000 := Nat.le_trans (wy_len ol _ _ _) (Nat.le_trans (Nat.pow_le_pow_right (by decide) (show w.n - 1 ≤ 5 by omega)) (by decide))
  have e1 : lcT (fun (x_2 : Nat) => (decide (x_2 ≠ road))) (fun (x_2 : Nat) => x_2) l = some (oks l road) := lcT_filter (by omega)
  unfold p_detours_by
  rw [p_ends_of_eq hr, Option.bind_some, e1, Option.bind_some, wo, Option.bind_some]
  show (sortP (tC nD) (dets w l road r)).bind _ = _
  rw [sortP_tC wl (wy_ne (by omega))]; rfl
theorem dets_iff : dets w l road r ≠ [] ↔ Jn w (oks l road) r.a r.b := by
  have Wr := W r (List.mem_of_getElem? hr)
  exact wy_iff W (by omega) (by omega)
/-- the first detour: none exactly if there is none -/
theorem p_first_detour_eq : ∃ o, p_first_detour w road l = some o ∧ (o = none ↔ ¬ Jn w (oks l road) r.a r.b) ∧ ∀ d, o = some d → d ∈ dets w l road r := by
  unfold p_first_detour
  rw [p_detours_by_eq hn hm W hr nd hl, Option.bind_some]
  have hi := dets_iff hn hm W hr nd hl
  have pm := sortBy_perm (tC nD) (dets w l road r)
  cases hs : sortBy (tC nD) (dets w l road r) with
  | nil =>
    rw [hs] at pm
    have : dets w l road r = [] := List.Perm.nil_eq pm |>.symm
    exact ⟨none, by simp, by simp [← hi, this], fun d h => by cases h⟩
  | cons d ds =>
    rw [hs] at pm
    have hd : d ∈ dets w l road r := pm.mem_iff.mp (.head _)
    refine ⟨some d, by simp, ?_, fun d' h => by cases h; exact hd⟩
    have : dets w l road r ≠ [] := fun e => by rw [e] at hd; simp at hd
    simp [hi.mp this]
theorem dets_wk {d : List Nat} (h : d ∈ dets w l road r) : Wk w r.b d r.a [r.a] ∧ (∀ i ∈ d, i ∈ l ∧ i ≠ road) ∧ d ≠ [] := by
  have Wr := W r (List.mem_of_getElem? hr)
  obtain ⟨a, b⟩ := wy_wk _ _ _ d h
  exact ⟨a, fun i hi => oks_mem.mp (b i hi), wy_ne (by omega) d h⟩
end
end G

namespace G
open PySem PySem.Spec L2 Pv
/-- joined by pairs of houses -/
inductive Jp (ps : List (Nat × Nat)) (x : Nat) : Nat → Prop
  | refl : Jp ps x x
  | fwd {p : Nat × Nat} : Jp ps x p.1 → p ∈ ps → Jp ps x p.2
  | bwd {p : Nat × Nat} : Jp ps x p.2 → p ∈ ps → Jp ps x p.1
theorem jp_closed {ps : List (Nat × Nat)} {F : Nat → Prop} {x : Nat} (h0 : F x) (hc : ∀ p ∈ ps, F p.1 ↔ F p.2) {y : Nat} (j : Jp ps x y) : F y := by
  induction j with
  | refl => exact h0
  | fwd _ h ih => exact (hc _ h).mp ih
  | bwd _ h ih => exact (hc _ h).mpr ih
/-- found so far -/
structure FdOk (ps : List (Nat × Nat)) (x n : Nat) (F : List Nat) : Prop where
  f0 : x ∈ F
  nd : F.Nodup
  lt : ∀ y ∈ F, y < n
  jn : ∀ y ∈ F, Jp ps x y
/-- one look at all pairs -/
def rstep (v : List Nat × Bool) (p : Nat × Nat) : List Nat × Bool :=
  if decide (p.1 ∈ v.1) ≠ decide (p.2 ∈ v.1) then (v.1 ++ [if p.1 ∈ v.1 then p.2 else p.1], true) else v
theorem rstep_ok {ps : List (Nat × Nat)} {x n : Nat} {v : List Nat × Bool} {p : Nat × Nat} (h : FdOk ps x n v.1) (hp : p ∈ ps) (hlt : p.1 < n ∧ p.2 < n) : FdOk ps x n (rstep v p).1 := by
  unfold rstep
  split
  · rename_i hc
    by_cases h1 : p.1 ∈ v.1
    · have h2 : p.2 ∉ v.1 := fun h2 => hc (by simp [h1, h2])
      simp only [h1, if_true]
      refine ⟨List.mem_append_left _ h.f0, List.nodup_append.mpr ⟨h.nd, by simp, fun a ha b hb e => by simp at hb; subst hb; subst e; exact h2 ha⟩, fun y hy => ?_, fun y hy => ?_⟩
      · rcases List.mem_append.mp hy with hy | hy
        · exact h.lt y hy
        · simp at hy; subst hy; exact hlt.2
      · rcases List.mem_append.mp hy with hy | hy
        · exact h.jn y hy
        · simp at hy; subst hy; exact .fwd (h.jn _ h1) hp
    · have h2 : p.2 ∈ v.1 := by
        by_cases h2 : p.2 ∈ v.1
        · exact h2
        · exact absurd (by simp [h1, h2]) hc
      simp only [h1, if_false]
      refine ⟨List.mem_append_left _ h.f0, List.nodup_append.mpr ⟨h.nd, by simp, fun a ha b hb e => by simp at hb; subst hb; subst e; exact h1 ha⟩, fun y hy => ?_, fun y hy => ?_⟩
      · rcases List.mem_append.mp hy with hy | hy
        · exact h.lt y hy
        · simp at hy; subst hy; exact hlt.1
      · rcases List.mem_append.mp hy with hy | hy
        · exact h.jn y hy
        · simp at hy; subst hy; exact .bwd (h.jn _ h2) hp
  · exact h
theorem rfold_ok {ps : List (Nat × Nat)} {x n : Nat} : ∀ (qs : List (Nat × Nat)) {v : List Nat × Bool}, FdOk ps x n v.1 → (∀ p ∈ qs, p ∈ ps ∧ p.1 < n ∧ p.2 < n) → FdOk ps x n (qs.foldl rstep v).1
  | [], v, h, _ => h
  | p :: qs, v, h, hq => rfold_ok qs (rstep_ok h (hq p (.head _)).1 (hq p (.head _)).2) fun p hp => hq p (.tail _ hp)
theorem rfold_len : ∀ (qs : List (Nat × Nat)) (v : List Nat × Bool), v.1.length ≤ (qs.foldl rstep v).1.length ∧ (v.2 = true → (qs.foldl rstep v).2 = true) ∧ ((qs.foldl rstep v).2 = true → v.2 = true ∨ v.1.length < (qs.foldl rstep v).1.length) ∧ ((qs.foldl rstep v).2 = false → (qs.foldl rstep v).1 = v.1 ∧ ∀ p ∈ qs, p.1 ∈ v.1 ↔ p.2 ∈ v.1)
  | [], v => ⟨Nat.le_refl _, fun h => h, fun h => .inl h, fun _ => ⟨rfl, fun p hp => by simp at hp⟩⟩
  | p :: qs, v => by
    obtain ⟨a, b, c, d⟩ := rfold_len qs (rstep v p)
    rw [List.foldl_cons]
    by_cases hc : decide (p.1 ∈ v.1) ≠ decide (p.2 ∈ v.1)
    · have e : rstep v p = (v.1 ++ [if p.1 ∈ v.1 then p.2 else p.1], true) := if_pos hc
      rw [e] at a b c d ⊢
      simp only [List.length_append, List.length_singleton] at a c
      refine ⟨by omega, fun _ => b rfl, fun _ => .inr (by omega), fun h => ?_⟩
      rw [b rfl] at h; cases h
    · have e : rstep v p = v := if_neg hc
      rw [e] at a b c d ⊢
      refine ⟨a, b, c, fun h => ⟨(d h).1, fun q hq => ?_⟩⟩
      rcases List.mem_cons.mp hq with rfl | hq
      · simpa using hc
      · exact (d h).2 q hq
theorem p_reached_eq {ps : List (Nat × Nat)} {x n : Nat} (hn : n ≤ 900) (hx : x < n) (hlt : ∀ p ∈ ps, p.1 < n ∧ p.2 < n) : ∃ F, p_reached ps x = some F ∧ F.Pairwise (· < ·) ∧ ∀ y, y ∈ F ↔ Jp ps x y := by
  let I : Nat → List Nat × Bool → Prop := fun m v => FdOk ps x n v.1 ∧ m = n - v.1.length + (if v.2 then 1 else 0) ∧ (v.2 = false → ∀ p ∈ ps, p.1 ∈ v.1 ↔ p.2 ∈ v.1)
  have bd : ∀ v : List Nat × Bool, FdOk ps x n v.1 → forP (fun (x_6 : (Nat × Nat)) (v_4 : (List Nat) × Bool) =>
      (if (decide ((decide (x_6.1 ∈ v_4.1)) ≠ (decide (x_6.2 ∈ v_4.1)))) = true then
        (appP v_4.1 (if (decide (x_6.1 ∈ v_4.1)) = true then x_6.2 else x_6.1)).bind fun found_8 =>
        some (found_8, true)
      else
        some (v_4.1, v_4.2))) ps v = some (ps.foldl rstep v) := fun v hv =>
    (forP_fold rstep (fun v => FdOk ps x n v.1) ps v hv fun p hp v hv => by
      refine ⟨?_, rstep_ok hv hp (hlt p hp)⟩
      have hl := nodup_len n hv.nd hv.lt
      unfold rstep
      rw [appP_eq (by omega)]
      simp only [decide_eq_true_eq, Option.bind_some]
      split <;> rfl).1
  obtain ⟨v, m, e, hv, hc⟩ := whP_meas (c := fun (v_1 : (List Nat) × Bool) => some v_1.2) (b := fun (v_1 : (List Nat) × Bool) =>
    (forP (fun (x_6 : (Nat × Nat)) (v_4 : (List Nat) × Bool) =>
      (if (decide ((decide (x_6.1 ∈ v_4.1)) ≠ (decide (x_6.2 ∈ v_4.1)))) = true then
        (appP v_4.1 (if (decide (x_6.1 ∈ v_4.1)) = true then x_6.2 else x_6.1)).bind fun found_8 =>
        some (found_8, true)
      else
        some (v_4.1, v_4.2))) ps (v_1.1, false)).bind fun (w_9 : (List Nat) × Bool) =>
    some (w_9.1, w_9.2)) I (fun m v hI => ⟨v.2, rfl, fun ht => by
      obtain ⟨h1, h2, h3⟩ := hI
      have h1' : FdOk ps x n ((v.1, false) : List Nat × Bool).1 := h1
      obtain ⟨a, b, c, d⟩ := rfold_len ps (v.1, false)
      have ok := rfold_ok (ps := ps) ps h1' fun p hp => ⟨hp, hlt p hp⟩
      refine ⟨ps.foldl rstep (v.1, false), _, by rw [bd _ h1']; rfl, ?_, ok, rfl, fun hf p hp => ?_⟩
      · rw [h2, ht]
        have l1 := nodup_len n ok.nd ok.lt
        have l2 := nodup_len n h1.nd h1.lt
        cases hb : (ps.foldl rstep (v.1, false)).2 with
        | true =>
          have := (c hb).resolve_left (by simp)
          simp only [if_true]
          have this : v.1.length < _ := this
          omega
        | false =>
          have := (d hb).1
          rw [this]
          simp
      · have q := d hf
        rw [q.1]
        exact q.2 p hp⟩) 1000 n (([x] : List Nat), true) (by omega) ⟨⟨by simp, by simp, by simp; omega, fun y hy => by simp at hy; subst hy; exact .refl⟩, by simp; omega, by simp⟩
  have hf : v.2 = false := by simpa using hc
  obtain ⟨h1, _, h3⟩ := hv
  refine ⟨isort v.1, ?_, isort_lt h1.nd, fun y => ?_⟩
  · unfold p_reached
    rw [e, Option.bind_some, sortP_nD (by have := nodup_len n h1.nd h1.lt; omega)]; rfl
  · rw [isort_mem]
    exact ⟨h1.jn y, jp_closed (F := (· ∈ v.1)) h1.f0 (h3 hf)⟩
/-- the ends of roads -/
def endsL (w : Web) (l : List Nat) : List (Nat × Nat) := l.filterMap fun i => w.rs[i]?.map fun r => (r.a, r.b)
theorem endsL_mem {w : Web} {l : List Nat} {p : Nat × Nat} : p ∈ endsL w l ↔ ∃ i ∈ l, ∃ r, w.rs[i]? = some r ∧ p = (r.a, r.b) := by
  unfold endsL
  rw [List.mem_filterMap]
  constructor
  · rintro ⟨i, hi, h⟩
    obtain ⟨r, h1, h2⟩ := map_some_iff h
    exact ⟨i, hi, r, h1, h2.symm⟩
  · rintro ⟨i, hi, r, h1, rfl⟩
    exact ⟨i, hi, by rw [h1]; rfl⟩
theorem jp_iff {w : Web} {l : List Nat} (W : RdsOk w) {x y : Nat} : Jp (endsL w l) x y ↔ Jn w l x y := by
  constructor
  · intro j
    induction j with
    | refl => exact .refl
    | fwd _ h ih =>
      obtain ⟨i, hi, r, hr, rfl⟩ := endsL_mem.mp h
      exact .step ih hi (nb_ends hr)
    | bwd _ h ih =>
      obtain ⟨i, hi, r, hr, rfl⟩ := endsL_mem.mp h
      exact .step ih hi (nb_symm W (nb_ends hr))
  · intro j
    induction j with
    | refl => exact .refl
    | step _ hi h ih =>
      obtain ⟨r, hr, _⟩ := bind_some_iff (show w.rs[_]?.bind _ = some _ from h)
      have hm : (r.a, r.b) ∈ endsL w l := endsL_mem.mpr ⟨_, hi, r, hr, rfl⟩
      rcases nb_cases hr h with ⟨rfl, rfl⟩ | ⟨rfl, rfl⟩
      · exact .fwd (p := (r.a, r.b)) ih hm
      · exact .bwd (p := (r.a, r.b)) ih hm
theorem endsL_lt {w : Web} {l : List Nat} (W : RdsOk w) : ∀ p ∈ endsL w l, p.1 < w.n ∧ p.2 < w.n := fun p hp => by
  obtain ⟨i, hi, r, hr, rfl⟩ := endsL_mem.mp hp
  have := W r (List.mem_of_getElem? hr)
  exact ⟨Nat.lt_trans this.1 this.2, this.2⟩
theorem endsL_map {w : Web} {l : List Nat} (hl : ∀ i ∈ l, i < w.rs.length) : ∃ f : Nat → Nat × Nat, endsL w l = l.map f ∧ ∀ i ∈ l, p_ends_of w i = some (f i) := by
  refine ⟨fun i => match w.rs[i]? with
    | some r => (r.a, r.b)
    | none => (0, 0), ?_, fun i hi => ?_⟩
  · unfold endsL
    induction l with
    | nil => rfl
    | cons i l ih =>
      obtain ⟨r, hr⟩ := get_lt (hl i (.head _))
      rw [List.filterMap_cons_some (b := (r.a, r.b)) (by rw [hr]; rfl), List.map_cons, ih fun j hj => hl j (.tail _ hj), hr]
  · obtain ⟨r, hr⟩ := get_lt (hl i hi)
    rw [p_ends_of_eq hr]
    simp only [hr]
/-- the side of a road by some roads -/
theorem p_first_side_eq {w : Web} {l : List Nat} {road : Nat} {r : Rd} (hn : w.n ≤ 6) (W : RdsOk w) (hr : w.rs[road]? = some r) (hll : l.length ≤ 1000) (hl : ∀ i ∈ l, i < w.rs.length) :
    ∃ o, p_first_side w road l = some o ∧ (o = none ↔ Jn w (oks l road) r.a r.b) ∧ ∀ s, o = some s → s.Pairwise (· < ·) ∧ ∀ y, y ∈ s ↔ Jn w (oks l road) r.a y := by
  have Wr := W r (List.mem_of_getElem? hr)
  have hlo : ∀ i ∈ oks l road, i < w.rs.length := fun i hi => hl i (oks_mem.mp hi).1
  obtain ⟨f, hf1, hf2⟩ := endsL_map hlo
  obtain ⟨F, e, hF, hm⟩ := p_reached_eq (ps := endsL w (oks l road)) (x := r.a) (n := w.n) (by omega) (by omega) (endsL_lt W)
  have el : lcP (fun (x_2 : Nat) => some (decide (x_2 ≠ road))) (fun (x_2 : Nat) => (p_ends_of w x_2).bind fun ends_of_3 => some (ends_of_3 : (Nat × Nat))) l = some (endsL w (oks l road)) := by
    rw [hf1]
    exact lcP_eq (fun x => decide (x ≠ road)) f (by omega) (fun _ _ => rfl) fun x hx hp => by rw [hf2 x (by rw [oks, List.mem_filter]; exact ⟨hx, hp⟩)]; rfl
  refine ⟨if r.b ∈ F then none else some F, ?_, ?_, fun s hs => ?_⟩
  · unfold p_first_side
    rw [p_ends_of_eq hr, Option.bind_some, el, Option.bind_some, e, Option.bind_some]
    simp
  · rw [← jp_iff W, ← hm]
    by_cases hb : r.b ∈ F
    · rw [if_pos hb]; exact ⟨fun _ => hb, fun _ => rfl⟩
    · rw [if_neg hb]; exact Iff.intro (fun h => nomatch h) (fun h => absurd h hb)
  · split at hs
    · cases hs
    · cases hs
      exact ⟨hF, fun y => by rw [hm, jp_iff W]⟩
end G

namespace G
open PySem PySem.Spec L2 Pv
theorem nd_sub_len : ∀ (U T : List Nat), U.Nodup → (∀ i ∈ U, i ∈ T) → U.length ≤ T.length
  | [], T, _, _ => Nat.zero_le _
  | x :: U, T, nd, h => by
    rw [List.nodup_cons] at nd
    have hx := h x (.head _)
    have := nd_sub_len U (T.erase x) nd.2 fun i hi => (List.mem_erase_of_ne (fun e => by subst e; exact nd.1 hi)).mpr (h i (.tail _ hi))
    rw [List.length_erase_of_mem hx] at this
    have := List.length_pos_of_mem hx
    simp; omega
theorem nd_perm {U T : List Nat} (u : U.Nodup) (t : T.Nodup) (h : ∀ i ∈ U, i ∈ T) (hl : T.length ≤ U.length) : U.Perm T := by
  refine (List.perm_ext_iff_of_nodup u t).mpr fun i => ⟨h i, fun hi => Classical.byContradiction fun hn => ?_⟩
  have := nd_sub_len (i :: U) T (List.nodup_cons.mpr ⟨hn, u⟩) fun j hj => by
    rcases List.mem_cons.mp hj with rfl | hj
    · exact hi
    · exact h j hj
  simp at this
  omega
/-- all houses are joined -/
def Jall (w : Web) (l : List Nat) : Prop := ∀ x, x < w.n → Jn w l 0 x
/-- without a road -/
def wo (l : List Nat) (c : Nat) : List Nat := l.filter fun i => decide (i ≠ c)
theorem wo_mem {l : List Nat} {c i : Nat} : i ∈ wo l c ↔ i ∈ l ∧ i ≠ c := by simp [wo]
theorem wo_len {l : List Nat} {c : Nat} (nd : l.Nodup) (h : c ∈ l) : (wo l c).length + 1 = l.length := by
  have p : (c :: wo l c).Perm l := (List.perm_ext_iff_of_nodup (List.nodup_cons.mpr ⟨fun h => (wo_mem.mp h).2 rfl, nd.filter _⟩) nd).mpr fun i => by
    rw [List.mem_cons, wo_mem]
    constructor
    · rintro (rfl | h')
      · exact h
      · exact h'.1
    · intro h'
      by_cases e : i = c
      · exact .inl e
      · exact .inr ⟨h', e⟩
  have := p.length_eq
  simpa using this
theorem wo_perm {l : List Nat} {c : Nat} (nd : l.Nodup) (h : c ∈ l) : (c :: wo l c).Perm l := (List.perm_ext_iff_of_nodup (List.nodup_cons.mpr ⟨fun h => (wo_mem.mp h).2 rfl, nd.filter _⟩) nd).mpr fun i => by
    rw [List.mem_cons, wo_mem]
    constructor
    · rintro (rfl | h')
      · exact h
      · exact h'.1
    · intro h'
      by_cases e : i = c
      · exact .inl e
      · exact .inr ⟨h', e⟩
section
variable {w : Web}
theorem nb_fun {i x y z u : Nat} (W : RdsOk w) (h : nb w i x = some y) (k : nb w i z = some u) : (z = x ∧ u = y) ∨ (z = y ∧ u = x) := by
  obtain ⟨r, hr, _⟩ := bind_some_iff (show w.rs[i]?.bind _ = some _ from h)
  rcases nb_cases hr h with ⟨rfl, rfl⟩ | ⟨rfl, rfl⟩ <;> rcases nb_cases hr k with ⟨rfl, rfl⟩ | ⟨rfl, rfl⟩ <;> simp
/-- a walk uses a road, or not -/
theorem jn_split (W : RdsOk w) {l : List Nat} {c p q : Nat} (j : Jn w l p q) : Jn w (wo l c) p q ∨ ∃ u v, c ∈ l ∧ nb w c u = some v ∧ Jn w (wo l c) p u ∧ Jn w (wo l c) v q := by
  induction j with
  | refl => exact .inl .refl
  | step _ hi hn ih =>
    rename_i y z i _
    by_cases e : i = c
    · subst e
      rcases ih with h | ⟨u, v, _, h1, h2, h3⟩
      · exact .inr ⟨y, z, hi, hn, h, .refl⟩
      · rcases nb_fun W h1 hn with ⟨rfl, rfl⟩ | ⟨rfl, rfl⟩
        · exact .inr ⟨_, _, hi, hn, h2, .refl⟩
        · exact .inl h2
    · have hw : i ∈ wo l c := wo_mem.mpr ⟨hi, e⟩
      rcases ih with h | ⟨u, v, h0, h1, h2, h3⟩
      · exact .inl (.step h hw hn)
      · exact .inr ⟨u, v, h0, h1, h2, .step h3 hw hn⟩
/-- each house is joined to some root: there are no more houses than roads and roots -/
theorem card_roots (W : RdsOk w) : ∀ (l S : List Nat), (∀ x, x < w.n → ∃ s ∈ S, Jn w l s x) → w.n ≤ l.length + S.length
  | [], S, h => by
    have : ∀ x ∈ List.range w.n, x ∈ S := fun x hx => by
      obtain ⟨s, hs, j⟩ := h x (List.mem_range.mp hx)
      have : x = s := by
        cases j with
        | refl => rfl
        | step _ hi _ => simp at hi
      exact this ▸ hs
    have key : ∀ (n : Nat) (S : List Nat), (∀ x, x < n → x ∈ S) → n ≤ S.length := by
      intro n
      induction n with
      | zero => intro S _; omega
      | succ n ih =>
        intro S hS
        have h1 := hS n (by omega)
        have := ih (S.erase n) fun x hx => (List.mem_erase_of_ne (by omega)).mpr (hS x (by omega))
        rw [List.length_erase_of_mem h1] at this
        have := List.length_pos_of_mem h1
        omega
    have := key w.n S fun x hx => this x (List.mem_range.mpr hx)
    simpa using this
  | i :: l, S, h => by
    have hw : ∀ j ∈ wo (i :: l) i, j ∈ l := fun j hj => by
      obtain ⟨a, b⟩ := wo_mem.mp hj
      rcases List.mem_cons.mp a with e | e
      · exact absurd e b
      · exact e
    by_cases hc : ∃ u v s, s ∈ S ∧ nb w i u = some v ∧ Jn w l s u
    · obtain ⟨u, v, s, hs, hn, hj⟩ := hc
      have := card_roots W l (v :: S) fun x hx => by
        obtain ⟨s', hs', j⟩ := h x hx
        rcases jn_split (c := i) W j with k | ⟨u', v', _, h1, h2, h3⟩
        · exact ⟨s', .tail _ hs', k.mono hw⟩
        · rcases nb_fun W hn h1 with ⟨rfl, rfl⟩ | ⟨rfl, rfl⟩
          · exact ⟨_, .head _, h3.mono hw⟩
          · exact ⟨s, .tail _ hs, hj.trans (h3.mono hw)⟩
      simp at this ⊢
      omega
    · have := card_roots W l S fun x hx => by
        obtain ⟨s', hs', j⟩ := h x hx
        rcases jn_split (c := i) W j with k | ⟨u', v', _, h1, h2, h3⟩
        · exact ⟨s', hs', k.mono hw⟩
        · exact absurd ⟨u', v', s', hs', h1, h2.mono hw⟩ hc
      simp at this ⊢
      omega
theorem jall_len (W : RdsOk w) {l : List Nat} (h : Jall w l) : w.n ≤ l.length + 1 := card_roots W l [0] fun x hx => ⟨0, by simp, h x hx⟩
/-- a tree of roads -/
structure Tr (w : Web) (T : List Nat) : Prop where
  nd : T.Nodup
  lt : ∀ i ∈ T, i < w.rs.length
  len : T.length + 1 = w.n
  ja : Jall w T
theorem Tr.all (W : RdsOk w) {T : List Nat} (t : Tr w T) {x y : Nat} (hx : x < w.n) (hy : y < w.n) : Jn w T x y := ((t.ja x hx).symm W).trans (t.ja y hy)
/-- without one of its roads a tree joins the ends no more -/
theorem Tr.cut (W : RdsOk w) {T : List Nat} (t : Tr w T) {c u v : Nat} (hc : c ∈ T) (hn : nb w c u = some v) : ¬ Jn w (wo T c) u v := fun j => by
  have : Jall w (wo T c) := fun x hx => by
    rcases jn_split (c := c) W (t.ja x hx) with k | ⟨u', v', _, h1, h2, h3⟩
    · exact k
    · rcases nb_fun W hn h1 with ⟨rfl, rfl⟩ | ⟨rfl, rfl⟩
      · exact (h2.trans j).trans h3
      · exact (h2.trans (j.symm W)).trans h3
  have h1 := jall_len W this
  have h2 := wo_len t.nd hc
  have h3 := t.len
  omega
theorem Tr.two (W : RdsOk w) {T : List Nat} (t : Tr w T) {c u v : Nat} (hc : c ∈ T) (hn : nb w c u = some v) {x : Nat} (hx : x < w.n) : Jn w (wo T c) u x ∨ Jn w (wo T c) v x := by
  have hu := nb_lt W (nb_symm W hn)
  rcases jn_split (c := c) W (t.all W hu hx) with k | ⟨u', v', _, h1, h2, h3⟩
  · exact .inl k
  · rcases nb_fun W hn h1 with ⟨rfl, rfl⟩ | ⟨rfl, rfl⟩
    · exact .inr h3
    · exact .inl h3
/-- an exchange of roads -/
theorem Tr.exch (W : RdsOk w) {T : List Nat} (t : Tr w T) {c e p q : Nat} (hc : c ∈ T) (he : nb w e p = some q) (hel : e < w.rs.length) (hj : ¬ Jn w (wo T c) p q) : Tr w (e :: wo T c) := by
  obtain ⟨r, hr⟩ := get_lt (t.lt c hc)
  have hn := nb_ends hr
  have hp := nb_lt W (nb_symm W he)
  have hq := nb_lt W he
  have up : ∀ {x y}, Jn w (wo T c) x y → Jn w (e :: wo T c) x y := fun j => j.mono fun i hi => .tail _ hi
  have hpq : Jn w (e :: wo T c) p q := .step .refl (.head _) he
  have uv : Jn w (e :: wo T c) r.a r.b := by
    rcases t.two W hc hn hp with a | a <;> rcases t.two W hc hn hq with b | b
    · exact absurd ((a.symm W).trans b) hj
    · exact ((up a).trans hpq).trans ((up b).symm W)
    · exact ((up b).trans (hpq.symm W)).trans ((up a).symm W)
    · exact absurd ((a.symm W).trans b) hj
  refine ⟨List.nodup_cons.mpr ⟨fun h => ?_, t.nd.filter _⟩, fun i hi => ?_, by rw [List.length_cons, wo_len t.nd hc]; exact t.len, fun x hx => ?_⟩
  · exact hj (.step .refl h he)
  · rcases List.mem_cons.mp hi with rfl | hi
    · exact hel
    · exact t.lt i (wo_mem.mp hi).1
  · have h0 : ∀ y, y < w.n → Jn w (e :: wo T c) r.a y := fun y hy => by
      rcases t.two W hc hn hy with a | a
      · exact up a
      · exact uv.trans (up a)
    exact ((h0 0 (by omega)).symm W).trans (h0 x hx)
/-- the other way about -/
theorem Tr.exch_iff (W : RdsOk w) {T : List Nat} (t : Tr w T) {c e p q : Nat} (hc : c ∈ T) (he : nb w e p = some q) (hel : e < w.rs.length) : Jall w (e :: wo T c) ↔ ¬ Jn w (wo T c) p q := by
  constructor
  · intro h j
    have : Jall w (wo T c) := fun x hx => by
      rcases jn_split (c := e) W (h x hx) with k | ⟨u', v', _, h1, h2, h3⟩
      · exact k.mono fun i hi => by
          obtain ⟨a, b⟩ := wo_mem.mp hi
          rcases List.mem_cons.mp a with z | z
          · exact absurd z b
          · exact z
      · have mo : ∀ i ∈ wo (e :: wo T c) e, i ∈ wo T c := fun i hi => by
          obtain ⟨a, b⟩ := wo_mem.mp hi
          rcases List.mem_cons.mp a with z | z
          · exact absurd z b
          · exact z
        rcases nb_fun W he h1 with ⟨rfl, rfl⟩ | ⟨rfl, rfl⟩
        · exact ((h2.mono mo).trans j).trans (h3.mono mo)
        · exact ((h2.mono mo).trans (j.symm W)).trans (h3.mono mo)
    have h1 := jall_len W this
    have h2 := wo_len t.nd hc
    have h3 := t.len
    omega
  · exact fun h => (t.exch W hc he hel h).ja
/-- roads that must be passed: one of them parts p and q -/
theorem jn_key (W : RdsOk w) {p q : Nat} : ∀ (X l : List Nat), Jn w l p q → ¬ Jn w (l.filter fun i => decide (i ∉ X)) p q → ∃ c ∈ X, c ∈ l ∧ ∃ u v, nb w c u = some v ∧ Jn w (wo l c) p u ∧ Jn w (wo l c) v q
  | [], l, j, h => absurd (j.mono fun i hi => by simpa using hi) h
  | c :: X, l, j, h => by
    by_cases k : Jn w (wo l c) p q
    · obtain ⟨d, hd, hdl, u, v, h1, h2, h3⟩ := jn_key W X (wo l c) k fun z => h (z.mono fun i hi => by
        rw [List.mem_filter, wo_mem] at hi
        rw [List.mem_filter]
        refine ⟨hi.1.1, ?_⟩
        have := hi.2
        simp at this ⊢
        exact ⟨hi.1.2, this⟩)
      have mo : ∀ i ∈ wo (wo l c) d, i ∈ wo l d := fun i hi => by
        rw [wo_mem, wo_mem] at hi
        exact wo_mem.mpr ⟨hi.1.1, hi.2⟩
      exact ⟨d, .tail _ hd, (wo_mem.mp hdl).1, u, v, h1, h2.mono mo, h3.mono mo⟩
    · rcases jn_split (c := c) W j with z | ⟨u, v, h0, h1, h2, h3⟩
      · exact absurd z k
      · exact ⟨c, .head _, h0, u, v, h1, h2, h3⟩
/-- a tree passes each cut between p and q, by a road that can be exchanged -/
theorem Tr.pass (W : RdsOk w) {T : List Nat} (t : Tr w T) {p q : Nat} (hp : p < w.n) (hq : q < w.n) (S : Nat → Bool) (h1 : S p = true) (h2 : S q = false) : ∃ c ∈ T, (∃ u v, nb w c u = some v ∧ S u ≠ S v) ∧ ¬ Jn w (wo T c) p q := by
  let X := T.filter fun i => match w.rs[i]? with
    | some r => S r.a != S r.b
    | none => false
  have hX : ∀ i r, w.rs[i]? = some r → (i ∈ X ↔ i ∈ T ∧ S r.a ≠ S r.b) := fun i r hr => by
    show i ∈ T.filter _ ↔ _
    rw [List.mem_filter, hr]
    simp
  have nj : ¬ Jn w (T.filter fun i => decide (i ∉ X)) p q := fun j => by
    have : S q = true := jn_closed (F := fun x => S x = true) h1 (fun y hy i hi z hz => by
      rw [List.mem_filter] at hi
      obtain ⟨r, hr⟩ := get_lt (t.lt i hi.1)
      have hnx : i ∉ X := by simpa using hi.2
      have : S r.a = S r.b := by
        refine Classical.byContradiction fun hne => hnx ((hX i r hr).mpr ⟨hi.1, hne⟩)
      rcases nb_cases hr hz with ⟨rfl, rfl⟩ | ⟨rfl, rfl⟩
      · rw [← this]; exact hy
      · rw [this]; exact hy) j
    rw [h2] at this
    cases this
  obtain ⟨c, hc, hcT, u, v, hn, j1, j2⟩ := jn_key W X T (t.all W hp hq) nj
  refine ⟨c, hcT, ⟨u, v, hn, ?_⟩, fun j => t.cut W hcT hn ((j1.symm W).trans (j.trans (j2.symm W)))⟩
  obtain ⟨r, hr⟩ := get_lt (t.lt c hcT)
  have := ((hX c r hr).mp hc).2
  rcases nb_cases hr hn with ⟨rfl, rfl⟩ | ⟨rfl, rfl⟩
  · exact this
  · exact fun e => this e.symm
/-- the total of a tree -/
def tot (f : Nat → Nat) (T : List Nat) : Nat := (T.map f).sum
theorem tot_perm {f : Nat → Nat} {T U : List Nat} (h : T.Perm U) : tot f T = tot f U := (h.map f).sum_nat
theorem tot_wo {f : Nat → Nat} {T : List Nat} {c : Nat} (nd : T.Nodup) (h : c ∈ T) : f c + tot f (wo T c) = tot f T := by
  rw [← tot_perm (f := f) (wo_perm nd h)]; simp [tot]
/-- no exchange makes it less: it is least -/
theorem Tr.least (W : RdsOk w) {f : Nat → Nat} {T : List Nat} (t : Tr w T) (h : ∀ c ∈ T, ∀ e p q, e < w.rs.length → e ∉ T → nb w e p = some q → ¬ Jn w (wo T c) p q → f c ≤ f e) : ∀ (k : Nat) (U : List Nat), Tr w U → (U.filter fun i => decide (i ∉ T)).length ≤ k → tot f T ≤ tot f U
  | k, U, u, hk => by
    cases hF : U.filter fun i => decide (i ∉ T) with
    | nil =>
      have sub : ∀ i ∈ U, i ∈ T := fun i hi => by
        have := List.filter_eq_nil_iff.mp hF i hi
        simpa using this
      have pm : U.Perm T := by
        have l1 := u.len
        have l2 := t.len
        exact nd_perm u.nd t.nd sub (by omega)
      exact Nat.le_of_eq (tot_perm pm).symm
    | cons e E =>
      have he : e ∈ U.filter fun i => decide (i ∉ T) := by rw [hF]; exact .head _
      rw [List.mem_filter] at he
      have heT : e ∉ T := by simpa using he.2
      obtain ⟨r, hr⟩ := get_lt (u.lt e he.1)
      have hn := nb_ends hr
      have lt := W r (List.mem_of_getElem? hr)
      have nj := u.cut W he.1 hn
      obtain ⟨S, hS⟩ : ∃ S : Nat → Bool, ∀ x, S x = true ↔ Jn w (wo U e) r.a x := by
        classical
        exact ⟨fun x => decide (Jn w (wo U e) r.a x), fun x => by simp⟩
      obtain ⟨c, hcT, ⟨x, y, hxy, hne⟩, hnj⟩ := t.pass W (p := r.a) (q := r.b) (by omega) (by omega) S ((hS _).mpr .refl) (by
        rw [Bool.eq_false_iff]; exact fun z => nj ((hS _).mp z))
      have hle : f c ≤ f e := h c hcT e r.a r.b (u.lt e he.1) heT hn hnj
      have hxn : ¬ Jn w (wo U e) x y := fun j => hne (by
        have : S x = true ↔ S y = true := by
          rw [hS, hS]
          exact ⟨fun a => a.trans j, fun a => a.trans (j.symm W)⟩
        exact Bool.eq_iff_iff.mpr this)
      have u' := u.exch W he.1 hxy (t.lt c hcT) hxn
      have hcU : c ∉ U := fun hc => by
        have : c ≠ e := fun z => heT (z ▸ hcT)
        exact hxn (.step .refl (wo_mem.mpr ⟨hc, this⟩) hxy)
      have hlen : ((c :: wo U e).filter fun i => decide (i ∉ T)).length + 1 = (U.filter fun i => decide (i ∉ T)).length := by
        rw [List.filter_cons_of_neg (by simpa using hcT)]
        have hf : (wo U e).filter (fun i => decide (i ∉ T)) = wo (U.filter fun i => decide (i ∉ T)) e := by
          unfold wo
          rw [List.filter_filter, List.filter_filter]
          exact List.filter_congr fun i _ => Bool.and_comm _ _
        rw [hf]
        exact wo_len (u.nd.filter _) (by rw [hF]; exact .head _)
      cases k with
      | zero => rw [hF] at hk; simp at hk
      | succ k =>
        have ih := Tr.least W t h k (c :: wo U e) u' (by omega)
        have h1 : tot f (c :: wo U e) = f c + tot f (wo U e) := by simp [tot]
        have h2 := tot_wo (f := f) u.nd he.1
        omega
theorem Tr.least' (W : RdsOk w) {f : Nat → Nat} {T U : List Nat} (t : Tr w T) (u : Tr w U) (h : ∀ c ∈ T, ∀ e p q, e < w.rs.length → e ∉ T → nb w e p = some q → ¬ Jn w (wo T c) p q → f c ≤ f e) : tot f T ≤ tot f U := t.least W h _ U u (Nat.le_refl _)
/-- a tree that is least -/
def Lst (w : Web) (f : Nat → Nat) (T : List Nat) : Prop := Tr w T ∧ ∀ U, Tr w U → tot f T ≤ tot f U
theorem exists_least {f : Nat → Nat} (h : ∃ T, Tr w T) : ∃ T, Lst w f T := by
  obtain ⟨T, t⟩ := h
  have key : ∀ (k : Nat) (T : List Nat), Tr w T → tot f T ≤ k → ∃ T, Lst w f T := by
    intro k
    induction k with
    | zero => intro T t hk; exact ⟨T, t, fun U _ => by omega⟩
    | succ k ih =>
      intro T t hk
      by_cases hx : ∃ U, Tr w U ∧ tot f U < tot f T
      · obtain ⟨U, u, hu⟩ := hx
        exact ih U u (by omega)
      · exact ⟨T, t, fun U u => Classical.byContradiction fun hn => hx ⟨U, u, by omega⟩⟩
  exact key _ T t (Nat.le_refl _)
/-- the shortest road out of a set may be taken -/
theorem Lst.add (W : RdsOk w) {f : Nat → Nat} {T Q : List Nat} (t : Lst w f T) (hQ : ∀ i ∈ Q, i ∈ T) (S : Nat → Bool) (hS : ∀ i ∈ Q, ∀ u v, nb w i u = some v → S u = S v) {e p q : Nat} (he : nb w e p = some q) (hel : e < w.rs.length) (h1 : S p = true) (h2 : S q = false) (hmin : ∀ i, i < w.rs.length → (∃ u v, nb w i u = some v ∧ S u ≠ S v) → f e ≤ f i) : ∃ T', Lst w f T' ∧ ∀ i ∈ e :: Q, i ∈ T' := by
  by_cases heT : e ∈ T
  · exact ⟨T, t, fun i hi => by
      rcases List.mem_cons.mp hi with rfl | hi
      · exact heT
      · exact hQ i hi⟩
  · obtain ⟨c, hcT, ⟨u, v, huv, hne⟩, hnj⟩ := t.1.pass W (nb_lt W (nb_symm W he)) (nb_lt W he) S h1 h2
    have t' := t.1.exch W hcT he hel hnj
    have hle := hmin c (t.1.lt c hcT) ⟨u, v, huv, hne⟩
    refine ⟨e :: wo T c, ⟨t', fun U hU => ?_⟩, fun i hi => ?_⟩
    · have a := t.2 U hU
      have b := tot_wo (f := f) t.1.nd hcT
      have d : tot f (e :: wo T c) = f e + tot f (wo T c) := by simp [tot]
      omega
    · rcases List.mem_cons.mp hi with rfl | hi
      · exact .head _
      · exact .tail _ (wo_mem.mpr ⟨hQ i hi, fun z => by subst z; exact hne (hS i hi u v huv)⟩)
end
end G

namespace G
open PySem PySem.Spec L2 Pv
theorem ltBy_pair (a b : Nat × Nat) : ltBy (p2 nD nD) a b = decide (a.1 < b.1 ∨ (a.1 = b.1 ∧ a.2 < b.2)) := by
  show PyProof.Rows.lexLt PyProof.Rows.itemOrd (PySem.W.keyToks (py (p2 nD nD a))) (PySem.W.keyToks (py (p2 nD nD b))) = _
  obtain ⟨a1, a2⟩ := a
  obtain ⟨b1, b2⟩ := b
  simp only [p2, nD, py, pyAll, PySem.W.keyToks, PySem.W.keyToksAll]
  simp [PyProof.Rows.lexLt, PyProof.Rows.itemLt, PyProof.Rows.itemOrd]
  by_cases h1 : a1 < b1
  · simp [h1]
  · by_cases h2 : a1 = b1
    · subst h2; simp
    · have : b1 < a1 := by omega
      simp [h1, h2, this]
theorem minBy_pair : ∀ (xs : List (Nat × Nat)) (x : Nat × Nat), minBy (p2 nD nD) x xs ∈ x :: xs ∧ ∀ y ∈ x :: xs, (minBy (p2 nD nD) x xs).1 ≤ y.1
  | [], x => ⟨.head _, fun y hy => by simp at hy; subst hy; exact Nat.le_refl _⟩
  | z :: xs, x => by
    have e : minBy (p2 nD nD) x (z :: xs) = minBy (p2 nD nD) (if ltBy (p2 nD nD) z x = true then z else x) xs := rfl
    obtain ⟨h1, h2⟩ := minBy_pair xs (if ltBy (p2 nD nD) z x = true then z else x)
    have h0 := h2 _ (.head _)
    rw [e]
    rw [ltBy_pair] at h0 h1 h2 ⊢
    by_cases hb : z.1 < x.1 ∨ (z.1 = x.1 ∧ z.2 < x.2)
    · rw [if_pos (by simpa using hb)] at h0 h1 h2 ⊢
      refine ⟨.tail _ h1, fun y hy => ?_⟩
      rcases List.mem_cons.mp hy with rfl | hy
      · omega
      · exact h2 y hy
    · rw [if_neg (by simpa using hb)] at h0 h1 h2 ⊢
      refine ⟨?_, fun y hy => ?_⟩
      · rcases List.mem_cons.mp h1 with h | h
        · rw [h]; exact .head _
        · exact .tail _ (.tail _ h)
      · rcases List.mem_cons.mp hy with rfl | hy
        · exact h0
        · rcases List.mem_cons.mp hy with rfl | hy
          · omega
          · exact h2 y (.tail _ hy)
theorem mmOk_pairs (xs : List (Nat × Nat)) : mmOk (xs.map (p2 nD nD)) = true := by
  unfold mmOk
  simp only [Bool.and_eq_true, List.all_eq_true, List.mem_map]
  refine ⟨⟨?_, ?_⟩, ?_⟩
  · rintro _ ⟨x, _, rfl⟩; rfl
  · rintro _ ⟨x, _, rfl⟩ _ ⟨y, _, rfl⟩; rfl
  · rintro _ ⟨x, _, rfl⟩; rfl
theorem minByP_pair {xs : List (Nat × Nat)} (h : xs ≠ []) : ∃ m, minByP (p2 nD nD) xs = some m ∧ m ∈ xs ∧ ∀ y ∈ xs, m.1 ≤ y.1 := by
  cases xs with
  | nil => exact absurd rfl h
  | cons x xs =>
    obtain ⟨h1, h2⟩ := minBy_pair xs x
    exact ⟨_, if_pos (mmOk_pairs _), h1, h2⟩
def loF (w : Web) (i : Nat) : Nat := ((w.rs[i]?).map Rd.lo).getD 0
def hiF (w : Web) (i : Nat) : Nat := ((w.rs[i]?).map Rd.hi).getD 0
theorem loF_eq {w : Web} {i : Nat} {r : Rd} (h : w.rs[i]? = some r) : loF w i = r.lo := by unfold loF; rw [h]; rfl
theorem hiF_eq {w : Web} {i : Nat} {r : Rd} (h : w.rs[i]? = some r) : hiF w i = r.hi := by unfold hiF; rw [h]; rfl
theorem p_low_F {w : Web} {i : Nat} (h : i < w.rs.length) : p_low_of w i = some (loF w i) := by
  obtain ⟨r, hr⟩ := get_lt h
  rw [p_low_of_eq hr, loF_eq hr]
theorem p_high_F {w : Web} {i : Nat} (h : i < w.rs.length) : p_high_of w i = some (hiF w i) := by
  obtain ⟨r, hr⟩ := get_lt h
  rw [p_high_of_eq hr, hiF_eq hr]
/-- lengths as a function -/
def lf (ls : List Nat) (i : Nat) : Nat := ls.getD i 0
theorem lf_rai {w : Web} {l : List Nat} {i : Nat} (h : i < w.rs.length) : lf (rai w l) i = if i ∈ l then hiF w i else loF w i := by
  obtain ⟨r, hr⟩ := get_lt h
  unfold lf
  rw [List.getD_eq_getElem?_getD, rai_get hr, hiF_eq hr, loF_eq hr]; rfl
theorem lf_get {ls : List Nat} {i : Nat} (h : i < ls.length) : ls[i]? = some (lf ls i) := by
  unfold lf
  rw [List.getD_eq_getElem?_getD, List.getElem?_eq_getElem h]; rfl
section
variable {α β σ R : Type}
theorem forP_flat {b : α → List β → Option (List β)} {g : α → List β} (N c : Nat) : ∀ (xs : List α) (v : List β), v.length + xs.length * c ≤ N → (∀ x ∈ xs, (g x).length ≤ c) → (∀ x ∈ xs, ∀ v : List β, v.length ≤ N → b x v = some (v ++ g x)) → forP b xs v = some (v ++ xs.flatMap g)
  | [], v, _, _, _ => by simp [forP]
  | x :: xs, v, hl, hc, hs => by
    show (b x v).bind _ = _
    have h1 := hc x (.head _)
    rw [List.length_cons, Nat.add_mul, Nat.one_mul] at hl
    rw [hs x (.head _) v (by omega), Option.bind_some, forP_flat N c xs (v ++ g x) (by rw [List.length_append]; omega) (fun y hy => hc y (.tail _ hy)) fun y hy => hs y (.tail _ hy)]
    simp
theorem forC_find {b : α → Unit → Option (Ctl Unit R)} (p : α → Bool) (f : α → R) : ∀ (xs : List α), (∀ x ∈ xs, b x () = some (if p x = true then .rt (f x) else .nx ())) → forC b xs () = some (match xs.find? p with
    | some x => .inl (f x)
    | none => .inr ())
  | [], _ => rfl
  | x :: xs, hs => by
    show (b x ()).bind _ = _
    rw [hs x (.head _), Option.bind_some]
    cases hp : p x with
    | true => rw [List.find?_cons_of_pos hp, if_pos rfl]
    | false =>
      rw [List.find?_cons_of_neg (by simp [hp]), if_neg (by simp)]
      exact forC_find p f xs fun y hy => hs y (.tail _ hy)
end
theorem p_do_join_eq {w : Web} {l : List Nat} (W : RdsOk w) (hn : w.n ≤ 6) (h1 : 1 ≤ w.n) (hll : l.length ≤ 1000) (hl : ∀ i ∈ l, i < w.rs.length) : ∃ b, p_do_join w l = some b ∧ (b = true ↔ Jall w l) := by
  obtain ⟨f, hf1, hf2⟩ := endsL_map hl
  obtain ⟨F, e, hF, hm⟩ := p_reached_eq (ps := endsL w l) (x := 0) (n := w.n) (by omega) (by omega) (endsL_lt W)
  have nd : F.Nodup := hF.imp fun h => Nat.ne_of_lt h
  have lt : ∀ x ∈ F, x < w.n := fun x hx => ((jp_iff W).mp ((hm x).mp hx)).lt W (by omega)
  have el : lcP (fun (_ : Nat) => some true) (fun (x_1 : Nat) => (p_ends_of w x_1).bind fun ends_of_2 => some (ends_of_2 : (Nat × Nat))) l = some (endsL w l) := by
    rw [hf1]
    exact lcP_map f (by omega) fun x hx => by rw [hf2 x hx]; rfl
  refine ⟨decide (F.length = w.n), ?_, ?_⟩
  · unfold p_do_join
    rw [el, Option.bind_some, e, Option.bind_some]
  · rw [decide_eq_true_eq]
    constructor
    · intro hl x hx
      have : F.Perm (List.range w.n) := nd_perm nd List.nodup_range (fun i hi => List.mem_range.mpr (lt i hi)) (by rw [List.length_range]; omega)
      exact (jp_iff W).mp ((hm x).mp (this.mem_iff.mpr (List.mem_range.mpr hx)))
    · intro h
      have h2 := nodup_len _ nd lt
      have h3 := nd_sub_len (List.range w.n) F List.nodup_range fun i hi => (hm i).mpr ((jp_iff W).mpr (h i (List.mem_range.mp hi)))
      rw [List.length_range] at h3
      omega
end G

namespace G
open PySem PySem.Spec L2 Pv
theorem lMinN_mem : ∀ {xs : List Nat}, xs ≠ [] → lMinN xs ∈ xs
  | [x], _ => by simp [lMinN]
  | x :: y :: xs, _ => by
    have ih := lMinN_mem (xs := y :: xs) (by simp)
    show min x (lMinN (y :: xs)) ∈ _
    by_cases h : x ≤ lMinN (y :: xs)
    · rw [Nat.min_eq_left h]; exact .head _
    · rw [Nat.min_eq_right (by omega)]; exact .tail _ ih
theorem lMinN_le : ∀ {xs : List Nat} {x : Nat}, x ∈ xs → lMinN xs ≤ x
  | [y], x, h => by rw [List.mem_singleton] at h; subst h; simp [lMinN]
  | y :: z :: xs, x, h => by
    show min y (lMinN (z :: xs)) ≤ x
    rcases List.mem_cons.mp h with rfl | h
    · exact Nat.min_le_left _ _
    · exact Nat.le_trans (Nat.min_le_right _ _) (lMinN_le h)
theorem lMaxN_le : ∀ {xs : List Nat} {c : Nat}, xs ≠ [] → (∀ x ∈ xs, x ≤ c) → lMaxN xs ≤ c
  | [x], c, _, h => h x (.head _)
  | x :: y :: xs, c, _, h => by
    show max x (lMaxN (y :: xs)) ≤ c
    have a := h x (.head _)
    have b := lMaxN_le (xs := y :: xs) (c := c) (by simp) fun z hz => h z (.tail _ hz)
    omega
theorem minNP_eq {xs : List Nat} (h : xs ≠ []) : minNP xs = some (lMinN xs) := by
  unfold minNP
  rw [if_neg (by simpa using h)]
theorem maxNP_eq {xs : List Nat} (h : xs ≠ []) : maxNP xs = some (lMaxN xs) := by
  unfold maxNP
  rw [if_neg (by simpa using h)]
end G

namespace G
open PySem PySem.Spec L2 Pv
structure NmOk (k : Nat) (nm : List Nat) : Prop where
  len : nm.length = k
  nd : nm.Nodup
  lt : ∀ x ∈ nm, x < k
theorem NmOk.ins {k : Nat} {nm : List Nat} (N : NmOk k nm) (i : Nat) : NmOk (k + 1) (nm.take i ++ [k] ++ nm.drop i) := by
  have pm : (nm.take i ++ [k] ++ nm.drop i).Perm (k :: nm) := by
    have : (nm.take i ++ [k] ++ nm.drop i).Perm (k :: (nm.take i ++ nm.drop i)) := by
      rw [List.append_assoc]
      exact List.perm_middle
    rwa [List.take_append_drop] at this
  refine ⟨by rw [pm.length_eq, List.length_cons, N.len], pm.nodup_iff.mpr (List.nodup_cons.mpr ⟨fun h => Nat.lt_irrefl _ (N.lt _ h), N.nd⟩), fun x hx => ?_⟩
  rcases List.mem_cons.mp (pm.mem_iff.mp hx) with rfl | h
  · omega
  · have := N.lt x h; omega
theorem rng1_get {i n x : Nat} : (List.range' 1 n)[i]? = some x ↔ i < n ∧ x = i + 1 := by
  rw [List.getElem?_eq_some_iff]
  constructor
  · rintro ⟨h, e⟩
    rw [List.length_range'] at h
    rw [List.getElem_range'] at e
    omega
  · rintro ⟨h, rfl⟩
    exact ⟨by rw [List.length_range']; exact h, by rw [List.getElem_range']; omega⟩
theorem nm_get {nm : List Nat} {i : Nat} (h : i < nm.length) : nm[i]? = some (nm.getD i 0) := by
  rw [List.getD_eq_getElem?_getD, List.getElem?_eq_getElem h]; rfl
theorem ins_perm {α : Type} (xs : List α) (i : Nat) (x : α) : (xs.take i ++ [x] ++ xs.drop i).Perm (x :: xs) := by
  have : (xs.take i ++ [x] ++ xs.drop i).Perm (x :: (xs.take i ++ xs.drop i)) := by
    rw [List.append_assoc]
    exact List.perm_middle
  rwa [List.take_append_drop] at this
/-- the drawn roads, the houses not yet named -/
structure RsOk (size : Nat) (rs : List Rd) : Prop where
  lt : ∀ r ∈ rs, r.a < r.b ∧ r.b < size
  lh : ∀ r ∈ rs, r.lo ≤ r.hi ∧ r.hi ≤ 99
theorem RsOk.ins {size : Nat} {rs : List Rd} (P : RsOk size rs) (i : Nat) {r : Rd} (h1 : r.a < r.b) (h2 : r.b < size) (h3 : r.lo ≤ r.hi) (h4 : r.hi ≤ 99) : RsOk size (rs.take i ++ [r] ++ rs.drop i) :=
  ⟨fun q hq => by
    rcases List.mem_cons.mp ((ins_perm rs i r).mem_iff.mp hq) with rfl | hq
    · exact ⟨h1, h2⟩
    · exact P.lt q hq, fun q hq => by
    rcases List.mem_cons.mp ((ins_perm rs i r).mem_iff.mp hq) with rfl | hq
    · exact ⟨h3, h4⟩
    · exact P.lh q hq⟩
def rnR (nm : List Nat) (r : Rd) : Rd := ⟨min (nm.getD r.a 0) (nm.getD r.b 0), max (nm.getD r.a 0) (nm.getD r.b 0), r.lo, r.hi⟩
theorem web_of {size houses most : Nat} {rs : List Rd} {nm : List Nat} (hs1 : 1 ≤ size) (hs2 : size ≤ houses) (hl : rs.length ≤ most) (P : RsOk size rs) (N : NmOk size nm) (cn : ∀ k, 1 ≤ k → k < size → ∃ r ∈ rs, r.b = k) : WebOk ⟨size, rs.map (rnR nm)⟩ houses most := by
  have hlen := N.len
  have g : ∀ x, x < size → nm[x]? = some (nm.getD x 0) := fun x hx => nm_get (by omega)
  have ne_ : ∀ r ∈ rs, nm.getD r.a 0 ≠ nm.getD r.b 0 ∧ nm.getD r.a 0 < size ∧ nm.getD r.b 0 < size := fun r hr => by
    obtain ⟨q1, q2⟩ := P.lt r hr
    have g1 := g r.a (by omega)
    have g2 := g r.b q2
    refine ⟨fun e => ?_, N.lt _ (List.mem_of_getElem? g1), N.lt _ (List.mem_of_getElem? g2)⟩
    rw [← e] at g2
    have : r.a = r.b := (List.getElem_inj N.nd).mp ((List.getElem?_eq_some_iff.mp g1).2.trans (List.getElem?_eq_some_iff.mp g2).2.symm)
    omega
  refine ⟨hs1, hs2, by rw [List.length_map]; exact hl, fun r hr => ?_, fun r hr => ?_, nm, N.len, N.nd, N.lt, fun x x1 x2 => ?_⟩
  · obtain ⟨r, hr', rfl⟩ := List.mem_map.mp (show r ∈ rs.map (rnR nm) from hr)
    obtain ⟨q1, q2, q3⟩ := ne_ r hr'
    show min _ _ < max _ _ ∧ max _ _ < size
    omega
  · obtain ⟨r, hr', rfl⟩ := List.mem_map.mp (show r ∈ rs.map (rnR nm) from hr)
    exact P.lh r hr'
  · obtain ⟨r, hr, e⟩ := cn x x1 x2
    have ha := (P.lt r hr).1
    have hx2 : x < size := x2
    refine ⟨r.a, rnR nm r, by omega, List.mem_map_of_mem hr, ?_⟩
    rw [g r.a (by omega), g x hx2]
    show (some _ = some (min (nm.getD r.a 0) (nm.getD r.b 0)) ∧ some _ = some (max (nm.getD r.a 0) (nm.getD r.b 0))) ∨ (some _ = some (max (nm.getD r.a 0) (nm.getD r.b 0)) ∧ some _ = some (min (nm.getD r.a 0) (nm.getD r.b 0)))
    rw [e]
    by_cases hle : nm.getD r.a 0 ≤ nm.getD x 0
    · left; rw [Nat.min_eq_left hle, Nat.max_eq_right hle]; exact ⟨rfl, rfl⟩
    · right; rw [Nat.min_eq_right (by omega), Nat.max_eq_left (by omega)]; exact ⟨rfl, rfl⟩
end G

namespace G
open PySem PySem.Spec L2 Pv
/-- roads that close no ring -/
inductive Fo (w : Web) : List Nat → Prop
  | nil : Fo w []
  | snoc {l : List Nat} {i : Nat} {r : Rd} : Fo w l → w.rs[i]? = some r → ¬ Jn w l r.a r.b → Fo w (l ++ [i])
theorem Fo.lt {w : Web} {l : List Nat} (h : Fo w l) : ∀ i ∈ l, i < w.rs.length := by
  induction h with
  | nil => intro i hi; simp at hi
  | snoc _ hr _ ih =>
    intro j hj
    rcases List.mem_append.mp hj with hj | hj
    · exact ih j hj
    · simp at hj; subst hj; exact (List.getElem?_eq_some_iff.mp hr).1
theorem Fo.nd {w : Web} {l : List Nat} (h : Fo w l) : l.Nodup := by
  induction h with
  | nil => exact List.nodup_nil
  | snoc _ hr hj ih => exact List.nodup_append.mpr ⟨ih, by simp, fun a ha b hb e => by simp at hb; subst hb; subst e; exact hj (.step .refl ha (nb_ends hr))⟩
theorem Fo.roots {w : Web} (W : RdsOk w) {l : List Nat} (h : Fo w l) : ∃ S : List Nat, S.length + l.length = w.n ∧ ∀ x, x < w.n → ∃ s ∈ S, Jn w l s x := by
  induction h with
  | nil => exact ⟨List.range w.n, by simp, fun x hx => ⟨x, List.mem_range.mpr hx, .refl⟩⟩
  | @snoc l i r _ hr hj ih =>
    obtain ⟨S, hS, hc⟩ := ih
    have lt := W r (List.mem_of_getElem? hr)
    have up : ∀ {x y}, Jn w l x y → Jn w (l ++ [i]) x y := fun j => j.mono fun i hi => List.mem_append_left _ hi
    obtain ⟨s1, h1, j1⟩ := hc r.a (by omega)
    obtain ⟨s2, h2, j2⟩ := hc r.b lt.2
    have hne : s1 ≠ s2 := fun e => hj ((j1.symm W).trans (e ▸ j2))
    refine ⟨S.erase s2, by
      rw [List.length_erase_of_mem h2, List.length_append]
      have := List.length_pos_of_mem h2
      simp; omega, fun x hx => ?_⟩
    obtain ⟨s, hs, j⟩ := hc x hx
    by_cases e : s = s2
    · subst e
      refine ⟨s1, (List.mem_erase_of_ne hne).mpr h1, ?_⟩
      exact ((up j1).trans (.step .refl (by simp) (nb_ends hr))).trans ((up (j2.symm W)).trans (up j))
    · exact ⟨s, (List.mem_erase_of_ne e).mpr hs, up j⟩
theorem Fo.len {w : Web} (W : RdsOk w) (h1 : 1 ≤ w.n) {l : List Nat} (h : Fo w l) : l.length + 1 ≤ w.n := by
  obtain ⟨S, hS, hc⟩ := h.roots W
  obtain ⟨s, hs, _⟩ := hc 0 (by omega)
  have := List.length_pos_of_mem hs
  omega
theorem Fo.tr {w : Web} (W : RdsOk w) (h1 : 1 ≤ w.n) {l : List Nat} (h : Fo w l) (hl : l.length + 1 = w.n) : Tr w l := by
  obtain ⟨S, hS, hc⟩ := h.roots W
  refine ⟨h.nd, h.lt, hl, fun x hx => ?_⟩
  obtain ⟨s, hs, j⟩ := hc x hx
  obtain ⟨s', hs', j'⟩ := hc 0 (by omega)
  have : s = s' := by
    match S, (show S.length = 1 by omega) with
    | [a], _ => simp at hs hs'; rw [hs, hs']
  subst this
  exact (j'.symm W).trans j
/-- all houses of a drawn web are joined -/
theorem web_all {w : Web} {h m : Nat} (W : WebOk w h m) : Jall w (List.range w.rs.length) := by
  obtain ⟨nm, l1, nd, lt, hc⟩ := W.cn
  have n1 := W.n1
  have get : ∀ k, k < w.n → ∃ x, nm[k]? = some x := fun k hk => get_lt (by omega)
  obtain ⟨z, hz⟩ := get 0 n1
  have key : ∀ k, k < w.n → ∀ x, nm[k]? = some x → Jn w (List.range w.rs.length) z x := by
    intro k
    induction k using Nat.strongRecOn with
    | ind k ih =>
      intro hk x hx
      by_cases h0 : k = 0
      · subst h0; rw [hz] at hx; cases hx; exact .refl
      · obtain ⟨a, r, ha, hr, he⟩ := hc k (by omega) hk
        obtain ⟨i, hi⟩ := List.getElem?_of_mem hr
        have hil : i ∈ List.range w.rs.length := List.mem_range.mpr (List.getElem?_eq_some_iff.mp hi).1
        rcases he with ⟨e1, e2⟩ | ⟨e1, e2⟩
        · rw [hx] at e2; cases e2
          exact .step (ih a ha (by omega) _ e1) hil (nb_ends hi)
        · rw [hx] at e2; cases e2
          exact .step (ih a ha (by omega) _ e1) hil (nb_symm W.ab (nb_ends hi))
  have pm : nm.Perm (List.range w.n) := nd_perm nd List.nodup_range (fun i hi => List.mem_range.mpr (lt i hi)) (by rw [List.length_range]; omega)
  have at_ : ∀ x, x < w.n → Jn w (List.range w.rs.length) z x := fun x hx => by
    obtain ⟨k, hk⟩ := List.getElem?_of_mem (pm.mem_iff.mpr (List.mem_range.mpr hx))
    exact key k (by have := (List.getElem?_eq_some_iff.mp hk).1; omega) x hk
  exact fun x hx => ((at_ 0 n1).symm W.ab).trans (at_ x hx)
/-- a drawn web has a tree -/
theorem web_tree {w : Web} {h m : Nat} (Wo : WebOk w h m) : ∃ T, Tr w T := by
  have W : RdsOk w := Wo.ab
  have h1 := Wo.n1
  have key : ∀ k, k ≤ w.rs.length → ∃ B, Fo w B ∧ ∀ i, i < k → ∀ r, w.rs[i]? = some r → Jn w B r.a r.b := by
    intro k
    induction k with
    | zero => intro _; exact ⟨[], .nil, fun i hi => by omega⟩
    | succ k ih =>
      intro hk
      obtain ⟨B, fB, hB⟩ := ih (by omega)
      obtain ⟨r, hr⟩ := get_lt (show k < w.rs.length by omega)
      by_cases hj : Jn w B r.a r.b
      · refine ⟨B, fB, fun i hi r' hr' => ?_⟩
        by_cases e : i = k
        · subst e; rw [hr] at hr'; cases hr'; exact hj
        · exact hB i (by omega) r' hr'
      · refine ⟨B ++ [k], .snoc fB hr hj, fun i hi r' hr' => ?_⟩
        by_cases e : i = k
        · subst e; rw [hr] at hr'; cases hr'
          exact .step .refl (by simp) (nb_ends hr)
        · exact (hB i (by omega) r' hr').mono fun j hj => List.mem_append_left _ hj
  obtain ⟨B, fB, hB2⟩ := key _ (Nat.le_refl _)
  have Ball : Jall w B := fun x hx => by
    have := web_all Wo x hx
    induction this with
    | refl => exact .refl
    | step _ hi hn' ih =>
      have hi := List.mem_range.mp hi
      obtain ⟨r, hr⟩ := get_lt hi
      have hb := hB2 _ hi r hr
      rcases nb_cases hr hn' with ⟨rfl, rfl⟩ | ⟨rfl, rfl⟩
      · exact (ih (nb_lt W (nb_symm W hn'))).trans hb
      · exact (ih (nb_lt W (nb_symm W hn'))).trans (hb.symm W)
  have lB : B.length + 1 = w.n := by
    have := fB.len W h1
    have := jall_len W Ball
    omega
  exact ⟨B, fB.tr W h1 lB⟩
end G

namespace G
open PySem PySem.Spec L2 Pv
/-- taken in an order unless they close a ring -/
structure Gd (w : Web) (o G : List Nat) : Prop where
  fo : Fo w G
  sub : ∀ i ∈ G, i ∈ o
  cl : ∀ (j r : Nat), o[j]? = some r → r ∉ G → ∃ R, w.rs[r]? = some R ∧ Jn w (G.filter fun i => decide (i ∈ o.take j)) R.a R.b
theorem take_succ_get {α : Type} {o : List α} {k : Nat} {r : α} (h : o[k]? = some r) : o.take (k + 1) = o.take k ++ [r] := by
  rw [List.take_add_one, h]; rfl
theorem jn_snoc {w : Web} (W : RdsOk w) {l : List Nat} {i : Nat} {r : Rd} (hr : w.rs[i]? = some r) (hi : i ∉ l) {x y : Nat} : Jn w (l ++ [i]) x y ↔ Jn w l x y ∨ (Jn w l x r.a ∧ Jn w l r.b y) ∨ (Jn w l x r.b ∧ Jn w l r.a y) := by
  have up : ∀ {x y}, Jn w l x y → Jn w (l ++ [i]) x y := fun j => j.mono fun i hi => List.mem_append_left _ hi
  have e : wo (l ++ [i]) i = l := by
    unfold wo
    rw [List.filter_append, List.filter_eq_self.mpr fun z hz => by simp; exact fun e => hi (e ▸ hz)]
    simp
  have st : Jn w (l ++ [i]) r.a r.b := .step .refl (by simp) (nb_ends hr)
  constructor
  · intro j
    rcases jn_split (c := i) W j with k | ⟨u, v, _, h1, h2, h3⟩
    · rw [e] at k; exact .inl k
    · rw [e] at h2 h3
      rcases nb_cases hr h1 with ⟨rfl, rfl⟩ | ⟨rfl, rfl⟩
      · exact .inr (.inl ⟨h2, h3⟩)
      · exact .inr (.inr ⟨h2, h3⟩)
  · rintro (j | ⟨j1, j2⟩ | ⟨j1, j2⟩)
    · exact up j
    · exact (up j1).trans (st.trans (up j2))
    · exact (up j1).trans ((st.symm W).trans (up j2))
theorem p_greedy_ok {w : Web} {o : List Nat} (W : RdsOk w) (h1 : 1 ≤ w.n) (hn : w.n ≤ 1000) (ho : ∀ i ∈ o, i < w.rs.length) : ∃ G, p_greedy w o = some (isort G) ∧ Gd w o G := by
  have key : Ok (p_greedy w o) fun r => ∃ G, r = isort G ∧ Gd w o G := by
    unfold p_greedy
    refine Ok.bindE (rngP_eq (by omega)) ?_
    refine Ok.bind (P := fun v : List Nat × List Nat => Gd w o v.2 ∧ v.2.length ≤ 1000) ?_ fun v hv => ?_
    · refine Ok.for (fun k v => v.1.length = w.n ∧ (∀ x y, x < w.n → y < w.n → (v.1[x]? = v.1[y]? ↔ Jn w v.2 x y)) ∧ Fo w v.2 ∧ (∀ i ∈ v.2, i ∈ o.take k) ∧ ∀ j r, j < k → o[j]? = some r → r ∉ v.2 → ∃ R, w.rs[r]? = some R ∧ Jn w (v.2.filter fun i => decide (i ∈ o.take j)) R.a R.b) ⟨by simp, fun x y hx hy => ?_, .nil, fun i hi => by simp at hi, fun j r hj => by omega⟩ (fun k r v hr hv => ?_) fun v hv => ?_
      · rw [List.getElem?_eq_getElem (by simpa using hx), List.getElem?_eq_getElem (by simpa using hy)]
        simp only [List.getElem_range, Option.some.injEq]
        constructor
        · rintro rfl; exact .refl
        · intro j
          exact jn_closed (F := fun z => x = z) rfl (fun y _ i hi => by simp at hi) j
      · obtain ⟨v1, v2⟩ := v
        obtain ⟨hl, hlab, fo, sub, cl⟩ := hv
        have hl : v1.length = w.n := hl
        have fo : Fo w v2 := fo
        have sub : ∀ i ∈ v2, i ∈ o.take k := sub
        obtain ⟨R, hR⟩ := get_lt (ho r (List.mem_of_getElem? hr))
        have lt := W R (List.mem_of_getElem? hR)
        have flen := fo.len W h1
        refine Ok.bindE (p_ends_of_eq hR) ?_
        refine Ok.bindE (List.getElem?_eq_getElem (by show R.a < v1.length; omega)) ?_
        refine Ok.bindE (List.getElem?_eq_getElem (by show R.b < v1.length; omega)) ?_
        have hj := hlab R.a R.b (by omega) lt.2
        rw [List.getElem?_eq_getElem (by show R.a < v1.length; omega), List.getElem?_eq_getElem (by show R.b < v1.length; omega), Option.some.injEq] at hj
        refine Ok.ite (fun hb => ?_) fun hb => Ok.ret ?_
        · have hne : ¬ Jn w v2 R.a R.b := fun j => (of_decide_eq_true hb) (hj.mpr j)
          have hrn : r ∉ v2 := fun h => hne (.step .refl h (nb_ends hR))
          refine Ok.bindE (lcT_map (by show v1.length ≤ _; omega)) ?_
          refine Ok.bindE (appP_eq (by show v2.length < _; omega)) (Ok.ret ⟨by simpa using hl, fun x y hx hy => ?_, .snoc fo hR hne, fun i hi => ?_, fun j q hjk hq hqn => ?_⟩)
          · have ex := List.getElem?_eq_getElem (l := v1) (i := x) (by omega)
            have ey := List.getElem?_eq_getElem (l := v1) (i := y) (by omega)
            have qx := hlab x R.a hx (by omega)
            have qy := hlab y R.a hy (by omega)
            have px := hlab x R.b hx lt.2
            have py := hlab y R.b hy lt.2
            have xy := hlab x y hx hy
            have ea := List.getElem?_eq_getElem (l := v1) (i := R.a) (by omega)
            have eb := List.getElem?_eq_getElem (l := v1) (i := R.b) (by omega)
            rw [ex, ea, Option.some.injEq] at qx
            rw [ey, ea, Option.some.injEq] at qy
            rw [ex, eb, Option.some.injEq] at px
            rw [ey, eb, Option.some.injEq] at py
            rw [ex, ey, Option.some.injEq] at xy
            rw [List.getElem?_map, List.getElem?_map, ex, ey, jn_snoc W hR hrn]
            simp only [Option.map_some, Option.some.injEq, decide_eq_true_eq]
            constructor
            · intro h
              by_cases c1 : v1[x] = v1[R.b] <;> by_cases c2 : v1[y] = v1[R.b]
              · exact .inl (xy.mp (c1.trans c2.symm))
              · rw [if_pos c1, if_neg c2] at h
                exact .inr (.inr ⟨px.mp c1, (qy.mp h.symm).symm W⟩)
              · rw [if_neg c1, if_pos c2] at h
                exact .inr (.inl ⟨qx.mp h, (py.mp c2).symm W⟩)
              · rw [if_neg c1, if_neg c2] at h
                exact .inl (xy.mp h)
            · rintro (j | ⟨j1, j2⟩ | ⟨j1, j2⟩)
              · rw [xy.mpr j]
              · have c1 : v1[x] = v1[R.a] := qx.mpr j1
                have c2 : v1[y] = v1[R.b] := py.mpr (j2.symm W)
                have c3 : ¬ v1[x] = v1[R.b] := fun z => hne (((qx.mp c1).symm W).trans (px.mp z))
                rw [if_neg c3, if_pos c2, c1]
              · have c1 : v1[x] = v1[R.b] := px.mpr j1
                have c2 : v1[y] = v1[R.a] := qy.mpr (j2.symm W)
                have c3 : ¬ v1[y] = v1[R.b] := fun z => hne (((qy.mp c2).symm W).trans (py.mp z))
                rw [if_pos c1, if_neg c3, c2]
          · rw [take_succ_get hr]
            rcases List.mem_append.mp hi with hi | hi
            · exact List.mem_append_left _ (sub i hi)
            · exact List.mem_append_right _ hi
          · have hqn : q ∉ v2 ++ [r] := hqn
            have hjk2 : j < k := by
              rcases Nat.lt_or_ge j k with z | z
              · exact z
              · have : j = k := by omega
                subst this
                rw [hr] at hq
                cases hq
                exact absurd (by simp) hqn
            obtain ⟨R', z1, z2⟩ := cl j q hjk2 hq fun h => hqn (List.mem_append_left _ h)
            exact ⟨R', z1, z2.mono fun i hi => by
              rw [List.mem_filter] at hi ⊢
              exact ⟨List.mem_append_left _ hi.1, hi.2⟩⟩
        · have hyes : Jn w v2 R.a R.b := hj.mp (by simpa using hb)
          refine ⟨hl, hlab, fo, fun i hi => ?_, fun j q hjk hq hqn => ?_⟩
          · rw [take_succ_get hr]
            exact List.mem_append_left _ (sub i hi)
          · rcases Nat.lt_or_ge j k with z | z
            · exact cl j q z hq hqn
            · have : j = k := by omega
              subst this
              rw [hr] at hq
              cases hq
              refine ⟨R, hR, hyes.mono fun i hi => ?_⟩
              rw [List.mem_filter]
              exact ⟨hi, decide_eq_true (sub i hi)⟩
      · obtain ⟨_, _, fo, sub, cl⟩ := hv
        have := fo.len W h1
        refine ⟨⟨fo, fun i hi => List.mem_of_mem_take (sub i hi), fun j r hj hn => cl j r (List.getElem?_eq_some_iff.mp hj).1 hj hn⟩, by omega⟩
    · exact Ok.bindE (sortP_nD (by omega)) (Ok.ret ⟨v.2, rfl, hv.1⟩)
  obtain ⟨r, e, G, rfl, g⟩ := key
  exact ⟨G, e, g⟩
section
variable {w : Web} {o G : List Nat}
theorem Gd.join (g : Gd w o G) {x y : Nat} (W : RdsOk w) (j : Jn w o x y) : Jn w G x y := by
  induction j with
  | refl => exact .refl
  | @step y z i _ hi hn ih =>
    by_cases h : i ∈ G
    · exact .step ih h hn
    · obtain ⟨k, hk⟩ := List.getElem?_of_mem hi
      obtain ⟨R, hR, jj⟩ := g.cl k i hk h
      have jj : Jn w G R.a R.b := jj.mono fun i hi => (List.mem_filter.mp hi).1
      rcases nb_cases hR hn with ⟨rfl, rfl⟩ | ⟨rfl, rfl⟩
      · exact ih.trans jj
      · exact ih.trans (jj.symm W)
theorem Gd.tr (g : Gd w o G) (W : RdsOk w) (h1 : 1 ≤ w.n) (ha : Jall w o) : Tr w G := by
  have hj : Jall w G := fun x hx => g.join W (ha x hx)
  have a := jall_len W hj
  have b := g.fo.len W h1
  exact ⟨g.fo.nd, g.fo.lt, by omega, hj⟩
/-- what a road that is left out could take the place of stands before it -/
theorem Gd.before (g : Gd w o G) (W : RdsOk w) {c e p q j : Nat} (hj : o[j]? = some e) (he : e ∉ G) (hn : nb w e p = some q) (hc : ¬ Jn w (wo G c) p q) : c ∈ o.take j := by
  refine Classical.byContradiction fun h => hc ?_
  obtain ⟨R, hR, jj⟩ := g.cl j e hj he
  have jj : Jn w (wo G c) R.a R.b := jj.mono fun i hi => by
    rw [List.mem_filter] at hi
    exact wo_mem.mpr ⟨hi.1, fun z => h (z ▸ of_decide_eq_true hi.2)⟩
  rcases nb_cases hR hn with ⟨rfl, rfl⟩ | ⟨rfl, rfl⟩
  · exact jj
  · exact jj.symm W
theorem pw_take {R : Nat → Nat → Prop} {o : List Nat} (h : o.Pairwise R) {j c e : Nat} (hj : o[j]? = some e) (hc : c ∈ o.take j) : R c e := by
  obtain ⟨i, hi⟩ := List.getElem?_of_mem hc
  have hlt : i < j := by
    have := (List.getElem?_eq_some_iff.mp hi).1
    rw [List.length_take] at this; omega
  rw [List.getElem?_take_of_lt hlt] at hi
  obtain ⟨i1, i2⟩ := List.getElem?_eq_some_iff.mp hi
  obtain ⟨j1, j2⟩ := List.getElem?_eq_some_iff.mp hj
  have := List.pairwise_iff_getElem.mp h i j i1 j1 hlt
  rw [i2, j2] at this
  exact this
theorem Tr.perm {T U : List Nat} (h : T.Perm U) (t : Tr w T) : Tr w U := ⟨h.nodup_iff.mp t.nd, fun i hi => t.lt i (h.mem_iff.mpr hi), by rw [← h.length_eq]; exact t.len, fun x hx => (t.ja x hx).mono fun i hi => h.mem_iff.mp hi⟩
theorem Lst.perm {f : Nat → Nat} {T U : List Nat} (h : T.Perm U) (t : Lst w f T) : Lst w f U := ⟨t.1.perm h, fun V hV => by rw [← tot_perm h]; exact t.2 V hV⟩
/-- a greedy tree in ascending order of lengths is least -/
theorem Gd.least (g : Gd w o G) (W : RdsOk w) (h1 : 1 ≤ w.n) (ha : Jall w o) {f : Nat → Nat} (hall : ∀ e, e < w.rs.length → e ∈ o) (hs : o.Pairwise fun a b => f a ≤ f b) : Lst w f G := by
  refine ⟨g.tr W h1 ha, fun U u => (g.tr W h1 ha).least' W u fun c hc e p q he hn hpq hj => ?_⟩
  obtain ⟨j, hj'⟩ := List.getElem?_of_mem (hall e he)
  exact pw_take hs hj' (g.before W hj' hn hpq hj)
end
section
variable {α κ : Type} {ic : α → D} {kc : κ → D} {cs : List D} {key : α → Option κ}
theorem keysP_eq {kf : α → κ} : ∀ {xs : List α}, (∀ x ∈ xs, key x = some (kf x)) → keysP key xs = some (xs.map kf)
  | [], _ => rfl
  | x :: xs, h => by
    show (key x).bind _ = _
    rw [h x (.head _), Option.bind_some, keysP_eq fun y hy => h y (.tail _ hy)]
    rfl
theorem sortByP_ok {kf : α → κ} {xs : List α} (hk : ∀ x ∈ xs, key x = some (kf x)) (ok : keyOk cs (xs.map ic) ((xs.map kf).map kc) = true) : ∃ ys, sortByP ic kc cs key xs = some ys ∧ ys.Perm xs ∧ ys.Pairwise fun a b => dle (kc (kf a)) (kc (kf b)) = true := by
  refine ⟨_, by unfold sortByP; rw [keysP_eq hk, Option.bind_some, if_pos ok], ?_, ?_⟩
  · have := (List.mergeSort_perm (xs.zip (xs.map kf)) fun a b => dle (kc a.2) (kc b.2)).map (fun p => p.1)
    rw [List.map_fst_zip (by simp)] at this
    exact this
  · have tr : ∀ a b c : α × κ, dle (kc a.2) (kc b.2) = true → dle (kc b.2) (kc c.2) = true → dle (kc a.2) (kc c.2) = true := fun a b c => dle_total.trans _ _ _
    have to : ∀ a b : α × κ, (dle (kc a.2) (kc b.2) || dle (kc b.2) (kc a.2)) = true := fun a b => by
      rw [Bool.or_eq_true]; exact dle_total.total _ _
    have pw := List.pairwise_mergeSort tr to (xs.zip (xs.map kf))
    rw [List.pairwise_map]
    refine pw.imp_of_mem fun {a b} ha hb h => ?_
    rw [List.mem_mergeSort] at ha hb
    have ez : ∀ p ∈ xs.zip (xs.map kf), p.2 = kf p.1 := fun p hp => by
      obtain ⟨i, hi⟩ := List.getElem?_of_mem hp
      rw [List.getElem?_zip_eq_some] at hi
      obtain ⟨i1, i2⟩ := hi
      rw [List.getElem?_map, i1] at i2
      exact (Option.some.inj i2).symm
    rw [← ez a ha, ← ez b hb]
    exact h
end
theorem dle_lt {α : Type} (f : α → D) (a b : α) : dle (f a) (f b) = !ltBy f b a := rfl
theorem dle_pair (a b : Nat × Nat) : dle (p2 nD nD a) (p2 nD nD b) = decide (a.1 < b.1 ∨ (a.1 = b.1 ∧ a.2 ≤ b.2)) := by
  rw [dle_lt, ltBy_pair]
  by_cases h : a.1 < b.1 ∨ (a.1 = b.1 ∧ a.2 ≤ b.2)
  · rw [decide_eq_true h]; simp; omega
  · rw [decide_eq_false h]; simp; omega
theorem keyOk_of {cs ds ks : List D} (hl : ks.length ≤ 1000000) (h1 : ∀ k ∈ ks, eqOk 40 k = true ∧ isNeTup k = true ∧ flatD k = true) (h2 : ∀ a ∈ ks, ∀ b ∈ ks, PySem.W.alike (py a) (py b) = true) (h3 : ∀ d ∈ ds, eqOk 40 d = true) (h4 : ∀ d ∈ cs, eqOk 40 d = true) : keyOk cs ds ks = true := by
  unfold keyOk sortOk
  simp only [Bool.and_eq_true, Bool.or_eq_true, decide_eq_true_eq, List.all_eq_true]
  exact ⟨⟨⟨⟨⟨⟨hl, fun k hk => (h1 k hk).1⟩, h2⟩, .inl fun k hk => (h1 k hk).2.1⟩, fun k hk => (h1 k hk).2.2⟩, h3⟩, h4⟩
theorem eqOk_tC (ls : List Nat) : eqOk 40 (tC nD ls) = true := by
  have : ls.map nD = (ls.map fun k : Nat => (k : Int)).map D.int := by rw [List.map_map]; rfl
  show (ls.map nD).all (eqOk 39) = true
  rw [this]
  exact eqOk_ints 39 _
theorem eqOk_web (w : Web) : eqOk 40 (webD w) = true := by
  show (eqOk 39 (nD w.n) && (eqOk 39 (tC rdD w.rs) && true)) = true
  rw [Bool.and_true, Bool.and_eq_true]
  refine ⟨rfl, ?_⟩
  show (w.rs.map rdD).all (eqOk 38) = true
  rw [List.all_eq_true]
  intro d hd
  obtain ⟨r, _, rfl⟩ := List.mem_map.mp hd
  rfl
/-- in order of lengths, then of numbers -/
theorem sortAP_ok {ls xs : List Nat} (hl : ls.length ≤ 1000) (hx : xs.length ≤ 1000) (h : ∀ x ∈ xs, x < ls.length) : ∃ ys, sortAP ls xs = some ys ∧ ys.Perm xs ∧ ys.Pairwise fun a b => lf ls a < lf ls b ∨ (lf ls a = lf ls b ∧ a ≤ b) := by
  obtain ⟨ys, e, p, s⟩ := sortByP_ok (ic := nD) (kc := p2 nD nD) (cs := [tC nD ls]) (key := keyA ls) (kf := fun x => (lf ls x, x)) (xs := xs) (fun x hx => by
    unfold keyA kixP
    rw [if_pos hl, lf_get (h x hx)]; rfl) (keyOk_of (by simp; omega) (fun k hk => by
      simp only [List.mem_map] at hk
      obtain ⟨_, ⟨x, _, rfl⟩, rfl⟩ := hk
      exact ⟨rfl, rfl, rfl⟩) (fun a ha b hb => by
      simp only [List.mem_map] at ha hb
      obtain ⟨_, ⟨x, _, rfl⟩, rfl⟩ := ha
      obtain ⟨_, ⟨y, _, rfl⟩, rfl⟩ := hb
      rfl) (fun d hd => by obtain ⟨x, _, rfl⟩ := List.mem_map.mp hd; rfl) (fun d hd => by
      rw [List.mem_singleton] at hd; subst hd; exact eqOk_tC ls))
  refine ⟨ys, e, p, s.imp fun {a b} h => ?_⟩
  rw [dle_pair] at h
  exact of_decide_eq_true h
theorem dle_nest (a b : (Nat × Nat) × Nat) : dle (p2 (p2 nD nD) nD a) (p2 (p2 nD nD) nD b) = true → a.1.1 < b.1.1 ∨ (a.1.1 = b.1.1 ∧ (a.1.2 < b.1.2 ∨ (a.1.2 = b.1.2 ∧ a.2 ≤ b.2))) := by
  obtain ⟨⟨a1, a2⟩, a3⟩ := a
  obtain ⟨⟨b1, b2⟩, b3⟩ := b
  rw [dle_lt]
  have e : ltBy (p2 (p2 nD nD) nD) ((b1, b2), b3) ((a1, a2), a3) = decide (b1 < a1 ∨ (b1 = a1 ∧ (b2 < a2 ∨ (b2 = a2 ∧ b3 < a3)))) := by
    show PyProof.Rows.lexLt PyProof.Rows.itemOrd (PySem.W.keyToks (py (p2 (p2 nD nD) nD ((b1, b2), b3)))) (PySem.W.keyToks (py (p2 (p2 nD nD) nD ((a1, a2), a3)))) = _
    simp only [p2, nD, py, pyAll, PySem.W.keyToks, PySem.W.keyToksAll]
    simp [PyProof.Rows.lexLt, PyProof.Rows.itemLt, PyProof.Rows.itemOrd]
    by_cases h1 : b1 < a1
    · simp [h1]
    · by_cases h2 : b1 = a1
      · subst h2
        by_cases h3 : b2 < a2
        · simp [h3]
        · by_cases h4 : b2 = a2
          · subst h4; simp
          · have : a2 < b2 := by omega
            simp [h3, h4, this]
      · have : a1 < b1 := by omega
        simp [h1, h2, this]
  rw [e]
  simp
  omega
/-- in order of lows, then of highs, then of numbers -/
theorem sortCP_ok {w : Web} {xs : List Nat} (hl : w.rs.length ≤ 1000) (hx : xs.length ≤ 1000) (h : ∀ x ∈ xs, x < w.rs.length) : ∃ ys, sortCP w xs = some ys ∧ ys.Perm xs ∧ ys.Pairwise fun a b => loF w a < loF w b ∨ (loF w a = loF w b ∧ (hiF w a < hiF w b ∨ (hiF w a = hiF w b ∧ a ≤ b))) := by
  obtain ⟨ys, e, p, s⟩ := sortByP_ok (ic := nD) (kc := p2 (p2 nD nD) nD) (cs := [webD w]) (key := keyC w) (kf := fun x => ((loF w x, hiF w x), x)) (xs := xs) (fun x hx => by
    obtain ⟨r, hr⟩ := get_lt (h x hx)
    unfold keyC kixP
    rw [if_pos hl, hr, loF_eq hr, hiF_eq hr]; rfl) (keyOk_of (by simp; omega) (fun k hk => by
      simp only [List.mem_map] at hk
      obtain ⟨_, ⟨x, _, rfl⟩, rfl⟩ := hk
      exact ⟨rfl, rfl, rfl⟩) (fun a ha b hb => by
      simp only [List.mem_map] at ha hb
      obtain ⟨_, ⟨x, _, rfl⟩, rfl⟩ := ha
      obtain ⟨_, ⟨y, _, rfl⟩, rfl⟩ := hb
      rfl) (fun d hd => by obtain ⟨x, _, rfl⟩ := List.mem_map.mp hd; rfl) (fun d hd => by
      rw [List.mem_singleton] at hd; subst hd; exact eqOk_web w))
  exact ⟨ys, e, p, s.imp fun {a b} h => dle_nest _ _ h⟩
theorem range_pw {n : Nat} {ys : List Nat} (p : ys.Perm (List.range n)) : (∀ i, i ∈ ys ↔ i < n) ∧ ys.Nodup := ⟨fun i => by rw [p.mem_iff, List.mem_range], p.nodup_iff.mpr List.nodup_range⟩
theorem jall_perm {w : Web} {l k : List Nat} (h : ∀ i ∈ l, i ∈ k) (j : Jall w l) : Jall w k := fun x hx => (j x hx).mono h
/-- the first least tree: ascending, least; roads that are left out come behind what they could take the place of -/
theorem p_one_least_ok {w : Web} {ls : List Nat} (W : RdsOk w) (h1 : 1 ≤ w.n) (hn : w.n ≤ 1000) (hm : w.rs.length ≤ 1000) (hl : ls.length = w.rs.length) (ha : Jall w (List.range w.rs.length)) :
    ∃ G o, p_one_least w ls = some (isort G) ∧ Gd w o G ∧ Lst w (lf ls) G ∧ o.Perm (List.range w.rs.length) ∧ o.Pairwise fun a b => lf ls a < lf ls b ∨ (lf ls a = lf ls b ∧ a ≤ b) := by
  obtain ⟨o, e1, p, s⟩ := sortAP_ok (ls := ls) (xs := List.range w.rs.length) (by omega) (by simpa using hm) fun x hx => by rw [hl]; exact List.mem_range.mp hx
  obtain ⟨m, nd⟩ := range_pw p
  obtain ⟨G, e2, g⟩ := p_greedy_ok (o := o) W h1 hn fun i hi => (m i).mp hi
  refine ⟨G, o, ?_, g, g.least W h1 (jall_perm (fun i hi => (m i).mpr (List.mem_range.mp hi)) ha) (fun e he => (m e).mpr he) (s.imp fun {a b} h => by omega), p, s⟩
  unfold p_one_least
  rw [rngP_eq (by omega), Option.bind_some, e1, Option.bind_some, e2]; rfl
theorem tot_map {ls T : List Nat} (h : ∀ i ∈ T, i < ls.length) (hl : T.length ≤ 1000000) : p_total ls T = some (tot (lf ls) T) := by
  unfold p_total
  rw [lcP_map (fun i => lf ls i) hl fun i hi => by rw [lf_get (h i hi)]; rfl]
  rfl
theorem p_least_total_ok {w : Web} {ls : List Nat} (W : RdsOk w) (h1 : 1 ≤ w.n) (hn : w.n ≤ 1000) (hm : w.rs.length ≤ 1000) (hl : ls.length = w.rs.length) (ha : Jall w (List.range w.rs.length)) :
    ∃ T, Lst w (lf ls) T ∧ p_least_total w ls = some (tot (lf ls) T) := by
  obtain ⟨G, o, e, _, t, _⟩ := p_one_least_ok W h1 hn hm hl ha
  have t2 := t.perm (isort_perm G).symm
  refine ⟨isort G, t2, ?_⟩
  unfold p_least_total
  have := t2.1.len
  rw [e, Option.bind_some, tot_map (fun i hi => by rw [hl]; exact t2.1.lt i hi) (by omega)]; rfl
end G

namespace G
open PySem PySem.Spec L2 Pv
def toksL : List Nat → List (Int ⊕ List Nat)
  | [] => [Sum.inl 0]
  | x :: xs => Sum.inl 1 :: Sum.inl (x : Int) :: toksL xs
theorem toks_tC (a : List Nat) : PySem.W.keyToks (py (tC nD a)) = toksL a := by
  have key : ∀ a : List Nat, PySem.W.keyToksAll (pyAll (a.map nD)) = toksL a := by
    intro a
    induction a with
    | nil => simp [pyAll, PySem.W.keyToksAll, toksL]
    | cons x xs ih =>
      have ih : PySem.W.keyToksAll (pyAll (xs.map fun k : Nat => D.int (k : Int))) = toksL xs := ih
      simp [pyAll, py, nD, PySem.W.keyToksAll, PySem.W.keyToks, toksL]
      exact ih
  show PySem.W.keyToks (py (.tup (a.map nD))) = _
  rw [py]
  simp [PySem.W.keyToks, key]
theorem lex_nats : ∀ a b : List Nat, PyProof.Rows.lexLt PyProof.Rows.itemOrd (toksL a) (toksL b) = decide (a < b)
  | [], [] => by simp [PyProof.Rows.lexLt, toksL, PyProof.Rows.itemLt, PyProof.Rows.itemOrd]
  | [], y :: ys => by simp [PyProof.Rows.lexLt, toksL, PyProof.Rows.itemLt, PyProof.Rows.itemOrd]
  | x :: xs, [] => by simp [PyProof.Rows.lexLt, toksL, PyProof.Rows.itemLt, PyProof.Rows.itemOrd]
  | x :: xs, y :: ys => by
    have ih := lex_nats xs ys
    simp only [toksL]
    rw [PyProof.Rows.lexLt, PyProof.Rows.lexLt, ih]
    simp only [List.cons_lt_cons_iff]
    simp [PyProof.Rows.itemLt, PyProof.Rows.itemOrd]
    by_cases h1 : x < y
    · simp [h1]
    · by_cases h2 : x = y
      · subst h2; simp
      · have : y < x := by omega
        simp [h1, h2, this]
theorem dle_tC (a b : List Nat) : dle (tC nD a) (tC nD b) = decide (¬ b < a) := by
  show (!PyProof.Rows.lexLt PyProof.Rows.itemOrd (PySem.W.keyToks (py (tC nD b))) (PySem.W.keyToks (py (tC nD a)))) = _
  rw [toks_tC, toks_tC, lex_nats, decide_not]
/-- two lists in strictly ascending order with the same members -/
theorem lex_eq {xs ys : List (List Nat)} (h1 : xs.Pairwise (· < ·)) (h2 : ys.Pairwise (· < ·)) (h : ∀ x, x ∈ xs ↔ x ∈ ys) : xs = ys := by
  have n1 : xs.Nodup := h1.imp fun {a b} h => fun e => by subst e; exact List.lt_irrefl _ h
  have n2 : ys.Nodup := h2.imp fun {a b} h => fun e => by subst e; exact List.lt_irrefl _ h
  exact List.Perm.eq_of_pairwise (le := fun a b => a < b) (fun a b _ _ h1 h2 => absurd h2 (List.lt_asymm h1)) h1 h2 ((List.perm_ext_iff_of_nodup n1 n2).mpr h)
theorem sortBy_lt {xs : List (List Nat)} (nd : xs.Nodup) : (sortBy (tC nD) xs).Pairwise (· < ·) := by
  have tr : ∀ a b c : List Nat, dle (tC nD a) (tC nD b) = true → dle (tC nD b) (tC nD c) = true → dle (tC nD a) (tC nD c) = true := fun a b c => dle_total.trans _ _ _
  have to : ∀ a b : List Nat, (dle (tC nD a) (tC nD b) || dle (tC nD b) (tC nD a)) = true := fun a b => by
    rw [Bool.or_eq_true]; exact dle_total.total _ _
  have pw : (sortBy (tC nD) xs).Pairwise fun a b => dle (tC nD a) (tC nD b) = true := List.pairwise_mergeSort tr to xs
  have nd' : (sortBy (tC nD) xs).Pairwise (· ≠ ·) := (sortBy_perm (tC nD) xs).nodup_iff.mpr nd
  refine (pw.and nd').imp fun {a b} h => ?_
  have h1 := h.1
  rw [dle_tC] at h1
  have h1 : ¬ b < a := of_decide_eq_true h1
  exact Classical.byContradiction fun z => h.2 (List.le_antisymm (List.not_lt.mp h1) (List.not_lt.mp z))
theorem lt_app_l {a b s t : List Nat} (h : a < b) (hl : a.length = b.length) : a ++ s < b ++ t := by
  induction a generalizing b with
  | nil => cases b with
    | nil => exact absurd h (List.lt_irrefl _)
    | cons => cases hl
  | cons x xs ih =>
    cases b with
    | nil => cases hl
    | cons y ys =>
      rw [List.cons_append, List.cons_append, List.cons_lt_cons_iff]
      rw [List.cons_lt_cons_iff] at h
      rcases h with h | ⟨h1, h2⟩
      · exact .inl h
      · exact .inr ⟨h1, ih h2 (Nat.succ.inj hl)⟩
theorem lt_app_r {a s t : List Nat} (h : s < t) : a ++ s < a ++ t := by
  induction a with
  | nil => exact h
  | cons x xs ih => rw [List.cons_append, List.cons_append, List.cons_lt_cons_iff]; exact .inr ⟨rfl, ih⟩
/-- all ascending tuples of so many numbers below size, in ascending order -/
structure ChS (size k : Nat) (C : List (List Nat)) : Prop where
  mem : ∀ T : List Nat, T ∈ C ↔ T.length = k ∧ T.Pairwise (· < ·) ∧ ∀ i ∈ T, i < size
  asc : C.Pairwise (· < ·)
/-- where a tuple goes on -/
def nxt (T : List Nat) : Nat := match T.getLast? with
  | some x => x + 1
  | none => 0
theorem nxt_snoc (T : List Nat) (i : Nat) : nxt (T ++ [i]) = i + 1 := by unfold nxt; rw [List.getLast?_concat]
theorem pw_snoc {T : List Nat} {i : Nat} : (T ++ [i]).Pairwise (· < ·) ↔ T.Pairwise (· < ·) ∧ ∀ x ∈ T, x < i := by
  rw [List.pairwise_append]
  simp
theorem nxt_le {T : List Nat} (h : T.Pairwise (· < ·)) {i : Nat} : (∀ x ∈ T, x < i) ↔ nxt T ≤ i := by
  rcases List.eq_nil_or_concat T with rfl | ⟨P, x, rfl⟩
  · simp [nxt]
  · rw [List.concat_eq_append] at h ⊢
    rw [nxt_snoc]
    obtain ⟨_, h2⟩ := pw_snoc.mp h
    constructor
    · intro hh; have := hh x (by simp); omega
    · intro hh y hy
      rcases List.mem_append.mp hy with hy | hy
      · have := h2 y hy; omega
      · simp at hy; omega
def chS (size : Nat) (C : List (List Nat)) : List (List Nat) := C.flatMap fun T => (List.range' (nxt T) (size - nxt T)).map fun i => T ++ [i]
theorem chS_ok {size k : Nat} {C : List (List Nat)} (h : ChS size k C) : ChS size (k + 1) (chS size C) := by
  refine ⟨fun T => ?_, ?_⟩
  · unfold chS
    rw [List.mem_flatMap]
    constructor
    · rintro ⟨P, hP, hT⟩
      obtain ⟨i, hi, rfl⟩ := List.mem_map.mp hT
      obtain ⟨p1, p2, p3⟩ := (h.mem P).mp hP
      rw [List.mem_range'] at hi
      obtain ⟨j, hj, rfl⟩ := hi
      refine ⟨by simp [p1], pw_snoc.mpr ⟨p2, (nxt_le p2).mpr (by omega)⟩, fun x hx => ?_⟩
      rcases List.mem_append.mp hx with hx | hx
      · exact p3 x hx
      · simp at hx; omega
    · rintro ⟨t1, t2, t3⟩
      rcases List.eq_nil_or_concat T with rfl | ⟨P, i, rfl⟩
      · cases t1
      · rw [List.concat_eq_append] at t1 t2 t3 ⊢
        obtain ⟨q1, q2⟩ := pw_snoc.mp t2
        have q3 := (nxt_le q1).mp q2
        have hi := t3 i (by simp)
        refine ⟨P, (h.mem P).mpr ⟨by simp at t1; exact t1, q1, fun x hx => t3 x (List.mem_append_left _ hx)⟩, List.mem_map.mpr ⟨i, ?_, rfl⟩⟩
        rw [List.mem_range']
        exact ⟨i - nxt P, by omega, by omega⟩
  · unfold chS
    rw [List.pairwise_flatMap]
    refine ⟨fun T _ => ?_, h.asc.imp_of_mem fun {a b} ha hb hab x hx y hy => ?_⟩
    · rw [List.pairwise_map]
      refine List.Pairwise.imp (fun {a b} hab => lt_app_r ?_) (List.pairwise_lt_range' (s := nxt T) (n := size - nxt T))
      rw [List.cons_lt_cons_iff]
      exact .inl hab
    · obtain ⟨i, _, rfl⟩ := List.mem_map.mp hx
      obtain ⟨j, _, rfl⟩ := List.mem_map.mp hy
      exact lt_app_l hab (((h.mem a).mp ha).1.trans ((h.mem b).mp hb).1.symm)
theorem chS_len (size : Nat) (C : List (List Nat)) : (chS size C).length ≤ C.length * size := by
  unfold chS
  induction C with
  | nil => simp
  | cons T C ih =>
    rw [List.flatMap_cons, List.length_append, List.length_map, List.length_range', List.length_cons, Nat.add_mul, Nat.one_mul]
    omega
theorem p_choices_ok {size many : Nat} (hs : size ≤ 1000) (hm : many ≤ 1000) (hp : ∀ k, k ≤ many → size ^ k ≤ 1000000) : ∃ C, p_choices size (many : Int) = some C ∧ ChS size many C ∧ C.length ≤ size ^ many := by
  obtain ⟨C, e, hC, hl⟩ := forP_I (b := fun (x_6 : Nat) (v_4 : (List (List Nat))) =>
    (forP (fun (x_9 : (List Nat)) (v_7 : (List (List Nat))) =>
      (if (decide (x_9 ≠ ([] : List Nat))) = true then (x_9.getLast?).bind fun it_10 => some ((it_10 + (1 : Nat)) : Nat) else some ((0 : Nat) : Nat)).bind fun c_11 =>
      (rng2P c_11 size).bind fun rng_12 =>
      (lcP (fun (_ : Nat) => some true) (fun (x_13 : Nat) => (addP x_9 ([x_13] : List Nat)).bind fun sum_14 => some (sum_14 : (List Nat))) rng_12).bind fun lc_15 =>
      (addP v_7 lc_15).bind fun longer_16 =>
      some longer_16) v_4 ([] : List (List Nat))).bind fun (w_17 : (List (List Nat))) =>
    some w_17) (xs := List.range many) (v := ([[]] : List (List Nat))) (fun k C => ChS size k C ∧ C.length ≤ size ^ k) ⟨⟨fun T => by
      simp only [List.mem_singleton]
      constructor
      · rintro rfl; simp
      · rintro ⟨h, _⟩; exact List.length_eq_zero_iff.mp h, by simp⟩, by simp⟩ (fun k x C hx ⟨h1, h2⟩ => by
      have hk : k < many := by have := (List.getElem?_eq_some_iff.mp hx).1; simpa using this
      have p1 := hp (k + 1) hk
      have l1 := chS_len size C
      have l2 : C.length * size ≤ size ^ (k + 1) := by rw [Nat.pow_succ]; exact Nat.mul_le_mul_right _ h2
      refine ⟨chS size C, ?_, chS_ok h1, by omega⟩
      have key : ∀ (C' : List (List Nat)) (v : List (List Nat)), (∀ T ∈ C', T ∈ C) → v.length + (chS size C').length ≤ 1000000 → forP (fun (x_9 : (List Nat)) (v_7 : (List (List Nat))) =>
          (if (decide (x_9 ≠ ([] : List Nat))) = true then (x_9.getLast?).bind fun it_10 => some ((it_10 + (1 : Nat)) : Nat) else some ((0 : Nat) : Nat)).bind fun c_11 =>
          (rng2P c_11 size).bind fun rng_12 =>
          (lcP (fun (_ : Nat) => some true) (fun (x_13 : Nat) => (addP x_9 ([x_13] : List Nat)).bind fun sum_14 => some (sum_14 : (List Nat))) rng_12).bind fun lc_15 =>
          (addP v_7 lc_15).bind fun longer_16 =>
          some longer_16) C' v = some (v ++ chS size C') := by
        intro C'
        induction C' with
        | nil => intro v _ _; simp [forP, chS]
        | cons T C' ih =>
          intro v hsub hlen
          obtain ⟨t1, t2, t3⟩ := (h1.mem T).mp (hsub T (.head _))
          have ec : chS size (T :: C') = ((List.range' (nxt T) (size - nxt T)).map fun i => T ++ [i]) ++ chS size C' := by unfold chS; rw [List.flatMap_cons]
          rw [ec, List.length_append, List.length_map, List.length_range'] at hlen
          have en : (if (decide (T ≠ ([] : List Nat))) = true then (T.getLast?).bind fun it_10 => some ((it_10 + (1 : Nat)) : Nat) else some ((0 : Nat) : Nat)) = some (nxt T) := by
            rcases List.eq_nil_or_concat T with rfl | ⟨P, i, rfl⟩
            · rfl
            · rw [List.concat_eq_append, nxt_snoc, List.getLast?_concat, if_pos (by simp)]; rfl
          have nl : nxt T ≤ size := by
            rcases List.eq_nil_or_concat T with rfl | ⟨P, i, rfl⟩
            · simp [nxt]
            · rw [List.concat_eq_append, nxt_snoc]; exact t3 i (by simp)
          rw [forP]

          rw [en, Option.bind_some, rng2P_eq (by omega) (by omega), Option.bind_some, lcP_map (fun i => T ++ [i]) (by rw [List.length_range']; omega) fun i _ => by rw [addP_eq (by simp; omega)]; rfl]
          rw [Option.bind_some, addP_eq (by rw [List.length_map, List.length_range']; omega), Option.bind_some, Option.bind_some]
          rw [ih _ (fun T' hT' => hsub T' (.tail _ hT')) (by rw [List.length_append, List.length_map, List.length_range']; omega), ec, List.append_assoc]
      rw [key C [] (fun _ h => h) (by simp; omega)]
      rfl)
  rw [List.length_range] at hC hl
  refine ⟨C, ?_, hC, hl⟩
  unfold p_choices rokP
  rw [Option.bind_some, if_pos (by omega), Option.bind_some, Int.toNat_natCast, rngP_eq (by omega), Option.bind_some, e]
  rfl
/-- all trees, ascending, in ascending order -/
structure TS (w : Web) (L : List (List Nat)) : Prop where
  mem : ∀ T : List Nat, T ∈ L ↔ T.Pairwise (· < ·) ∧ Tr w T
  asc : L.Pairwise (· < ·)
theorem TS.eq {w : Web} {L L' : List (List Nat)} (h : TS w L) (h' : TS w L') : L = L' := lex_eq h.asc h'.asc fun T => by rw [h.mem, h'.mem]
theorem p_trees_ok {w : Web} (W : RdsOk w) (hn : w.n ≤ 6) (h1 : 1 ≤ w.n) (hm : w.rs.length ≤ 10) : ∃ L, p_trees w = some L ∧ TS w L ∧ L.length ≤ 1000000 := by
  have pw : ∀ k, k ≤ w.n - 1 → w.rs.length ^ k ≤ 1000000 := fun k hk => by
    have a : w.rs.length ^ k ≤ 10 ^ k := Nat.pow_le_pow_left hm k
    have b : 10 ^ k ≤ 10 ^ 5 := Nat.pow_le_pow_right (by decide) (by omega)
    have : (10 : Nat) ^ 5 = 100000 := by decide
    omega
  obtain ⟨C, e, hC, hl⟩ := p_choices_ok (size := w.rs.length) (many := w.n - 1) (by omega) (by omega) pw
  have hcl : C.length ≤ 1000000 := Nat.le_trans hl (pw _ (Nat.le_refl _))
  classical
  refine ⟨C.filter fun T => decide (Jall w T), ?_, ⟨fun T => ?_, hC.asc.filter _⟩, by have := List.length_filter_le (fun T => decide (Jall w T)) C; omega⟩
  · unfold p_trees
    rw [show ((w.n : Int) - 1) = ((w.n - 1 : Nat) : Int) by omega, e, Option.bind_some, lcP_filter (fun T => decide (Jall w T)) hcl fun T hT => ?_]
    · rfl
    · obtain ⟨t1, t2, t3⟩ := (hC.mem T).mp hT
      obtain ⟨b, eb, hb⟩ := p_do_join_eq W hn h1 (l := T) (by omega) t3
      rw [eb, Option.bind_some]
      congr 1
      rw [Bool.eq_iff_iff, hb, decide_eq_true_eq]
  · rw [List.mem_filter, decide_eq_true_eq, hC.mem]
    constructor
    · rintro ⟨⟨a, b, c⟩, d⟩
      exact ⟨b, b.imp fun h => Nat.ne_of_lt h, c, by omega, d⟩
    · rintro ⟨b, t⟩
      have := t.len
      exact ⟨⟨by omega, b, t.lt⟩, t.ja⟩
end G

namespace G
open PySem PySem.Spec L2 Pv
theorem p_least_trees_eq {w : Web} (Wo : WebOk w 6 10) {L : List (List Nat)} (hL : TS w L) {ls : List Nat} (ll : ls.length = w.rs.length) : ∃ T0, Lst w (lf ls) T0 ∧ isort T0 ∈ L ∧ p_least_trees w ls = some (L.filter fun T => decide (tot (lf ls) T = tot (lf ls) T0)) := by
  have W : RdsOk w := Wo.ab
  have hn := Wo.nh
  have hm := Wo.rm
  have h1 := Wo.n1
  obtain ⟨T0, t0, e0⟩ := p_least_total_ok W h1 (by omega) (by omega) ll (web_all Wo)
  obtain ⟨L', eL, hL', lL⟩ := p_trees_ok W hn h1 hm
  obtain rfl := hL'.eq hL
  have p := isort_perm T0
  refine ⟨T0, t0, (hL.mem (isort T0)).mpr ⟨isort_lt t0.1.nd, t0.1.perm p.symm⟩, ?_⟩
  unfold p_least_trees
  rw [e0, Option.bind_some, eL, Option.bind_some, lcP_filter (fun T => decide (tot (lf ls) T = tot (lf ls) T0)) lL fun T hT => by
    have t := ((hL.mem T).mp hT).2
    have := t.len
    rw [tot_map (fun i hi => by rw [ll]; exact t.lt i hi) (by omega)]; rfl]
  rfl
/-- the least total of all trees -/
theorem least_min {w : Web} {L : List (List Nat)} (hL : TS w L) {f : Nat → Nat} {T0 : List Nat} (t0 : Lst w f T0) (h0 : isort T0 ∈ L) : lMinN (L.map (tot f)) = tot f T0 := by
  have ne : L.map (tot f) ≠ [] := fun z => by
    have := List.map_eq_nil_iff.mp z
    rw [this] at h0; cases h0
  refine Nat.le_antisymm ?_ ?_
  · rw [← tot_perm (isort_perm T0)]
    exact lMinN_le (List.mem_map_of_mem h0)
  · obtain ⟨T, hT, e⟩ := List.mem_map.mp (lMinN_mem ne)
    rw [← e]
    exact t0.2 T ((hL.mem T).mp hT).2
theorem zip_map_filter {α β : Type} (f : α → β) (p : β → Bool) : ∀ xs : List α, ((xs.zip (xs.map f)).filter fun x => p x.2).map (·.1) = xs.filter fun x => p (f x)
  | [] => rfl
  | x :: xs => by
    rw [List.map_cons, List.zip_cons_cons, List.filter_cons, List.filter_cons]
    dsimp only
    cases p (f x)
    · rw [if_neg (by simp), if_neg (by simp), zip_map_filter f p xs]
    · rw [if_pos rfl, if_pos rfl, List.map_cons, zip_map_filter f p xs]
end G

namespace G
open PySem PySem.Spec L2 Pv
def SdP (a b k : Nat) (s : List Nat) : Prop := s.Pairwise (· < ·) ∧ (∀ x ∈ s, x < k ∧ x ≠ b) ∧ (a < k → a ∈ s)
theorem SdP.a {a b k : Nat} {U : List Nat} (h : SdP a b k U) (hb : k ≠ b) : SdP a b (k + 1) (U ++ [k]) := ⟨pw_snoc.mpr ⟨h.1, fun x hx => (h.2.1 x hx).1⟩, fun x hx => by
  rcases List.mem_append.mp hx with z | z
  · have := h.2.1 x z; exact ⟨by omega, this.2⟩
  · have := List.mem_singleton.mp z; subst this; exact ⟨by omega, hb⟩, fun hk => by
  by_cases e : a = k
  · subst e; simp
  · exact List.mem_append_left _ (h.2.2 (by omega))⟩
theorem SdP.b {a b k : Nat} {U : List Nat} (h : SdP a b k U) (ha : k ≠ a) : SdP a b (k + 1) U := ⟨h.1, fun x hx => by have := h.2.1 x hx; exact ⟨by omega, this.2⟩, fun hk => h.2.2 (by omega)⟩
theorem SdP.c {a b k : Nat} {T : List Nat} (h : SdP a b (k + 1) T) : (k ∉ T ∧ k ≠ a ∧ SdP a b k T) ∨ (k ≠ b ∧ ∃ U, T = U ++ [k] ∧ SdP a b k U) := by
  by_cases hk : k ∈ T
  · right
    refine ⟨(h.2.1 k hk).2, ?_⟩
    have hT : T ≠ [] := fun z => by rw [z] at hk; cases hk
    obtain ⟨U, x, rfl⟩ : ∃ U x, T = U ++ [x] := ⟨T.dropLast, T.getLast hT, (List.dropLast_concat_getLast hT).symm⟩
    obtain ⟨a1, a2⟩ := pw_snoc.mp h.1
    have hx := h.2.1 x (by simp)
    have e : x = k := by
      rcases List.mem_append.mp hk with z | z
      · have := a2 k z; omega
      · exact (List.mem_singleton.mp z).symm
    subst e
    refine ⟨U, rfl, a1, fun y hy => ⟨a2 y hy, (h.2.1 y (by simp [hy])).2⟩, fun z => ?_⟩
    rcases List.mem_append.mp (h.2.2 (by omega)) with q | q
    · exact q
    · have := List.mem_singleton.mp q; omega
  · left
    refine ⟨hk, fun e => hk (by subst e; exact h.2.2 (by omega)), h.1, fun x hx => ?_, fun z => h.2.2 (by omega)⟩
    have := h.2.1 x hx
    have ne : x ≠ k := fun e => hk (e ▸ hx)
    exact ⟨by omega, this.2⟩
theorem p_sides_ok {w : Web} {road : Nat} {r : Rd} (hn : w.n ≤ 6) (W : RdsOk w) (hr : w.rs[road]? = some r) : ∃ C, p_sides w road = some C ∧ C.length ≤ 64 ∧ ∀ s, s ∈ C ↔ SdP r.a r.b w.n s := by
  have lt := W r (List.mem_of_getElem? hr)
  have hb := lt.2
  obtain ⟨C, e, hl, hC⟩ := forP_I (b := fun (x_6 : Nat) (v_4 : (List (List Nat))) =>
    (if (decide (x_6 = r.a)) = true then
      (lcP (fun (_ : (List Nat)) => some true) (fun (x_8 : (List Nat)) => (addP x_8 ([x_6] : List Nat)).bind fun sum_9 => some (sum_9 : (List Nat))) v_4).bind fun lc_10 =>
      some lc_10
    else
      (if (decide (x_6 ≠ r.b)) = true then
        (lcP (fun (_ : (List Nat)) => some true) (fun (x_12 : (List Nat)) => (addP x_12 ([x_6] : List Nat)).bind fun sum_13 => some (sum_13 : (List Nat))) v_4).bind fun lc_14 =>
        (addP v_4 lc_14).bind fun sum_15 =>
        some sum_15
      else
        some v_4))) (xs := List.range w.n) (v := ([[]] : List (List Nat))) (fun k C => C.length ≤ 2 ^ k ∧ ∀ s, s ∈ C ↔ SdP r.a r.b k s)
    ⟨by simp, fun s => by
      rw [List.mem_singleton]
      constructor
      · rintro rfl; exact ⟨.nil, by simp, fun h => by omega⟩
      · rintro ⟨_, h, _⟩
        cases s with
        | nil => rfl
        | cons x _ => exact absurd (h x (.head _)).1 (by omega)⟩ (fun k x C hx ⟨h1, h2⟩ => by
      obtain ⟨hk, hx⟩ := List.getElem?_eq_some_iff.mp hx
      rw [List.length_range] at hk
      rw [List.getElem_range] at hx
      subst hx
      have cl : C.length ≤ 64 := Nat.le_trans h1 (Nat.le_trans (Nat.pow_le_pow_right (by omega) (show k ≤ 6 by omega)) (by decide))
      have el : lcP (fun (_ : (List Nat)) => some true) (fun (x_12 : (List Nat)) => (addP x_12 ([k] : List Nat)).bind fun sum_13 => some (sum_13 : (List Nat))) C = some (C.map fun s => s ++ [k]) := lcP_map _ (by omega) fun s hs => by
        have a := (h2 s).mp hs
        have b := nodup_len k (a.1.imp fun h => Nat.ne_of_lt h) fun x hx => (a.2.1 x hx).1
        rw [addP_eq (by simp; omega)]; rfl
      by_cases ka : k = r.a
      · refine ⟨C.map fun s => s ++ [k], ?_, ?_, fun s => ?_⟩
        · rw [if_pos (decide_eq_true ka), el]; rfl
        · rw [List.length_map, Nat.pow_succ]; omega
        · rw [List.mem_map]
          constructor
          · rintro ⟨U, hU, rfl⟩
            exact ((h2 U).mp hU).a (by omega)
          · intro h
            rcases h.c with ⟨_, b, _⟩ | ⟨_, U, rfl, hU⟩
            · exact absurd ka b
            · exact ⟨U, (h2 U).mpr hU, rfl⟩
      · by_cases kb : k = r.b
        · refine ⟨C, ?_, by rw [Nat.pow_succ]; omega, fun s => ?_⟩
          · rw [if_neg (by simpa using ka), if_neg (by simpa using kb)]
          · rw [h2]
            constructor
            · intro h; exact h.b ka
            · intro h
              rcases h.c with ⟨_, _, h⟩ | ⟨b, _⟩
              · exact h
              · exact absurd kb b
        · refine ⟨C ++ C.map fun s => s ++ [k], ?_, ?_, fun s => ?_⟩
          · rw [if_neg (by simpa using ka), if_pos (by simpa using kb), el, Option.bind_some, addP_eq (by rw [List.length_map]; omega)]; rfl
          · rw [List.length_append, List.length_map, Nat.pow_succ]; omega
          · rw [List.mem_append, List.mem_map]
            constructor
            · rintro (h | ⟨U, hU, rfl⟩)
              · exact ((h2 s).mp h).b ka
              · exact ((h2 U).mp hU).a kb
            · intro h
              rcases h.c with ⟨_, _, h⟩ | ⟨_, U, rfl, hU⟩
              · exact .inl ((h2 s).mpr h)
              · exact .inr ⟨U, (h2 U).mpr hU, rfl⟩)
  rw [List.length_range] at hl hC
  have cl : C.length ≤ 64 := Nat.le_trans hl (Nat.le_trans (Nat.pow_le_pow_right (by omega) hn) (by decide))
  refine ⟨sortBy (tC nD) C, ?_, by rw [(sortBy_perm _ _).length_eq]; exact cl, fun s => by rw [(sortBy_perm _ _).mem_iff]; exact hC s⟩
  unfold p_sides
  rw [p_ends_of_eq hr, Option.bind_some, Option.bind_some, rngP_eq (by omega), Option.bind_some, e, Option.bind_some, sortP_tC (by omega) fun s hs z => by
    have := ((hC s).mp hs).2.2 (by omega)
    rw [z] at this; cases this]
  rfl
def crB (w : Web) (s : List Nat) (i : Nat) : Bool := match w.rs[i]? with
  | some r => decide (decide (r.a ∈ s) ≠ decide (r.b ∈ s))
  | none => false
def crs (w : Web) (s : List Nat) : List Nat := (List.range w.rs.length).filter (crB w s)
theorem p_crossing_eq {w : Web} {s : List Nat} (hm : w.rs.length ≤ 1000) : p_crossing w s = some (crs w s) := by
  unfold p_crossing
  rw [rngP_eq (by omega), Option.bind_some, forP_app (crB w s) id _ _ (by simp; omega) fun x hx v hv => by
    obtain ⟨r, hr⟩ := get_lt (List.mem_range.mp hx)
    rw [p_ends_of_eq hr, Option.bind_some, appP_eq hv]
    have : crB w s x = decide (decide (r.a ∈ s) ≠ decide (r.b ∈ s)) := by unfold crB; rw [hr]
    rw [this]
    cases decide (decide (r.a ∈ s) ≠ decide (r.b ∈ s)) <;> rfl]
  rw [List.map_id, List.nil_append]; rfl
theorem crs_mem {w : Web} {s : List Nat} {i : Nat} : i ∈ crs w s ↔ ∃ u v, nb w i u = some v ∧ decide (u ∈ s) ≠ decide (v ∈ s) := by
  unfold crs
  rw [List.mem_filter, List.mem_range]
  constructor
  · rintro ⟨h1, h2⟩
    obtain ⟨r, hr⟩ := get_lt h1
    unfold crB at h2
    rw [hr] at h2
    exact ⟨r.a, r.b, nb_ends hr, of_decide_eq_true h2⟩
  · rintro ⟨u, v, h1, h2⟩
    cases hr : w.rs[i]? with
    | none => unfold nb at h1; rw [hr] at h1; cases h1
    | some r =>
      refine ⟨(List.getElem?_eq_some_iff.mp hr).1, ?_⟩
      unfold crB
      rw [hr]
      refine decide_eq_true ?_
      rcases nb_cases hr h1 with ⟨rfl, rfl⟩ | ⟨rfl, rfl⟩
      · exact h2
      · exact fun e => h2 e.symm
theorem crs_len (w : Web) (s : List Nat) : (crs w s).length ≤ w.rs.length := by
  have := List.length_filter_le (crB w s) (List.range w.rs.length)
  rw [List.length_range] at this
  exact this
theorem Wk.cross {w : Web} {goal : Nat} (S : Nat → Bool) : ∀ {d : List Nat} {here : Nat} {seen : List Nat}, Wk w goal d here seen → S here ≠ S goal → ∃ i ∈ d, ∃ u v, nb w i u = some v ∧ S u ≠ S v
  | [], here, seen, h, hS => absurd (by have h : here = goal := h; rw [h]) hS
  | i :: d, here, seen, h, hS => by
    obtain ⟨t, h1, h2, h3⟩ := h
    by_cases hc : S here = S t
    · obtain ⟨j, hj, u, v, a, b⟩ := Wk.cross S h3 (by rw [← hc]; exact hS)
      exact ⟨j, .tail _ hj, u, v, a, b⟩
    · exact ⟨i, .head _, here, t, h1, hc⟩
theorem jn_cross {w : Web} {ok : List Nat} {x : Nat} (S : Nat → Bool) {y : Nat} (j : Jn w ok x y) : S x ≠ S y → ∃ i ∈ ok, ∃ u v, nb w i u = some v ∧ S u ≠ S v := by
  induction j with
  | refl => exact fun h => absurd rfl h
  | @step y z i _ hi hn ih =>
    intro h
    by_cases hc : S x = S y
    · exact ⟨i, hi, y, z, hn, by rw [← hc]; exact h⟩
    · exact ih hc
theorem Wk.off {w : Web} {goal : Nat} (W : RdsOk w) {x : Nat} {ok : List Nat} : ∀ {d : List Nat} {here : Nat} {seen : List Nat}, Wk w goal d here seen → x ∈ seen → (∀ i ∈ d, i ∈ ok) → here ≠ x → ∀ {c v : Nat}, nb w c x = some v → Jn w (wo ok c) here goal ∧ c ∉ d
  | [], here, seen, h, _, _, _, c, v, _ => ⟨by have h : here = goal := h; rw [h]; exact .refl, by simp⟩
  | i :: d, here, seen, h, hx, hi, hne, c, v, hc => by
    obtain ⟨t, h1, h2, h3⟩ := h
    have tx : t ≠ x := fun e => h2 (e ▸ hx)
    have ic : i ≠ c := by
      rintro rfl
      rcases nb_fun W h1 hc with ⟨a, _⟩ | ⟨a, _⟩
      · exact hne a.symm
      · exact tx a.symm
    obtain ⟨a, b⟩ := Wk.off W h3 (List.mem_append_left _ hx) (fun j hj => hi j (.tail _ hj)) tx hc
    refine ⟨Jn.trans (.step .refl (wo_mem.mpr ⟨hi i (.head _), ic⟩) h1) a, fun z => ?_⟩
    rcases List.mem_cons.mp z with e | z
    · exact ic e.symm
    · exact b z
theorem wk_uniq {w : Web} {T : List Nat} {goal : Nat} (W : RdsOk w) (t : Tr w T) : ∀ {d d' : List Nat} {here : Nat} {seen seen' : List Nat}, Wk w goal d here seen → Wk w goal d' here seen' → here ∈ seen → here ∈ seen' → goal ∉ seen ∨ here = goal → goal ∉ seen' ∨ here = goal → (∀ i ∈ d, i ∈ T) → (∀ i ∈ d', i ∈ T) → d = d' := by
  intro d
  induction d with
  | nil =>
    intro d' here seen seen' h h' hs hs' g g' _ _
    have h : here = goal := h
    cases d' with
    | nil => rfl
    | cons j d' =>
      obtain ⟨z, h1, h2, h3⟩ := h'
      have zx : z ≠ here := fun e => h2 (e ▸ hs')
      have key : ∀ (d : List Nat) (x : Nat) (seen : List Nat), Wk w goal d x seen → goal ∈ seen → x ≠ goal → False := by
        intro d
        induction d with
        | nil => intro x seen h _ hx; exact hx h
        | cons i d ih =>
          intro x seen h hg hx
          obtain ⟨t, _, h2, h3⟩ := h
          exact ih t _ h3 (List.mem_append_left _ hg) fun e => h2 (e ▸ hg)
      exact (key d' z _ h3 (List.mem_append_left _ (h ▸ hs')) (h ▸ zx)).elim
  | cons i d ih =>
    intro d' here seen seen' h h' hs hs' g g' hT hT'
    obtain ⟨y, h1, h2, h3⟩ := h
    have yx : y ≠ here := fun e => h2 (e ▸ hs)
    have key : ∀ (d : List Nat) (x : Nat) (seen : List Nat), Wk w goal d x seen → goal ∈ seen → x ≠ goal → False := by
      intro d
      induction d with
      | nil => intro x seen h _ hx; exact hx h
      | cons i d ih =>
        intro x seen h hg hx
        obtain ⟨t, _, h2, h3⟩ := h
        exact ih t _ h3 (List.mem_append_left _ hg) fun e => h2 (e ▸ hg)
    cases d' with
    | nil =>
      have h' : here = goal := h'
      exact (key d y _ h3 (List.mem_append_left _ (h' ▸ hs)) (h' ▸ yx)).elim
    | cons j d' =>
      obtain ⟨z, k1, k2, k3⟩ := h'
      have zx : z ≠ here := fun e => k2 (e ▸ hs')
      have ij : i = j := by
        by_cases e : i = j
        · exact e
        · obtain ⟨a, _⟩ := Wk.off W h3 (List.mem_append_left _ hs) (fun q hq => hT q (.tail _ hq)) yx h1
          obtain ⟨b, _⟩ := Wk.off W k3 (List.mem_append_left _ hs') (fun q hq => hT' q (.tail _ hq)) zx h1
          have c : Jn w (wo T i) here goal := Jn.trans (.step .refl (wo_mem.mpr ⟨hT' j (.head _), fun q => e q.symm⟩) k1) b
          exact absurd (c.trans (a.symm W)) (t.cut W (hT i (.head _)) h1)
      subst ij
      have yz : y = z := by rw [h1] at k1; exact Option.some.inj k1
      subst yz
      have gs : goal ∉ seen ++ [y] ∨ y = goal := by
        by_cases e : y = goal
        · exact .inr e
        · refine .inl fun q => ?_
          rcases List.mem_append.mp q with q | q
          · exact key d y _ h3 (List.mem_append_left _ q) e
          · exact e (List.mem_singleton.mp q).symm
      have gs' : goal ∉ seen' ++ [y] ∨ y = goal := by
        by_cases e : y = goal
        · exact .inr e
        · refine .inl fun q => ?_
          rcases List.mem_append.mp q with q | q
          · exact key d' y _ k3 (List.mem_append_left _ q) e
          · exact e (List.mem_singleton.mp q).symm
      rw [ih h3 k3 (by simp) (by simp) gs gs' (fun q hq => hT q (.tail _ hq)) fun q hq => hT' q (.tail _ hq)]
theorem wk_sep {w : Web} {T : List Nat} {goal : Nat} (W : RdsOk w) (t : Tr w T) : ∀ {d : List Nat} {here : Nat} {seen : List Nat}, Wk w goal d here seen → here ∈ seen → (∀ i ∈ d, i ∈ T) → ∀ i ∈ d, ¬ Jn w (wo T i) here goal
  | [], _, _, _, _, _, i, hi => by cases hi
  | j :: d, here, seen, h, hs, hT, i, hi => by
    obtain ⟨y, h1, h2, h3⟩ := h
    have yx : y ≠ here := fun e => h2 (e ▸ hs)
    by_cases e : i = j
    · subst e
      obtain ⟨a, _⟩ := Wk.off W h3 (List.mem_append_left _ hs) (fun q hq => hT q (.tail _ hq)) yx h1
      exact fun c => t.cut W (hT i (.head _)) h1 (c.trans (a.symm W))
    · have hid : i ∈ d := by
        rcases List.mem_cons.mp hi with q | q
        · exact absurd q e
        · exact q
      have a := wk_sep W t h3 (by simp) (fun q hq => hT q (.tail _ hq)) i hid
      exact fun c => a (Jn.trans ((Jn.step .refl (wo_mem.mpr ⟨hT j (.head _), fun q => e q.symm⟩) h1 : Jn w (wo T i) here y).symm W) c)
theorem wy_nodup {w : Web} {ok : List Nat} {goal : Nat} (nd : ok.Nodup) : ∀ (k here : Nat) (seen : List Nat), (wy w ok goal k here seen).Nodup
  | 0, _, _ => by simp [wy]
  | k + 1, here, seen => by
    unfold wy
    split
    · simp
    · rw [List.nodup_iff_pairwise_ne, List.pairwise_flatMap]
      constructor
      · intro i hi
        split
        · split
          · exact .nil
          · rw [List.pairwise_map]
            exact (List.nodup_iff_pairwise_ne.mp (wy_nodup nd k _ _)).imp fun h e => h (List.cons.inj e).2
        · exact .nil
      · refine (List.nodup_iff_pairwise_ne.mp nd).imp fun {i j} hij x hx y hy e => ?_
        subst e
        have h1 : ∃ d, x = i :: d := by
          split at hx
          · split at hx
            · cases hx
            · obtain ⟨d, _, rfl⟩ := List.mem_map.mp hx; exact ⟨d, rfl⟩
          · cases hx
        have h2 : ∃ d, x = j :: d := by
          split at hy
          · split at hy
            · cases hy
            · obtain ⟨d, _, rfl⟩ := List.mem_map.mp hy; exact ⟨d, rfl⟩
          · cases hy
        obtain ⟨d, rfl⟩ := h1
        obtain ⟨d', e⟩ := h2
        exact hij (List.cons.inj e).1
theorem one_of_nodup {α : Type} {F : List α} (nd : F.Nodup) (h : ∀ x ∈ F, ∀ y ∈ F, x = y) (hne : F ≠ []) : ∃ d, F = [d] := by
  match F, nd, h, hne with
  | [d], _, _, _ => exact ⟨d, rfl⟩
  | x :: y :: F, nd, h, _ =>
    have := h x (.head _) y (.tail _ (.head _))
    subst this
    simp at nd
end G

namespace G
open PySem PySem.Spec L2 Pv
section
variable {w : Web} (W : RdsOk w) {f : Nat → Nat} {e : Nat} {r : Rd} (hr : w.rs[e]? = some r)
include W hr
theorem comp_of (l : List Nat) (x : Nat) : ∃ S : Nat → Bool, ∀ y, S y = true ↔ Jn w l x y := by
  classical
  exact ⟨fun y => decide (Jn w l x y), fun y => by simp⟩
theorem used_iff {l : List Nat} (hl : ∀ i, i ∈ l ↔ i < w.rs.length ∧ f i < f e) (hex : ∃ T, Lst w f T) : (∃ T, Lst w f T ∧ e ∈ T) ↔ ¬ Jn w l r.a r.b := by
  have hel := (List.getElem?_eq_some_iff.mp hr).1
  constructor
  · rintro ⟨T, t, he⟩ j
    have cut := t.1.cut W he (nb_ends hr)
    obtain ⟨S, hS⟩ := comp_of W hr (wo T e) r.a
    have hne : S r.a ≠ S r.b := fun z => by
      have h1 : S r.a = true := (hS _).mpr .refl
      rw [h1] at z
      exact cut ((hS _).mp z.symm)
    obtain ⟨k, hk, u, v, hu, hv⟩ := jn_cross S j hne
    obtain ⟨k1, k2⟩ := (hl k).mp hk
    have two : ∀ p q, nb w k p = some q → S p = true → S q = false → ¬ Jn w (wo T e) p q := fun p q hpq h1 h2 z => by
      have : S q = true := (hS _).mpr (((hS _).mp h1).trans z)
      rw [this] at h2; cases h2
    have go : ∀ p q, nb w k p = some q → S p = true → S q = false → False := fun p q hpq h1 h2 => by
      have u := t.1.exch W he hpq k1 (two p q hpq h1 h2)
      have a := t.2 _ u
      have b := tot_wo (f := f) t.1.nd he
      have d : tot f (k :: wo T e) = f k + tot f (wo T e) := by simp [tot]
      omega
    cases h1 : S u with
    | true =>
      have h2 : S v = false := by cases h : S v with
        | true => rw [h1, h] at hv; exact absurd rfl hv
        | false => rfl
      exact go u v hu h1 h2
    | false =>
      have h2 : S v = true := by cases h : S v with
        | true => rfl
        | false => rw [h1, h] at hv; exact absurd rfl hv
      exact go v u (nb_symm W hu) h2 h1
  · intro nj
    obtain ⟨T, t⟩ := hex
    obtain ⟨S, hS⟩ := comp_of W hr l r.a
    have h1 : S r.a = true := (hS _).mpr .refl
    have h2 : S r.b = false := by rw [Bool.eq_false_iff]; exact fun z => nj ((hS _).mp z)
    obtain ⟨T', t', hT'⟩ := t.add W (Q := []) (by simp) S (by simp) (nb_ends hr) hel h1 h2 fun i hi ⟨u, v, hu, hv⟩ => by
      by_cases hlt : f i < f e
      · have hin := (hl i).mpr ⟨hi, hlt⟩
        exfalso
        refine hv ?_
        rw [Bool.eq_iff_iff, hS, hS]
        exact ⟨fun z => .step z hin hu, fun z => .step z hin (nb_symm W hu)⟩
      · omega
    exact ⟨T', t', hT' e (.head _)⟩
theorem needed_iff {l : List Nat} (hl : ∀ i, i ∈ l ↔ i < w.rs.length ∧ f i ≤ f e ∧ i ≠ e) (hex : ∃ T, Lst w f T) : (∀ T, Lst w f T → e ∈ T) ↔ ¬ Jn w l r.a r.b := by
  have hel := (List.getElem?_eq_some_iff.mp hr).1
  have lt := W r (List.mem_of_getElem? hr)
  constructor
  · intro hall j
    obtain ⟨T, t⟩ := hex
    have he := hall T t
    have cut := t.1.cut W he (nb_ends hr)
    obtain ⟨S, hS⟩ := comp_of W hr (wo T e) r.a
    have hne : S r.a ≠ S r.b := fun z => by
      have h1 : S r.a = true := (hS _).mpr .refl
      rw [h1] at z
      exact cut ((hS _).mp z.symm)
    obtain ⟨k, hk, u, v, hu, hv⟩ := jn_cross S j hne
    obtain ⟨k1, k2, k3⟩ := (hl k).mp hk
    have go : ∀ p q, nb w k p = some q → S p = true → S q = false → False := fun p q hpq h1 h2 => by
      have nj : ¬ Jn w (wo T e) p q := fun z => by
        have : S q = true := (hS _).mpr (((hS _).mp h1).trans z)
        rw [this] at h2; cases h2
      have u := t.1.exch W he hpq k1 nj
      have b := tot_wo (f := f) t.1.nd he
      have d : tot f (k :: wo T e) = f k + tot f (wo T e) := by simp [tot]
      have least : Lst w f (k :: wo T e) := ⟨u, fun U hU => by
        have := t.2 U hU
        omega⟩
      rcases List.mem_cons.mp (hall _ least) with z | z
      · exact k3 z.symm
      · exact (wo_mem.mp z).2 rfl
    cases h1 : S u with
    | true =>
      have h2 : S v = false := by cases h : S v with
        | true => rw [h1, h] at hv; exact absurd rfl hv
        | false => rfl
      exact go u v hu h1 h2
    | false =>
      have h2 : S v = true := by cases h : S v with
        | true => rfl
        | false => rw [h1, h] at hv; exact absurd rfl hv
      exact go v u (nb_symm W hu) h2 h1
  · intro nj T t
    refine Classical.byContradiction fun he => ?_
    obtain ⟨S, hS⟩ := comp_of W hr l r.a
    have h1 : S r.a = true := (hS _).mpr .refl
    have h2 : S r.b = false := by rw [Bool.eq_false_iff]; exact fun z => nj ((hS _).mp z)
    obtain ⟨c, hc, ⟨u, v, hu, hv⟩, hnj⟩ := t.1.pass W (p := r.a) (q := r.b) (by omega) (by omega) S h1 h2
    have hce : c ≠ e := fun z => he (z ▸ hc)
    have hlt : f e < f c := by
      by_cases h : f c ≤ f e
      · have hin := (hl c).mpr ⟨t.1.lt c hc, h, hce⟩
        exfalso
        refine hv ?_
        rw [Bool.eq_iff_iff, hS, hS]
        exact ⟨fun z => .step z hin hu, fun z => .step z hin (nb_symm W hu)⟩
      · omega
    have x := t.1.exch W hc (nb_ends hr) hel hnj
    have a := t.2 _ x
    have b := tot_wo (f := f) t.1.nd hc
    have d : tot f (e :: wo T c) = f e + tot f (wo T c) := by simp [tot]
    omega
end
/-- the program's used and needed roads -/
theorem p_used_needed {w : Web} (Wo : WebOk w 6 10) {L : List (List Nat)} (hL : TS w L) (lL : L.length ≤ 1000000) {ls : List Nat} (ll : ls.length = w.rs.length) : ∃ T0, Lst w (lf ls) T0 ∧ ∃ M, p_least_trees w ls = some M ∧ M.length ≤ 1000000 ∧ (∀ T, T ∈ M ↔ T.Pairwise (· < ·) ∧ Lst w (lf ls) T) ∧ isort T0 ∈ M := by
  obtain ⟨T0, t0, i0, e⟩ := p_least_trees_eq Wo hL ll
  have hm : ∀ T, T ∈ L.filter (fun T => decide (tot (lf ls) T = tot (lf ls) T0)) ↔ T.Pairwise (· < ·) ∧ Lst w (lf ls) T := fun T => by
    rw [List.mem_filter, decide_eq_true_eq, hL.mem]
    constructor
    · rintro ⟨⟨a, b⟩, c⟩
      exact ⟨a, b, fun U u => by rw [c]; exact t0.2 U u⟩
    · rintro ⟨a, b⟩
      exact ⟨⟨a, b.1⟩, Nat.le_antisymm (b.2 T0 t0.1) (t0.2 T b.1)⟩
  refine ⟨T0, t0, _, e, Nat.le_trans (List.length_filter_le _ _) lL, hm, (hm _).mpr ⟨isort_lt t0.1.nd, t0.perm (isort_perm T0).symm⟩⟩
end G

namespace G
open PySem PySem.Spec L2 Pv
def addF (p : List Nat × List Nat) (t : Nat) : List Nat × List Nat := if t ∈ p.1 then p else (p.1 ++ [t], p.2 ++ [t])
def addR (p : List Nat × List Nat) (h : Nat) (r : Rd) : List Nat × List Nat := if h = r.a ∨ h = r.b then addF (addF p r.a) r.b else p
/-- found and waiting, between two roads -/
structure RcOk (w : Web) (ok : List Nat) (x : Nat) (p : List Nat × List Nat) : Prop where
  f0 : x ∈ p.1
  nd : p.1.Nodup
  nq : p.2.Nodup
  lt : ∀ y ∈ p.1, y < w.n
  jn : ∀ y ∈ p.1, Jn w ok x y
  qf : ∀ y ∈ p.2, y ∈ p.1
theorem addF_ok {w : Web} {ok : List Nat} {x t : Nat} {p : List Nat × List Nat} (R : RcOk w ok x p) (h1 : t < w.n) (h2 : Jn w ok x t) : RcOk w ok x (addF p t) := by
  unfold addF
  split
  · exact R
  · rename_i ht
    have nin : ∀ (l : List Nat), t ∉ l → l.Nodup → (l ++ [t]).Nodup := fun l h nd => List.nodup_append.mpr ⟨nd, by simp, fun a ha b hb e => by simp at hb; subst hb; subst e; exact h ha⟩
    refine ⟨List.mem_append_left _ R.f0, nin _ ht R.nd, nin _ (fun h => ht (R.qf _ h)) R.nq, fun y hy => ?_, fun y hy => ?_, fun y hy => ?_⟩
    · rcases List.mem_append.mp hy with hy | hy
      · exact R.lt y hy
      · simp at hy; subst hy; exact h1
    · rcases List.mem_append.mp hy with hy | hy
      · exact R.jn y hy
      · simp at hy; subst hy; exact h2
    · rcases List.mem_append.mp hy with hy | hy
      · exact List.mem_append_left _ (R.qf y hy)
      · exact List.mem_append_right _ hy
theorem addF_sub {p : List Nat × List Nat} {t : Nat} : (∀ y ∈ p.1, y ∈ (addF p t).1) ∧ (∀ y ∈ p.2, y ∈ (addF p t).2) ∧ t ∈ (addF p t).1 ∧ ∀ y ∈ (addF p t).1, y ∉ p.1 → y ∈ (addF p t).2 := by
  unfold addF
  split
  · rename_i h
    exact ⟨fun y h => h, fun y h => h, h, fun y h1 h2 => absurd h1 h2⟩
  · refine ⟨fun y h => List.mem_append_left _ h, fun y h => List.mem_append_left _ h, by simp, fun y h1 h2 => ?_⟩
    rcases List.mem_append.mp h1 with h1 | h1
    · exact absurd h1 h2
    · exact List.mem_append_right _ h1
theorem addF_cnt {p : List Nat × List Nat} {t : Nat} : (addF p t).2.length + p.1.length = (addF p t).1.length + p.2.length := by
  unfold addF
  split
  · omega
  · simp; omega
/-- what one step may do -/
structure Grw (p q : List Nat × List Nat) : Prop where
  f : ∀ y ∈ p.1, y ∈ q.1
  w : ∀ y ∈ p.2, y ∈ q.2
  new : ∀ y ∈ q.1, y ∉ p.1 → y ∈ q.2
  cnt : q.2.length + p.1.length = q.1.length + p.2.length
  len : p.1.length ≤ q.1.length
theorem Grw.refl (p : List Nat × List Nat) : Grw p p := ⟨fun _ h => h, fun _ h => h, fun _ a b => absurd a b, by omega, Nat.le_refl _⟩
theorem Grw.trans {a b c : List Nat × List Nat} (h1 : Grw a b) (h2 : Grw b c) : Grw a c :=
  ⟨fun y h => h2.f y (h1.f y h), fun y h => h2.w y (h1.w y h), fun y hc ha => by
    by_cases hb : y ∈ b.1
    · exact h2.w y (h1.new y hb ha)
    · exact h2.new y hc hb, by have := h1.cnt; have := h2.cnt; omega, Nat.le_trans h1.len h2.len⟩
theorem addF_grw (p : List Nat × List Nat) (t : Nat) : Grw p (addF p t) := ⟨addF_sub.1, addF_sub.2.1, addF_sub.2.2.2, addF_cnt, by unfold addF; split <;> simp⟩
theorem addR_ok {w : Web} {ok : List Nat} {x h i : Nat} {r : Rd} {p : List Nat × List Nat} (W : RdsOk w) (R : RcOk w ok x p) (hh : h ∈ p.1) (hi : i ∈ ok) (hr : w.rs[i]? = some r) :
    RcOk w ok x (addR p h r) ∧ Grw p (addR p h r) ∧ ∀ z, nb w i h = some z → z ∈ (addR p h r).1 := by
  have lt := W r (List.mem_of_getElem? hr)
  have nbe : nb w i h = bey r h := by unfold nb; rw [hr]; rfl
  unfold addR
  by_cases hm : h = r.a ∨ h = r.b
  · rw [if_pos hm]
    have ja : Jn w ok x r.a := by
      rcases hm with e | e
      · rw [← e]; exact R.jn h hh
      · exact .step (R.jn h hh) hi (by rw [nbe]; unfold bey; rw [if_neg (by omega), if_pos e])
    have jb : Jn w ok x r.b := by
      rcases hm with e | e
      · exact .step (R.jn h hh) hi (by rw [nbe]; unfold bey; rw [if_pos e])
      · rw [← e]; exact R.jn h hh
    have R1 := addF_ok R (t := r.a) (by omega) ja
    have R2 := addF_ok R1 (t := r.b) lt.2 jb
    refine ⟨R2, (addF_grw p r.a).trans (addF_grw _ r.b), fun z hz => ?_⟩
    rw [nbe] at hz
    unfold bey at hz
    split at hz
    · cases hz; exact addF_sub.2.2.1
    · split at hz
      · cases hz; exact addF_sub.1 _ addF_sub.2.2.1
      · cases hz
  · rw [if_neg hm]
    refine ⟨R, Grw.refl p, fun z hz => ?_⟩
    rw [nbe] at hz
    unfold bey at hz
    rw [if_neg (fun e => hm (.inl e)), if_neg (fun e => hm (.inr e))] at hz
    cases hz
/-- all roads, at one house -/
def rds (w : Web) (h : Nat) (l : List Nat) (p : List Nat × List Nat) : List Nat × List Nat := l.foldl (fun p i => match w.rs[i]? with
  | some r => addR p h r
  | none => p) p
theorem rds_ok {w : Web} {ok : List Nat} {x h : Nat} (W : RdsOk w) : ∀ (l : List Nat) {p : List Nat × List Nat}, (∀ i ∈ l, i ∈ ok) → RcOk w ok x p → h ∈ p.1 →
    RcOk w ok x (rds w h l p) ∧ Grw p (rds w h l p) ∧ ∀ i ∈ l, ∀ z, nb w i h = some z → z ∈ (rds w h l p).1
  | [], p, _, R, _ => ⟨R, Grw.refl p, fun i hi => by simp at hi⟩
  | i :: l, p, hl, R, hh => by
    cases hr : w.rs[i]? with
    | none =>
      have e : rds w h (i :: l) p = rds w h l p := by simp [rds, hr]
      rw [e]
      obtain ⟨a, b, c⟩ := rds_ok W l (fun j hj => hl j (.tail _ hj)) R hh
      refine ⟨a, b, fun j hj z hz => ?_⟩
      rcases List.mem_cons.mp hj with rfl | hj
      · unfold nb at hz; rw [hr] at hz; cases hz
      · exact c j hj z hz
    | some r =>
      have e : rds w h (i :: l) p = rds w h l (addR p h r) := by simp [rds, hr]
      rw [e]
      obtain ⟨a1, b1, c1⟩ := addR_ok W R hh (hl i (.head _)) hr
      obtain ⟨a, b, c⟩ := rds_ok W l (fun j hj => hl j (.tail _ hj)) a1 (b1.f h hh)
      refine ⟨a, b1.trans b, fun j hj z hz => ?_⟩
      rcases List.mem_cons.mp hj with rfl | hj
      · exact b.f z (c1 z hz)
      · exact c j hj z hz
end G

namespace G
open PySem PySem.Spec L2 Pv
theorem p_reach_eq {w : Web} {l : List Nat} {x : Nat} (W : RdsOk w) (hn : w.n ≤ 200) (hx : x < w.n) (hl : ∀ i ∈ l, i < w.rs.length) : ∃ F, p__law_reach w l x = some F ∧ ∀ y, y ∈ F ↔ Jn w l x y := by
  have one : ∀ (h : Nat) (a b : Nat) (p : List Nat × List Nat), p.1.length < 1000 → p.2.length < 1000 → ∀ t, (if ((decide (h ∈ ([a, b] : List Nat))) && (decide (t ∉ p.1))) = true then
          (appP p.1 t).bind fun found_13 =>
          (appP p.2 t).bind fun waiting_14 =>
          some (found_13, waiting_14)
        else
          some (p.1, p.2)) = some (if h = a ∨ h = b then addF p t else p) := fun h a b p h1 h2 t => by
    rw [appP_eq (by omega), appP_eq (by omega)]
    unfold addF
    by_cases hm : h = a ∨ h = b
    · by_cases ht : t ∈ p.1
      · simp [hm, ht]
      · simp [hm, ht]
    · simp [hm]
  have road : ∀ (h : Nat) (r : Rd) (p : List Nat × List Nat), p.1.length < 998 → p.2.length < 998 → forP (fun (x_11 : Nat) (v_9 : (List Nat) × (List Nat)) =>
        (if ((decide (h ∈ ([r.a, r.b] : List Nat))) && (decide (x_11 ∉ v_9.1))) = true then
          (appP v_9.1 x_11).bind fun found_13 =>
          (appP v_9.2 x_11).bind fun waiting_14 =>
          some (found_13, waiting_14)
        else
          some (v_9.1, v_9.2))) ([r.a, r.b] : List Nat) (p.1, p.2) = some (addR p h r) := fun h r p h1 h2 => by
    have l1 : (addF p r.a).1.length ≤ p.1.length + 1 ∧ (addF p r.a).2.length ≤ p.2.length + 1 := by
      unfold addF; split <;> simp
    have l2 : (if h = r.a ∨ h = r.b then addF p r.a else p).1.length < 1000 ∧ (if h = r.a ∨ h = r.b then addF p r.a else p).2.length < 1000 := by
      split <;> omega
    have o1 := one h r.a r.b p (by omega) (by omega) r.a
    have o2 := one h r.a r.b _ l2.1 l2.2 r.b
    unfold forP
    show (if ((decide (h ∈ ([r.a, r.b] : List Nat))) && (decide (r.a ∉ p.1))) = true then (appP p.1 r.a).bind fun found_13 => (appP p.2 r.a).bind fun waiting_14 => some (found_13, waiting_14) else some (p.1, p.2)).bind _ = _
    rw [o1, Option.bind_some]
    unfold forP
    rw [o2, Option.bind_some]
    unfold forP addR
    split <;> rfl
  have rdsE : ∀ (h : Nat) (ls : List Nat) (p : List Nat × List Nat), (∀ i ∈ ls, i ∈ l) → RcOk w l x p → h ∈ p.1 → forP (fun (x_7 : Nat) (v_5 : (List Nat) × (List Nat)) =>
      (w.rs[x_7]?).bind fun it_8 =>
      (forP (fun (x_11 : Nat) (v_9 : (List Nat) × (List Nat)) =>
        (if ((decide (h ∈ ([it_8.a, it_8.b] : List Nat))) && (decide (x_11 ∉ v_9.1))) = true then
          (appP v_9.1 x_11).bind fun found_13 =>
          (appP v_9.2 x_11).bind fun waiting_14 =>
          some (found_13, waiting_14)
        else
          some (v_9.1, v_9.2))) ([it_8.a, it_8.b] : List Nat) (v_5.1, v_5.2)).bind fun (w_15 : (List Nat) × (List Nat)) =>
      some (w_15.1, w_15.2)) ls p = some (rds w h ls p) := by
    intro h ls
    induction ls with
    | nil => intro p _ _ _; rfl
    | cons i ls ih =>
      intro p hs R hh
      obtain ⟨r, hr⟩ := get_lt (hl i (hs i (.head _)))
      obtain ⟨R', gr, _⟩ := addR_ok W R hh (hs i (.head _)) hr
      have n1 := nodup_len _ R.nd R.lt
      have n2 : p.2.length ≤ w.n := nodup_len _ R.nq fun y hy => R.lt y (R.qf y hy)
      unfold forP
      rw [hr, Option.bind_some, road h r p (by omega) (by omega), Option.bind_some, Option.bind_some]
      have := ih (addR p h r) (fun j hj => hs j (.tail _ hj)) R' (gr.f h hh)
      show forP _ ls (addR p h r) = _
      rw [this]
      simp [rds, hr]
  obtain ⟨v, m, e, ⟨R, hc, _⟩, hf⟩ := whP_meas (c := fun (v_1 : (List Nat) × (List Nat)) => some (decide (v_1.2 ≠ ([] : List Nat)))) (b := fun (v_1 : (List Nat) × (List Nat)) =>
    (popP v_1.2).bind fun waiting_4 =>
    (forP (fun (x_7 : Nat) (v_5 : (List Nat) × (List Nat)) =>
      (w.rs[x_7]?).bind fun it_8 =>
      (forP (fun (x_11 : Nat) (v_9 : (List Nat) × (List Nat)) =>
        (if ((decide (waiting_4.1 ∈ ([it_8.a, it_8.b] : List Nat))) && (decide (x_11 ∉ v_9.1))) = true then
          (appP v_9.1 x_11).bind fun found_13 =>
          (appP v_9.2 x_11).bind fun waiting_14 =>
          some (found_13, waiting_14)
        else
          some (v_9.1, v_9.2))) ([it_8.a, it_8.b] : List Nat) (v_5.1, v_5.2)).bind fun (w_15 : (List Nat) × (List Nat)) =>
      some (w_15.1, w_15.2)) l (v_1.1, waiting_4.2)).bind fun (w_17 : (List Nat) × (List Nat)) =>
    some (w_17.1, w_17.2))
    (fun m v => RcOk w l x v ∧ (∀ y ∈ v.1, y ∉ v.2 → ∀ i ∈ l, ∀ z, nb w i y = some z → z ∈ v.1) ∧ m = 2 * (w.n - v.1.length) + v.2.length) (fun m v hI => ⟨_, rfl, fun ht => by
      obtain ⟨R, hc, hm⟩ := hI
      have hne : v.2 ≠ [] := by simpa using ht
      obtain ⟨q, h, hq⟩ : ∃ q h, v.2 = q ++ [h] := ⟨v.2.dropLast, v.2.getLast hne, (List.dropLast_concat_getLast hne).symm⟩
      have hp : popP v.2 = some (h, q) := by
        unfold popP; rw [hq]; simp
      have nq : (q ++ [h]).Nodup := hq ▸ R.nq
      have hh : h ∈ v.1 := R.qf h (by rw [hq]; simp)
      have R' : RcOk w l x (v.1, q) := ⟨R.f0, R.nd, (List.nodup_append.mp nq).1, R.lt, R.jn, fun y hy => R.qf y (by rw [hq]; exact List.mem_append_left _ hy)⟩
      obtain ⟨R2, gr, nw⟩ := rds_ok W l (fun i hi => hi) R' hh
      have n1 := nodup_len _ R2.nd R2.lt
      have n2 := nodup_len _ R.nd R.lt
      refine ⟨rds w h l (v.1, q), _, by rw [hp, Option.bind_some, rdsE h l (v.1, q) (fun i hi => hi) R' hh]; rfl, ?_, R2, fun y hy hyq i hi z hz => ?_, rfl⟩
      · have c := gr.cnt
        have c2 := gr.len
        simp only at c c2
        rw [hm, hq, List.length_append, List.length_singleton]
        omega
      · by_cases hyv : y ∈ v.1
        · by_cases e : y = h
          · exact nw i hi z (e ▸ hz)
          · refine gr.f z (hc y hyv (fun hy2 => ?_) i hi z hz)
            rw [hq] at hy2
            rcases List.mem_append.mp hy2 with h1 | h1
            · exact hyq (gr.w y h1)
            · exact e (List.mem_singleton.mp h1)
        · exact absurd (gr.new y hy hyv) hyq⟩) 1000 (2 * (w.n - 1) + 1) ([x], [x]) (by omega) ⟨⟨by simp, by simp, by simp, by simp; omega, fun y hy => by simp at hy; subst hy; exact .refl, fun y hy => hy⟩, fun y h1 h2 => absurd h1 h2, rfl⟩
  have hv : v.2 = [] := by simpa using hf
  refine ⟨isort v.1, ?_, fun y => ?_⟩
  · unfold p__law_reach
    have := nodup_len _ R.nd R.lt
    rw [e, Option.bind_some, sortP_nD (by omega)]; rfl
  · rw [isort_mem]
    exact ⟨R.jn y, jn_closed (F := (· ∈ v.1)) R.f0 fun y hy => hc y hy (by rw [hv]; simp)⟩
theorem p_apart_eq {w : Web} {l : List Nat} {road : Nat} {r : Rd} (W : RdsOk w) (hn : w.n ≤ 200) (hr : w.rs[road]? = some r) (hll : l.length ≤ 1000) (hl : ∀ i ∈ l, i < w.rs.length) : ∃ b, p__law_is_apart w l road = some b ∧ (b = true ↔ ¬ Jn w (oks l road) r.a r.b) := by
  have Wr := W r (List.mem_of_getElem? hr)
  obtain ⟨F, e, hF⟩ := p_reach_eq (l := oks l road) (x := r.a) W hn (by omega) fun i hi => hl i (oks_mem.mp hi).1
  refine ⟨decide (r.b ∉ F), ?_, ?_⟩
  · unfold p__law_is_apart
    rw [hr, Option.bind_some, lcT_filter (by omega), Option.bind_some]
    show (p__law_reach w (oks l road) r.a).bind _ = _
    rw [e]; rfl
  · rw [← hF]; simp
theorem jn_same2 {w : Web} {l k : List Nat} (h : ∀ i, i ∈ l ↔ i ∈ k) {x y : Nat} : Jn w l x y ↔ Jn w k x y := ⟨Jn.mono fun i hi => (h i).mp hi, Jn.mono fun i hi => (h i).mpr hi⟩
end G

namespace G
open PySem PySem.Spec L2 Pv
/-- the shorter roads -/
def shl (ls : List Nat) (x : Nat) : List Nat := ((numd ls).filter fun p => decide (p.2 < x)).map (·.1)
theorem shl_mem {ls : List Nat} {x i : Nat} : i ∈ shl ls x ↔ ∃ y, ls[i]? = some y ∧ y < x := by
  unfold shl
  rw [List.mem_map]
  constructor
  · rintro ⟨p, hp, rfl⟩
    rw [List.mem_filter] at hp
    obtain ⟨j, hj⟩ := List.getElem?_of_mem hp.1
    rw [numd_get] at hj
    obtain ⟨y, h1, h2⟩ := map_some_iff hj
    subst h2
    exact ⟨y, h1, by simpa using hp.2⟩
  · rintro ⟨y, h1, h2⟩
    refine ⟨(i, y), ?_, rfl⟩
    rw [List.mem_filter]
    refine ⟨List.mem_of_getElem? (i := i) (by rw [numd_get, h1]; rfl), by simpa using h2⟩
theorem shl_len (ls : List Nat) (x : Nat) : (shl ls x).length ≤ ls.length := by
  unfold shl
  rw [List.length_map]
  have := List.length_filter_le (fun p : Nat × Nat => decide (p.2 < x)) (numd ls)
  rwa [numd_len] at this
theorem p_is_used_eq {w : Web} {ls : List Nat} {road x : Nat} {r : Rd} (W : RdsOk w) (hn : w.n ≤ 200) (hm : w.rs.length ≤ 1000) (hr : w.rs[road]? = some r) (hll : ls.length = w.rs.length) (hx : ls[road]? = some x) : ∃ b, p__law_is_used w ls road = some b ∧ (b = true ↔ ¬ Jn w (oks (shl ls x) road) r.a r.b) := by
  obtain ⟨b, e, hb⟩ := p_apart_eq (l := shl ls x) W hn hr (by have := shl_len ls x; omega) fun i hi => by
    obtain ⟨y, h1, _⟩ := shl_mem.mp hi
    have := (List.getElem?_eq_some_iff.mp h1).1
    omega
  refine ⟨b, ?_, hb⟩
  unfold p__law_is_used
  rw [lcP_eq (fun p : Nat × Nat => decide (p.2 < x)) (fun p : Nat × Nat => p.1) (by rw [numd_len]; omega) (fun p hp => by rw [hx]; rfl) (fun p hp _ => rfl), Option.bind_some]
  show (p__law_is_apart w (shl ls x) road).bind _ = _
  rw [e]; rfl
/-- the not longer roads -/
def sle (ls : List Nat) (x : Nat) : List Nat := ((numd ls).filter fun p => decide (p.2 ≤ x)).map (·.1)
theorem sle_mem {ls : List Nat} {x i : Nat} : i ∈ sle ls x ↔ ∃ y, ls[i]? = some y ∧ y ≤ x := by
  unfold sle
  rw [List.mem_map]
  constructor
  · rintro ⟨p, hp, rfl⟩
    rw [List.mem_filter] at hp
    obtain ⟨j, hj⟩ := List.getElem?_of_mem hp.1
    rw [numd_get] at hj
    obtain ⟨y, h1, h2⟩ := map_some_iff hj
    subst h2
    exact ⟨y, h1, by simpa using hp.2⟩
  · rintro ⟨y, h1, h2⟩
    refine ⟨(i, y), ?_, rfl⟩
    rw [List.mem_filter]
    refine ⟨List.mem_of_getElem? (i := i) (by rw [numd_get, h1]; rfl), by simpa using h2⟩
theorem sle_len (ls : List Nat) (x : Nat) : (sle ls x).length ≤ ls.length := by
  unfold sle
  rw [List.length_map]
  have := List.length_filter_le (fun p : Nat × Nat => decide (p.2 ≤ x)) (numd ls)
  rwa [numd_len] at this
theorem p_is_needed_eq {w : Web} {ls : List Nat} {road x : Nat} {r : Rd} (W : RdsOk w) (hn : w.n ≤ 200) (hm : w.rs.length ≤ 1000) (hr : w.rs[road]? = some r) (hll : ls.length = w.rs.length) (hx : ls[road]? = some x) : ∃ b, p__law_is_needed w ls road = some b ∧ (b = true ↔ ¬ Jn w (oks (sle ls x) road) r.a r.b) := by
  obtain ⟨b, e, hb⟩ := p_apart_eq (l := sle ls x) W hn hr (by have := sle_len ls x; omega) fun i hi => by
    obtain ⟨y, h1, _⟩ := sle_mem.mp hi
    have := (List.getElem?_eq_some_iff.mp h1).1
    omega
  refine ⟨b, ?_, hb⟩
  unfold p__law_is_needed
  rw [lcP_eq (fun p : Nat × Nat => decide (p.2 ≤ x)) (fun p : Nat × Nat => p.1) (by rw [numd_len]; omega) (fun p hp => by rw [hx]; rfl) (fun p hp _ => rfl), Option.bind_some]
  show (p__law_is_apart w (sle ls x) road).bind _ = _
  rw [e]; rfl
end G

namespace G
open PySem PySem.Spec L2 Pv
/-- the pen: n takes at most were made -/
structure PenOk (n : Nat) (c : Cell) : Prop where
  ex : ∃ (cs : List Int) (at_ : Nat) (cur : Int), c = .d (.lst [.lst (cs.map .int), .int at_, .int cur]) ∧ at_ ≤ n ∧ 0 ≤ cur
theorem PenOk.mono {n m : Nat} {c : Cell} (h : PenOk n c) (hm : n ≤ m) : PenOk m c := by
  obtain ⟨cs, a, cur, h1, h2, h3⟩ := h.ex
  exact ⟨cs, a, cur, h1, by omega, h3⟩
theorem smallI_of {i : Int} (h1 : -(2 ^ 64) < i) (h2 : i < 2 ^ 64) : smallI i = true := by simp [smallI]; omega
def primesL : List Int := [2147483629, 2147483587, 2147483579, 2147483563, 2147483549, 2147483543, 2147483497, 2147483489, 2147483477, 2147483423, 2147483399, 2147483353, 2147483323]
theorem prime_at (i : Int) : ∃ p : Int, dIx (.lst [.int 2147483629, .int 2147483587, .int 2147483579, .int 2147483563, .int 2147483549, .int 2147483543, .int 2147483497, .int 2147483489, .int 2147483477, .int 2147483423, .int 2147483399, .int 2147483353, .int 2147483323]) (.int (i % 13)) = some (.fro (.int p)) ∧ 0 < p ∧ p < 2147483648 := by
  have h1 : 0 ≤ i % 13 := Int.emod_nonneg _ (by decide)
  have h2 : i % 13 < 13 := Int.emod_lt_of_pos _ (by decide)
  have h3 : i % 13 = ((i % 13).toNat : Int) := by omega
  generalize hk : (i % 13).toNat = k at h3
  have h4 : k < 13 := by omega
  rw [h3]
  match k, h4 with
  | 0, _ => exact ⟨_, rfl, by decide, by decide⟩
  | 1, _ => exact ⟨_, rfl, by decide, by decide⟩
  | 2, _ => exact ⟨_, rfl, by decide, by decide⟩
  | 3, _ => exact ⟨_, rfl, by decide, by decide⟩
  | 4, _ => exact ⟨_, rfl, by decide, by decide⟩
  | 5, _ => exact ⟨_, rfl, by decide, by decide⟩
  | 6, _ => exact ⟨_, rfl, by decide, by decide⟩
  | 7, _ => exact ⟨_, rfl, by decide, by decide⟩
  | 8, _ => exact ⟨_, rfl, by decide, by decide⟩
  | 9, _ => exact ⟨_, rfl, by decide, by decide⟩
  | 10, _ => exact ⟨_, rfl, by decide, by decide⟩
  | 11, _ => exact ⟨_, rfl, by decide, by decide⟩
  | 12, _ => exact ⟨_, rfl, by decide, by decide⟩
theorem mul_bd {a b A B : Int} (h0 : 0 ≤ a) (h1 : a ≤ A) (k0 : 0 ≤ b) (k1 : b ≤ B) : 0 ≤ a * b ∧ a * b ≤ A * B :=
  ⟨Int.mul_nonneg h0 k0, Int.le_trans (Int.mul_le_mul_of_nonneg_right h1 k0) (Int.mul_le_mul_of_nonneg_left k1 (by omega))⟩
theorem v_spread0 {cell at_ p1 p2 p3 one two three : Int} {st : List Cell} (hc : ¬ (1000000000000000000 : Int) ≤ cell)
    (h1 : dIx (.lst [.int 2147483629, .int 2147483587, .int 2147483579, .int 2147483563, .int 2147483549, .int 2147483543, .int 2147483497, .int 2147483489, .int 2147483477, .int 2147483423, .int 2147483399, .int 2147483353, .int 2147483323]) (.int (at_ % 13)) = some (.fro (.int p1)))
    (h2 : dIx (.lst [.int 2147483629, .int 2147483587, .int 2147483579, .int 2147483563, .int 2147483549, .int 2147483543, .int 2147483497, .int 2147483489, .int 2147483477, .int 2147483423, .int 2147483399, .int 2147483353, .int 2147483323]) (.int ((at_ + 5) % 13)) = some (.fro (.int p2)))
    (h3 : dIx (.lst [.int 2147483629, .int 2147483587, .int 2147483579, .int 2147483563, .int 2147483549, .int 2147483543, .int 2147483497, .int 2147483489, .int 2147483477, .int 2147483423, .int 2147483399, .int 2147483353, .int 2147483323]) (.int ((at_ + 7) % 13)) = some (.fro (.int p3)))
    (a1 : 0 < p1) (a2 : 0 < p2) (a3 : 0 < p3) (k1 : smallI (cell % 1000000007) = true) (k3 : smallI (cell % 1000000007 * (2 * at_ + 69069) + at_ * 40503 + 977) = true) (ho : (cell % 1000000007 * (2 * at_ + 69069) + at_ * 40503 + 977) ^ 3 % p1 = one)
    (k4 : smallI one = true) (k5 : smallI (one * (at_ + 3) + cell % 65537 + 5) = true) (ht : (one * (at_ + 3) + cell % 65537 + 5) ^ 5 % p2 = two) (k6 : smallI (two + one % 1009 + at_) = true) (hh : (two + one % 1009 + at_) ^ 3 % p3 = three) :
    m__law_spread [.int cell, .int at_] st = some (.fro (.int ((one * 2147483647 + two) * 2147483647 + three)), st) := by
  have e10 : smallI 10 = true := by decide
  have s2 : smallI 2 = true := by decide
  have k2 : smallI 40503 = true := by decide
  have k7 : smallI 2147483647 = true := by decide
  simp [m__law_spread, ev__law_spread, dAdd_lst, e10, hc, h1, h2, h3, s2, k1, k2, k3, k4, k5, k6, k7, ho, ht, hh, a1, a2, a3]
theorem v_spread (cell : Int) (at_ : Nat) (ha : at_ ≤ 1000000) (st : List Cell) : ∃ r : Int, 0 ≤ r ∧ m__law_spread [.int cell, .int at_] st = some (.fro (.int r), st) := by
  have e10 : smallI 10 = true := by decide
  by_cases hc : (1000000000000000000 : Int) ≤ cell
  · exact ⟨cell, by omega, by simp [m__law_spread, ev__law_spread, e10, hc]⟩
  · obtain ⟨p1, h1, a1, b1⟩ := prime_at at_
    obtain ⟨p2, h2, a2, b2⟩ := prime_at (at_ + 5)
    obtain ⟨p3, h3, a3, b3⟩ := prime_at (at_ + 7)
    have c0 := Int.emod_nonneg cell (b := 1000000007) (by decide)
    have c1 := Int.emod_lt_of_pos cell (b := 1000000007) (by decide)
    have w0 := Int.emod_nonneg cell (b := 65537) (by decide)
    have w1 := Int.emod_lt_of_pos cell (b := 65537) (by decide)
    obtain ⟨d0, d1⟩ := mul_bd (b := 2 * (at_ : Int) + 69069) (A := 1000000007) (B := 2069069) c0 (by omega) (by omega) (by omega)
    have k1 : smallI (cell % 1000000007) = true := smallI_of (by omega) (by omega)
    have k3 : smallI (cell % 1000000007 * (2 * (at_ : Int) + 69069) + (at_ : Int) * 40503 + 977) = true := smallI_of (by omega) (by omega)
    obtain ⟨one, ho⟩ : ∃ one : Int, (cell % 1000000007 * (2 * (at_ : Int) + 69069) + (at_ : Int) * 40503 + 977) ^ 3 % p1 = one := ⟨_, rfl⟩
    have o0 : 0 ≤ one := ho ▸ Int.emod_nonneg _ (by omega)
    have o1 : one < 2147483648 := by have := Int.emod_lt_of_pos ((cell % 1000000007 * (2 * (at_ : Int) + 69069) + (at_ : Int) * 40503 + 977) ^ 3) a1; omega
    obtain ⟨f0, f1⟩ := mul_bd (b := (at_ : Int) + 3) (A := 2147483648) (B := 1000003) o0 (by omega) (by omega) (by omega)
    have k4 : smallI one = true := smallI_of (by omega) (by omega)
    have k5 : smallI (one * ((at_ : Int) + 3) + cell % 65537 + 5) = true := smallI_of (by omega) (by omega)
    obtain ⟨two, ht⟩ : ∃ two : Int, (one * ((at_ : Int) + 3) + cell % 65537 + 5) ^ 5 % p2 = two := ⟨_, rfl⟩
    have t0 : 0 ≤ two := ht ▸ Int.emod_nonneg _ (by omega)
    have t1 : two < 2147483648 := by have := Int.emod_lt_of_pos ((one * ((at_ : Int) + 3) + cell % 65537 + 5) ^ 5) a2; omega
    have u0 := Int.emod_nonneg one (b := 1009) (by decide)
    have u1 := Int.emod_lt_of_pos one (b := 1009) (by decide)
    have k6 : smallI (two + one % 1009 + (at_ : Int)) = true := smallI_of (by omega) (by omega)
    obtain ⟨three, hh⟩ : ∃ three : Int, (two + one % 1009 + (at_ : Int)) ^ 3 % p3 = three := ⟨_, rfl⟩
    have v0 : 0 ≤ three := hh ▸ Int.emod_nonneg _ (by omega)
    refine ⟨(one * 2147483647 + two) * 2147483647 + three, by omega, ?_⟩
    exact v_spread0 hc h1 h2 h3 a1 a2 a3 k1 k3 ho k4 k5 ht k6 hh
theorem get_ints {cs : List Int} {i : Nat} (h : i < cs.length) : (cs.map D.int)[i]? = some (.int cs[i]) := by simp [h]
theorem take0 {ks : List D} {t cur amount r t' : Int} {x : Int} (hl : cur < amount) (h1 : 0 < amount) (h64 : amount < 18446744073709551616) (hA : t < (ks.length : Int)) (hx : dIx (.lst ks) (.int t) = some (.fro (.int x))) (ht : t + 1 = t')
    (hr : m__law_spread [.int x, .int t] [.d (.lst [.lst ks, .int t', .int cur])] = some (.fro (.int r), [.d (.lst [.lst ks, .int t', .int cur])])) :
    m__law_take [.hd 0, .int amount] [.d (.lst [.lst ks, .int t, .int cur])] = some (.fro (.int (r % amount)), [.d (.lst [.lst ks, .int t', .int (r / amount)])]) := by
  simp [m__law_take, ev__law_take, hl, h1, h64, hA, hx, ht, hr]
theorem take1 {ks : List D} {t cur amount r t' k : Int} {x : Int} (hl : cur < amount) (h1 : 0 < amount) (h64 : amount < 18446744073709551616) (hA : ¬ t < (ks.length : Int)) (hB : 0 < ks.length) (hk : (t * 5 + 3) % (ks.length : Int) = k) (hx : dIx (.lst ks) (.int k) = some (.fro (.int x))) (ht : t + 1 = t') (hp : 0 < 100000000000000000 + t)
    (hr : m__law_spread [.int (x % (100000000000000000 + t)), .int t] [.d (.lst [.lst ks, .int t', .int cur])] = some (.fro (.int r), [.d (.lst [.lst ks, .int t', .int cur])])) :
    m__law_take [.hd 0, .int amount] [.d (.lst [.lst ks, .int t, .int cur])] = some (.fro (.int (r % amount)), [.d (.lst [.lst ks, .int t', .int (r / amount)])]) := by
  have e10 : smallI 10 = true := by decide
  have s5 : smallI 5 = true := by decide
  have hB' : 0 < (ks.length : Int) := by omega
  simp [m__law_take, ev__law_take, hl, h1, h64, hA, hB, hB', hk, hx, ht, hr, e10, s5, hp]
theorem take2 {t cur amount r t' : Int} (hl : cur < amount) (h1 : 0 < amount) (h64 : amount < 18446744073709551616) (hA : ¬ t < 0) (ht : t + 1 = t')
    (hr : m__law_spread [.int 0, .int t] [.d (.lst [.lst [], .int t', .int cur])] = some (.fro (.int r), [.d (.lst [.lst [], .int t', .int cur])])) :
    m__law_take [.hd 0, .int amount] [.d (.lst [.lst [], .int t, .int cur])] = some (.fro (.int (r % amount)), [.d (.lst [.lst [], .int t', .int (r / amount)])]) := by
  simp [m__law_take, ev__law_take, hl, h1, h64, hA, ht, hr]
theorem take3 {ks : List D} {t cur amount : Int} (hl : ¬ cur < amount) (h1 : 0 < amount) (h64 : amount < 18446744073709551616) :
    m__law_take [.hd 0, .int amount] [.d (.lst [.lst ks, .int t, .int cur])] = some (.fro (.int (cur % amount)), [.d (.lst [.lst ks, .int t, .int (cur / amount)])]) := by
  simp [m__law_take, ev__law_take, hl, h1, h64]
/-- one take -/
theorem v_take {n : Nat} {c : Cell} (h : PenOk n c) (hn : n ≤ 999999) (amount : Int) (h1 : 0 < amount) (h2 : amount ≤ 1000000) : ∃ (v : Int) (c' : Cell), m__law_take [.hd 0, .int amount] [c] = some (.fro (.int v), [c']) ∧ 0 ≤ v ∧ v < amount ∧ PenOk (n + 1) c' := by
  obtain ⟨cs, at_, cur, rfl, ha, hc⟩ := h.ex
  have h64 : amount < 18446744073709551616 := by omega
  have hll : ((cs.map D.int).length : Int) = (cs.length : Int) := by simp
  by_cases hl : cur < amount
  · have e1 : (at_ : Int) + 1 = ((at_ + 1 : Nat) : Int) := rfl
    have fin : ∀ r : Int, 0 ≤ r → m__law_take [.hd 0, .int amount] [.d (.lst [.lst (cs.map .int), .int at_, .int cur])] = some (.fro (.int (r % amount)), [.d (.lst [.lst (cs.map .int), .int ((at_ + 1 : Nat) : Int), .int (r / amount)])]) →
      ∃ (v : Int) (c' : Cell), m__law_take [.hd 0, .int amount] [.d (.lst [.lst (cs.map .int), .int at_, .int cur])] = some (.fro (.int v), [c']) ∧ 0 ≤ v ∧ v < amount ∧ PenOk (n + 1) c' := fun r r0 e =>
      ⟨_, _, e, Int.emod_nonneg _ (by omega), Int.emod_lt_of_pos _ h1, ⟨cs, at_ + 1, _, rfl, by omega, Int.ediv_nonneg r0 (by omega)⟩⟩
    by_cases hA : at_ < cs.length
    · obtain ⟨r, r0, hr⟩ := v_spread cs[at_] at_ (by omega) [.d (.lst [.lst (cs.map .int), .int ((at_ + 1 : Nat) : Int), .int cur])]
      exact fin r r0 (take0 hl h1 h64 (by rw [hll]; omega) (dIx_lst (get_ints hA)) e1 hr)
    · by_cases hB : 0 < cs.length
      · have m0 := Int.emod_nonneg ((at_ : Int) * 5 + 3) (b := (cs.length : Int)) (by omega)
        have m1 := Int.emod_lt_of_pos ((at_ : Int) * 5 + 3) (b := (cs.length : Int)) (by omega)
        obtain ⟨k, hk⟩ : ∃ k : Nat, ((at_ : Int) * 5 + 3) % (cs.length : Int) = (k : Int) := ⟨_, (Int.toNat_of_nonneg m0).symm⟩
        have hkl : k < cs.length := by omega
        obtain ⟨r, r0, hr⟩ := v_spread (cs[k] % (100000000000000000 + (at_ : Int))) at_ (by omega) [.d (.lst [.lst (cs.map .int), .int ((at_ + 1 : Nat) : Int), .int cur])]
        exact fin r r0 (take1 hl h1 h64 (by rw [hll]; omega) (by simpa using hB) (by rw [hll]; exact hk) (dIx_lst (get_ints hkl)) e1 (by omega) hr)
      · obtain rfl : cs = [] := List.eq_nil_of_length_eq_zero (by omega)
        obtain ⟨r, r0, hr⟩ := v_spread 0 at_ (by omega) [.d (.lst [.lst [], .int ((at_ + 1 : Nat) : Int), .int cur])]
        exact fin r r0 (take2 hl h1 h64 (by omega) e1 hr)
  · exact ⟨_, _, take3 hl h1 h64, Int.emod_nonneg _ (by omega), Int.emod_lt_of_pos _ h1, ⟨cs, at_, _, rfl, by omega, Int.ediv_nonneg hc (by omega)⟩⟩
/-- a drawn item of a list -/
theorem v_one_of {n : Nat} {c : Cell} (h : PenOk n c) (hn : n ≤ 999999) (xs : List D) (h1 : 0 < xs.length) (h2 : xs.length ≤ 1000000) : ∃ (v : D) (c' : Cell), m__law_one_of [.hd 0, .lst xs] [c] = some (.fro v, [c']) ∧ v ∈ xs ∧ PenOk (n + 1) c' := by
  obtain ⟨v, c', e, a, b, p⟩ := v_take h hn xs.length (by omega) (by omega)
  obtain ⟨k, rfl⟩ : ∃ k : Nat, v = (k : Int) := ⟨_, (Int.toNat_of_nonneg a).symm⟩
  have hk : k < xs.length := by omega
  refine ⟨xs[k], c', ?_, List.getElem_mem hk, p⟩
  simp [m__law_one_of, ev__law_one_of, e, dIx_lst (List.getElem?_eq_getElem hk)]
end G

namespace G
open PySem PySem.Spec L2 Pv
def PenS (n : Nat) (st : List Cell) : Prop := ∃ c, st = [c] ∧ PenOk n c
theorem PenS.mono {n m : Nat} {st : List Cell} (h : PenS n st) (hm : n ≤ m) : PenS m st := by
  obtain ⟨c, e, p⟩ := h
  exact ⟨c, e, p.mono hm⟩
/-- a draw: what it gives, by so many takes -/
def Dr {R : Type} (k : Nat) (f : List Cell → Option (R × List Cell)) (Q : R → Prop) : Prop := ∀ n st, PenS n st → n + k ≤ 999999 → ∃ r st', f st = some (r, st') ∧ Q r ∧ PenS (n + k) st'
theorem Dr.imp {R : Type} {k : Nat} {f : List Cell → Option (R × List Cell)} {Q T : R → Prop} (h : Dr k f Q) (i : ∀ r, Q r → T r) : Dr k f T := fun n st p hn => by
  obtain ⟨r, st', e, q, p'⟩ := h n st p hn
  exact ⟨r, st', e, i r q, p'⟩
theorem d_take {a : Nat} (h0 : 0 < a) (h1 : a ≤ 1000000) : Dr 1 (p__law_take a) (· < a) := fun n st p hn => by
  obtain ⟨c, rfl, pc⟩ := p
  obtain ⟨v, c', e, a0, a1, pc'⟩ := v_take pc (by omega) (a : Int) (by omega) (by omega)
  refine ⟨v.toNat, [c'], ?_, by omega, c', rfl, pc'⟩
  unfold p__law_take
  show (match m__law_take [.hd 0, .int (a : Int)] [c] with
    | some (.fro (.int v), st') => if 0 ≤ v then some (v.toNat, st') else none
    | _ => none) = _
  rw [e]
  exact if_pos a0
theorem d_one_of {xs : List Nat} (h0 : 0 < xs.length) (h1 : xs.length ≤ 1000000) : Dr 1 (p__law_one_of xs) (· ∈ xs) := fun n st p hn => by
  obtain ⟨v, st1, e, hv, p1⟩ := d_take h0 h1 n st p hn
  refine ⟨xs[v], st1, ?_, List.getElem_mem _, p1⟩
  unfold p__law_one_of
  rw [e]
  simp [List.getElem?_eq_getElem hv]
theorem WebOk.up {w : Web} {h m h' m' : Nat} (W : WebOk w h m) (a : h ≤ h') (b : m ≤ m') : WebOk w h' m' := ⟨W.n1, Nat.le_trans W.nh a, Nat.le_trans W.rm b, W.ab, W.lh, W.cn⟩
theorem keeps_of {m : Fm} {p : List Int → Option (Bool × List Cell)} (q : ∀ ns r, p ns = some r → m [.scr ns] [] = some (.fro (.bl r.1), r.2)) (h : ∀ ns, Ok (p ns) fun r => r.1 = true) : Keeps m := fun ns _ _ => by
  obtain ⟨r, e, hr⟩ := h ns
  refine ⟨r.2, ?_⟩
  rw [q ns r e, hr]
end G

namespace G
open PySem PySem.Spec L2 Pv
theorem d_bounds : Dr 6 p__law_draw_bounds (fun p => p.1 ≤ p.2 ∧ p.2 ≤ 99) := fun n st p hn => by
  obtain ⟨v1, s1, e1, q1, p1⟩ := d_take (a := 10) (by omega) (by omega) n st p (by omega)
  obtain ⟨v2, s2, e2, q2, p2⟩ := d_take (a := 100) (by omega) (by omega) _ s1 p1 (by omega)
  obtain ⟨v3, s3, e3, q3, p3⟩ := d_one_of (xs := [0, 1, 2, 3, 5, v1, v2]) (by simp) (by simp) _ s2 p2 (by omega)
  obtain ⟨v4, s4, e4, q4, p4⟩ := d_take (a := 10) (by omega) (by omega) _ s3 p3 (by omega)
  obtain ⟨v5, s5, e5, q5, p5⟩ := d_take (a := 100) (by omega) (by omega) _ s4 p4 (by omega)
  obtain ⟨v6, s6, e6, q6, p6⟩ := d_one_of (xs := [0, 0, 1, 2, 4, v4, v5]) (by simp) (by simp) _ s5 p5 (by omega)
  refine ⟨(v3, min 99 (v3 + v6)), s6, ?_, ?_, p6⟩
  · unfold p__law_draw_bounds
    simp only [e1, e2, e3, e4, e5, e6, Option.bind_some]
  · have : v3 ≤ 99 := by simp at q3; omega
    show v3 ≤ min 99 (v3 + v6) ∧ min 99 (v3 + v6) ≤ 99
    omega
theorem d_web {houses most : Nat} (h1 : 1 ≤ houses) (h2 : houses ≤ most + 1) (h3 : most ≤ 98) : Dr 3000 (p__law_draw_web houses most) (fun w => WebOk w houses most) := fun n st p hn => by
  obtain ⟨v, s1, e1, q1, p1⟩ := d_take (a := houses) (by omega) (by omega) n st p (by omega)
  obtain ⟨size, hsz⟩ : ∃ size, 1 + v = size := ⟨_, rfl⟩
  obtain ⟨w1, f1, g1, g2, g3, g4⟩ := forP_I (xs := List.range' 1 (size - 1)) (b := fun (x_6 : Nat) (v_4 : (List Rd) × List Cell) =>
    (p__law_take (v_4.1.length + (1 : Nat)) v_4.2).bind fun take_7 =>
    (p__law_take x_6 take_7.2).bind fun take_8 =>
    (p__law_draw_bounds take_8.2).bind fun draw_bounds_9 =>
    (insP v_4.1 take_7.1 (Rd.mk take_8.1 x_6 draw_bounds_9.1.1 draw_bounds_9.1.2)).bind fun roads_10 =>
    some (roads_10, draw_bounds_9.2)) (v := (([] : List Rd), s1)) (fun i v => PenS (n + 1 + 8 * i) v.2 ∧ v.1.length = i ∧ RsOk size v.1 ∧ ∀ k, 1 ≤ k → k ≤ i → ∃ r ∈ v.1, r.b = k)
    ⟨by simpa using p1, rfl, ⟨fun r hr => by simp at hr, fun r hr => by simp at hr⟩, fun k a b => by omega⟩ (fun i x v hx ⟨g1, g2, g3, g4⟩ => by
      obtain ⟨hi, rfl⟩ := rng1_get.mp hx
      obtain ⟨u1, s2, e2, q2, p2⟩ := d_take (a := v.1.length + 1) (by omega) (by omega) _ v.2 g1 (by omega)
      obtain ⟨u2, s3, e3, q3, p3⟩ := d_take (a := i + 1) (by omega) (by omega) _ s2 p2 (by omega)
      obtain ⟨u3, s4, e4, q4, p4⟩ := d_bounds _ s3 p3 (by omega)
      refine ⟨(v.1.take u1 ++ [Rd.mk u2 (i + 1) u3.1 u3.2] ++ v.1.drop u1, s4), ?_, p4.mono (by omega), ?_, ?_, fun k a b => ?_⟩
      · simp only [e2, e3, e4, Option.bind_some]
        rw [insP_eq (by omega) (by omega)]; rfl
      · have := (ins_perm v.1 u1 (Rd.mk u2 (i + 1) u3.1 u3.2)).length_eq
        rw [List.length_cons] at this
        show (v.1.take u1 ++ [Rd.mk u2 (i + 1) u3.1 u3.2] ++ v.1.drop u1).length = i + 1
        omega
      · exact g3.ins u1 (r := Rd.mk u2 (i + 1) u3.1 u3.2) q3 (by show i + 1 < size; omega) q4.1 q4.2
      · by_cases hk : k = i + 1
        · exact ⟨Rd.mk u2 (i + 1) u3.1 u3.2, by simp, hk.symm⟩
        · obtain ⟨r, hr, hb⟩ := g4 k a (by omega)
          exact ⟨r, (ins_perm _ _ _).mem_iff.mpr (.tail _ hr), hb⟩)
  rw [List.length_range'] at g1 g2 g4
  obtain ⟨v2, s2, e2, q2, p2⟩ := d_take (a := most + 1) (by omega) (by omega) _ w1.2 g1 (by omega)
  obtain ⟨w2, f2, k1, k2, k3, k4⟩ := forP_I (xs := List.range v2) (b := fun (x_17 : Nat) (v_15 : (List Rd) × List Cell) =>
    (if ((decide ((1 : Nat) < size)) && (decide (v_15.1.length < most))) = true then
      (natP ((size : Int) - (1 : Int))).bind fun y_19 =>
      (p__law_take y_19 v_15.2).bind fun take_20 =>
      (some (((1 : Nat) + take_20.1) : Nat)).bind fun b_21 =>
      (p__law_take (v_15.1.length + (1 : Nat)) take_20.2).bind fun take_22 =>
      (p__law_take b_21 take_22.2).bind fun take_23 =>
      (p__law_draw_bounds take_23.2).bind fun draw_bounds_24 =>
      (insP v_15.1 take_22.1 (Rd.mk take_23.1 b_21 draw_bounds_24.1.1 draw_bounds_24.1.2)).bind fun roads_25 =>
      some (roads_25, draw_bounds_24.2)
    else
      some (v_15.1, v_15.2))) (v := (w1.1, s2)) (fun i v => PenS (n + 1 + 8 * (size - 1) + 1 + 9 * i) v.2 ∧ v.1.length ≤ most ∧ RsOk size v.1 ∧ ∀ k, 1 ≤ k → k < size → ∃ r ∈ v.1, r.b = k)
    ⟨by simpa using p2, by show w1.1.length ≤ most; omega, g3, fun k a b => g4 k a (by omega)⟩ (fun i x v hx ⟨g1, g2, g3, g4⟩ => by
      by_cases hc : 1 < size ∧ v.1.length < most
      · have hi : i < v2 := by
          have := (List.getElem?_eq_some_iff.mp hx).1
          simpa using this
        have en : natP ((size : Int) - (1 : Int)) = some (size - 1) := by
          unfold natP; rw [if_pos (by omega)]; congr 1; omega
        obtain ⟨u0, s1', e1', q1', p1'⟩ := d_take (a := size - 1) (by omega) (by omega) _ v.2 g1 (by omega)
        obtain ⟨u1, s2, e2, q2, p2⟩ := d_take (a := v.1.length + 1) (by omega) (by omega) _ s1' p1' (by omega)
        obtain ⟨u2, s3, e3, q3, p3⟩ := d_take (a := 1 + u0) (by omega) (by omega) _ s2 p2 (by omega)
        obtain ⟨u3, s4, e4, q4, p4⟩ := d_bounds _ s3 p3 (by omega)
        refine ⟨(v.1.take u1 ++ [Rd.mk u2 (1 + u0) u3.1 u3.2] ++ v.1.drop u1, s4), ?_, p4.mono (by omega), ?_, ?_, fun k a b => ?_⟩
        · rw [if_pos (by simp [hc.1, hc.2])]
          simp only [en, e1', e2, e3, e4, Option.bind_some]
          rw [insP_eq (by omega) (by omega)]; rfl
        · have := (ins_perm v.1 u1 (Rd.mk u2 (1 + u0) u3.1 u3.2)).length_eq
          rw [List.length_cons] at this
          show (v.1.take u1 ++ [Rd.mk u2 (1 + u0) u3.1 u3.2] ++ v.1.drop u1).length ≤ most
          omega
        · exact g3.ins u1 (r := Rd.mk u2 (1 + u0) u3.1 u3.2) q3 (by show 1 + u0 < size; omega) q4.1 q4.2
        · obtain ⟨r, hr, hb⟩ := g4 k a b
          exact ⟨r, (ins_perm _ _ _).mem_iff.mpr (.tail _ hr), hb⟩
      · refine ⟨v, ?_, g1.mono (by omega), g2, g3, g4⟩
        rw [if_neg (by simpa using hc)])
  rw [List.length_range] at k1
  obtain ⟨w3, f3, n1, n2⟩ := forP_I (xs := List.range size) (b := fun (x_31 : Nat) (v_29 : (List Nat) × List Cell) =>
    (p__law_take (x_31 + (1 : Nat)) v_29.2).bind fun take_32 =>
    (insP v_29.1 take_32.1 x_31).bind fun order_33 =>
    some (order_33, take_32.2)) (v := (([] : List Nat), w2.2)) (fun i v => PenS (n + 1 + 8 * (size - 1) + 1 + 9 * v2 + i) v.2 ∧ NmOk i v.1)
    ⟨by simpa using k1, ⟨rfl, List.nodup_nil, fun x hx => by simp at hx⟩⟩ (fun i x v hx ⟨g1, g2⟩ => by
      obtain ⟨hi, hx⟩ := List.getElem?_eq_some_iff.mp hx
      rw [List.length_range] at hi
      rw [List.getElem_range] at hx
      subst hx
      obtain ⟨u1, s2, e2, q2, p2⟩ := d_take (a := i + 1) (by omega) (by omega) _ v.2 g1 (by omega)
      have := g2.len
      refine ⟨(v.1.take u1 ++ [i] ++ v.1.drop u1, s2), ?_, p2.mono (by omega), g2.ins u1⟩
      simp only [e2, Option.bind_some]
      rw [insP_eq (by omega) (by omega)]; rfl)
  rw [List.length_range] at n1 n2
  have f4 : forP (fun (x_38 : Rd) (v_36 : (List Rd)) =>
    (w3.1[x_38.a]?).bind fun it_39 =>
    (w3.1[x_38.b]?).bind fun it_40 =>
    (w3.1[x_38.a]?).bind fun it_41 =>
    (w3.1[x_38.b]?).bind fun it_42 =>
    (appP v_36 (Rd.mk (min it_39 it_40) (max it_41 it_42) x_38.lo x_38.hi)).bind fun turned_43 =>
    some turned_43) w2.1 ([] : List Rd) = some (w2.1.map (rnR w3.1)) := forP_map _ (by omega) fun r hr v hv => by
      have lt := k3.lt r hr
      have ln := n2.len
      rw [nm_get (i := r.a) (by omega), nm_get (i := r.b) (by omega)]
      simp only [Option.bind_some]
      rw [appP_eq hv]; rfl
  refine ⟨⟨size, w2.1.map (rnR w3.1)⟩, w3.2, ?_, web_of (by omega) (by omega) k2 k3 n2 k4, n1.mono (by omega)⟩
  unfold p__law_draw_web
  rw [e1, Option.bind_some, Option.bind_some]
  dsimp only
  rw [hsz, rng2P_eq (by omega) (by omega), Option.bind_some, f1, Option.bind_some, e2, Option.bind_some]
  dsimp only
  rw [rngP_eq (by omega), Option.bind_some, f2, Option.bind_some, rngP_eq (by omega), Option.bind_some, f3, Option.bind_some, f4, Option.bind_some]
end G

namespace G
open PySem PySem.Spec L2 Pv
theorem lcH_lens : ∀ (rs : List Rd) (n : Nat) (st : List Cell), (∀ r ∈ rs, r.lo ≤ r.hi ∧ r.hi ≤ 99) → PenS n st → n + rs.length ≤ 999999 → ∃ ys st', lcH (fun (_ : Rd) z => some (true, z)) (fun (x_1 : Rd) z_2 => (natP (((x_1.hi : Int) - (x_1.lo : Int)) + (1 : Int))).bind fun y_3 => (p__law_take y_3 z_2).bind fun take_4 => some ((x_1.lo + take_4.1), take_4.2)) rs st = some (ys, st') ∧ ys.length = rs.length ∧ (∀ i r, rs[i]? = some r → r.lo ≤ ys.getD i 0 ∧ ys.getD i 0 ≤ r.hi) ∧ PenS (n + rs.length) st'
  | [], n, st, _, p, _ => ⟨[], st, rfl, rfl, by simp, by simpa using p⟩
  | r :: rs, n, st, hr, p, hn => by
    have b := hr r (.head _)
    rw [List.length_cons] at hn
    obtain ⟨v, s1, e1, q1, p1⟩ := d_take (a := r.hi - r.lo + 1) (by omega) (by omega) n st p (by omega)
    obtain ⟨ys, s2, e2, q2, q3, p2⟩ := lcH_lens rs (n + 1) s1 (fun x hx => hr x (.tail _ hx)) p1 (by omega)
    refine ⟨(r.lo + v) :: ys, s2, ?_, by simp [q2], fun i x hx => ?_, by rw [List.length_cons, show n + (rs.length + 1) = n + 1 + rs.length by omega]; exact p2⟩
    · unfold lcH
      rw [Option.bind_some, if_pos rfl, show natP (((r.hi : Int) - (r.lo : Int)) + (1 : Int)) = some (r.hi - r.lo + 1) by unfold natP; rw [if_pos (by omega)]; congr 1; omega, Option.bind_some, e1, Option.bind_some, Option.bind_some]
      dsimp only
      rw [e2]; rfl
    · cases i with
      | zero =>
        cases hx
        show r.lo ≤ r.lo + v ∧ r.lo + v ≤ r.hi
        omega
      | succ i => exact q3 i x hx
theorem d_lens {w : Web} {h m : Nat} (Wo : WebOk w h m) (hm : m ≤ 10) : Dr 10 (p__law_draw_lengths w) (fun ys => ys.length = w.rs.length ∧ ∀ i r, w.rs[i]? = some r → r.lo ≤ ys.getD i 0 ∧ ys.getD i 0 ≤ r.hi) := fun n st p hn => by
  have hm := Wo.rm
  obtain ⟨ys, s2, e, q2, q3, p2⟩ := lcH_lens w.rs n st Wo.lh p (by omega)
  refine ⟨ys, s2, ?_, ⟨q2, q3⟩, p2.mono (by omega)⟩
  unfold p__law_draw_lengths
  rw [show lcS _ _ w.rs st = some (ys, s2) from by unfold lcS; rw [if_pos (by omega)]; exact e]
  rfl
end G

namespace G
open PySem PySem.Spec L2 Pv
theorem sh_nat (k n : Nat) : shortD k (nD n) = true := by cases k <;> rfl
theorem sh_non (k : Nat) : shortD k .non = true := by cases k <;> rfl
theorem sh_bl (k : Nat) (b : Bool) : shortD k (.bl b) = true := by cases k <;> rfl
theorem sh_lC {α : Type} {f : α → D} {k : Nat} {xs : List α} (hl : xs.length ≤ 1000000) (h : ∀ x ∈ xs, shortD k (f x) = true) : shortD (k + 1) (lC f xs) = true := by
  show (decide ((xs.map f).length ≤ 1000000) && (xs.map f).all (shortD k)) = true
  rw [List.length_map, decide_eq_true hl, Bool.true_and, List.all_eq_true]
  rintro _ hx
  obtain ⟨a, ha, rfl⟩ := List.mem_map.mp hx
  exact h a ha
theorem sh_tC {α : Type} {f : α → D} {k : Nat} {xs : List α} (hl : xs.length ≤ 1000000) (h : ∀ x ∈ xs, shortD k (f x) = true) : shortD (k + 1) (tC f xs) = true := sh_lC (f := f) hl h
theorem sh_oC {α : Type} {f : α → D} {k : Nat} {x : Option α} (h : ∀ a, x = some a → shortD k (f a) = true) : shortD k (oC f x) = true := by
  cases x with
  | none => exact sh_non k
  | some a => exact h a rfl
theorem sh_p2 {α β : Type} {f : α → D} {g : β → D} {k : Nat} {x : α × β} (h1 : shortD k (f x.1) = true) (h2 : shortD k (g x.2) = true) : shortD (k + 1) (p2 f g x) = true := by
  show (decide (2 ≤ 1000000) && ([f x.1, g x.2].all (shortD k))) = true
  simp [h1, h2]
theorem sameP_eq {α : Type} [DecidableEq α] {f : α → D} {a b : α} (e : a = b) (h : shortD 4 (f a) = true) : sameP f a b = some true := if_pos ⟨e, h⟩
end G

namespace G
open PySem PySem.Spec L2 Pv
structure Rp (k b : Nat) (d : D) : Prop where
  ok : eqOk k d = true
  sh : (py d).showable = true
  ls : (py d).leavesShort 8 = true
  bk : (py d).bulk ≤ b
structure RpA (k b : Nat) (ds : List D) : Prop where
  ok : ds.all (eqOk k) = true
  sh : PyData.showableAll (pyAll ds) = true
  ls : PyData.leavesShortAll 8 (pyAll ds) = true
  bk : PyData.bulkAll (pyAll ds) ≤ b
theorem sh99 : ∀ i : Nat, i < 1100 → (PyData.shown (.int (i : Int))).length ≤ 8 ∧ (PyData.showable (.int (i : Int))) = true := by decide +kernel
theorem Rp.nat {i : Nat} (k : Nat) (h : i < 1100) : Rp k 0 (nD i) := by
  obtain ⟨a, b⟩ := sh99 i h
  exact ⟨by cases k <;> rfl, b, by show decide ((PyData.shown (.int (i : Int))).length ≤ 8) = true; rw [decide_eq_true a], Nat.le_refl _⟩
theorem Rp.non (k : Nat) : Rp k 0 .non := ⟨by cases k <;> rfl, rfl, by decide +kernel, Nat.le_refl _⟩
theorem Rp.bl (k : Nat) (b : Bool) : Rp k 0 (.bl b) := ⟨by cases k <;> rfl, rfl, by cases b <;> decide +kernel, Nat.le_refl _⟩
theorem RpA.nil (k : Nat) : RpA k 0 [] := ⟨rfl, rfl, rfl, Nat.le_refl _⟩
theorem RpA.cons {k b c : Nat} {d : D} {ds : List D} (h : Rp k b d) (hs : RpA k c ds) : RpA k (b + 1 + c) (d :: ds) :=
  ⟨by rw [List.all_cons, h.ok, hs.ok]; rfl, by show ((py d).showable && PyData.showableAll (pyAll ds)) = true; rw [h.sh, hs.sh]; rfl,
    by show ((py d).leavesShort 8 && PyData.leavesShortAll 8 (pyAll ds)) = true; rw [h.ls, hs.ls]; rfl, by
      show (py d).bulk + 1 + PyData.bulkAll (pyAll ds) ≤ _
      have := h.bk; have := hs.bk; omega⟩
theorem RpA.mono {k b c : Nat} {ds : List D} (h : RpA k b ds) (l : b ≤ c) : RpA k c ds := ⟨h.ok, h.sh, h.ls, Nat.le_trans h.bk l⟩
theorem Rp.mono {k b c : Nat} {ds : D} (h : Rp k b ds) (l : b ≤ c) : Rp k c ds := ⟨h.ok, h.sh, h.ls, Nat.le_trans h.bk l⟩
theorem Rp.tup {k b : Nat} {ds : List D} (h : RpA k b ds) : Rp (k + 1) b (.tup ds) := ⟨h.ok, h.sh, h.ls, h.bk⟩
theorem Rp.lst {k b : Nat} {ds : List D} (h : RpA k b ds) : Rp (k + 1) b (.lst ds) := ⟨h.ok, h.sh, h.ls, h.bk⟩
theorem RpA.map {α : Type} {k b : Nat} {f : α → D} : ∀ {xs : List α}, (∀ x ∈ xs, Rp k b (f x)) → RpA k (xs.length * (b + 1)) (xs.map f)
  | [], _ => (RpA.nil k).mono (Nat.zero_le _)
  | x :: xs, h => ((h x (.head _)).mono (Nat.le_refl _) |> fun p => RpA.cons p (RpA.map fun y hy => h y (.tail _ hy))).mono (by rw [List.length_cons, Nat.add_mul, Nat.one_mul]; omega)
theorem Rp.ret {k b : Nat} {d : D} (h : Rp k b d) (hk : k = 40) (hb : b ≤ 90000) : reprP d = some (reprD d) := by
  subst hk
  unfold reprP
  rw [if_pos]
  unfold rpOk
  have e := PyData.shown_le_bulk 8 (Nat.le_refl _) (py d) h.ls
  have := h.bk
  rw [h.ok, h.sh, decide_eq_true (show (py d).shown.length ≤ 1000000 by omega)]
  rfl
theorem Rp.rd {r : Rd} {k : Nat} (h : r.a < 1100 ∧ r.b < 1100 ∧ r.lo < 1100 ∧ r.hi < 1100) : Rp (k + 1) 4 (rdD r) :=
  Rp.tup (RpA.cons (Rp.nat k h.1) (RpA.cons (Rp.nat k h.2.1) (RpA.cons (Rp.nat k h.2.2.1) (RpA.cons (Rp.nat k h.2.2.2) (RpA.nil k)))))
theorem Rp.web {w : Web} {k : Nat} (W : WebOk w 6 10) : Rp (k + 3) 60 (webD w) := by
  have h1 := W.nh
  have h2 := W.rm
  have hr : ∀ r ∈ w.rs, Rp (k + 1) 4 (rdD r) := fun r hr => Rp.rd (by
    have a := W.ab r hr
    have b := W.lh r hr
    omega)
  exact (Rp.tup (RpA.cons (Rp.nat (k + 2) (i := w.n) (by omega)) (RpA.cons (Rp.tup (RpA.map hr)) (RpA.nil _)))).mono (by omega)
theorem repr_web {w : Web} (W : WebOk w 6 10) : reprP (webD w) = some (reprD (webD w)) := (Rp.web (k := 37) W).ret rfl (by omega)
theorem WebOk.W {w : Web} {h m : Nat} (W : WebOk w h m) : RdsOk w := W.ab
end G

namespace G
open PySem PySem.Spec L2 Pv
theorem open_step {ns : List Int} {cs : List Int} {k : Int} {x y : Int} {j : Nat} (hk : k % 12 = (j : Int)) (hj : j < cs.length) (hy : cs[j] = y) :
    evSetI 1 dSet (evV (ev2 dMod (evSlot 2) (evV (evC (.int 12))))) (ev2 dAdd (evV (ev2 dIx (evSlot 1) (evV (ev2 dMod (evSlot 2) (evV (evC (.int 12))))))) (evSlot 3)) ⟨[.fro (.scr ns), .own (.lst (cs.map .int)), .fro (.int k), .fro (.int x)], []⟩ =
      some (.nx, ⟨[.fro (.scr ns), .own (.lst ((cs.set j (y + x)).map .int)), .fro (.int k), .fro (.int x)], []⟩) := by
  have h1 : dIx (.lst (cs.map .int)) (.int (j : Int)) = some (.fro (.int y)) := dIx_lst (by simp [hj, hy])
  have h2 : dSet (.lst (cs.map .int)) (.int (j : Int)) (.int (y + x)) = some (.lst ((cs.set j (y + x)).map .int)) := by
    rw [dSet_lst _ (by simpa using hj), List.map_set]
  simp [hk, h1, h2]
theorem v_open (ns : List Int) : ∃ d, m__law_open [.scr ns] [] = some (.own d, []) ∧ PenOk 0 (.d d) := by
  obtain ⟨c0, e1, l0⟩ : ∃ c0 : List Int, dSl (.scr ns) none (some 12) = some (.own (.lst (c0.map .int))) ∧ c0.length = min 12 ns.length := by
    refine ⟨ns.take 12, ?_, by simp⟩
    have := cut_take (ns.map D.int) 12
    simp only [dSl]
    rw [show (some (12 : Int)) = some ((12 : Nat) : Int) from rfl, this, List.map_take]
  obtain ⟨ws, e2⟩ : ∃ ws : List Int, dSl (.scr ns) (some 12) (some 63) = some (.own (.lst (ws.map .int))) ∧ (ws ≠ [] → 12 < ns.length) := by
    refine ⟨(ns.drop (min 12 ns.length)).take (min 63 ns.length - min 12 ns.length), ?_, fun h => ?_⟩
    · simp only [dSl, cutL]
      rw [show (some (12 : Int)) = some ((12 : Nat) : Int) from rfl, show (some (63 : Int)) = some ((63 : Nat) : Int) from rfl, HT.sIx_nat, HT.sIx_nat]
      simp
    · refine Classical.byContradiction fun hn => h ?_
      rw [List.drop_eq_nil_of_le (by omega)]
      simp
  obtain ⟨e2, h12⟩ := e2
  obtain ⟨s', hs, cs, g2, g3, hcs, rfl⟩ := forS_inv (it := evArgs dEnumS (evCons (evSl dSl (evSlot 0) (evPt (evV (evC (.int 12)))) (evPt (evV (evC (.int 63))))) (evNil))) (t := tgTup 2 (tgCons (tgName 2) (tgCons (tgName 3) (tgNil))))
    (b := evSetI 1 dSet (evV (ev2 dMod (evSlot 2) (evV (evC (.int 12))))) (ev2 dAdd (evV (ev2 dIx (evSlot 1) (evV (ev2 dMod (evSlot 2) (evV (evC (.int 12))))))) (evSlot 3)))
    (fun _ s => ∃ (cs : List Int) (g2 g3 : Slot), cs.length = min 12 ns.length ∧ s = ⟨[.fro (.scr ns), .own (.lst (cs.map .int)), g2, g3], []⟩)
    (ds := pairUp (upTo 0 (ws.map D.int).length) (ws.map .int)) (s := ⟨[.fro (.scr ns), .own (.lst (c0.map .int)), .non, .non], []⟩) (by simp [e2]) ⟨c0, .non, .non, l0, rfl⟩
    (fun i d s hd ⟨cs, g2, g3, hl, he⟩ => by
      subst he
      obtain ⟨x, y, hx, hy, rfl⟩ := pairUp_get hd
      have hne : ws ≠ [] := by rintro rfl; simp at hy
      have := h12 hne
      rw [upTo0, List.getElem?_map] at hx
      obtain ⟨k, hk, rfl⟩ := Option.map_eq_some_iff.mp hx
      rw [List.getElem?_map] at hy
      obtain ⟨z, hz, rfl⟩ := Option.map_eq_some_iff.mp hy
      have hj : k % 12 < cs.length := by omega
      refine ⟨⟨[.fro (.scr ns), .own (.lst (cs.map .int)), .fro (.int k), .fro (.int z)], []⟩, _, _, by simp, open_step (j := k % 12) (by omega) hj rfl, .inl rfl, cs.set (k % 12) (cs[k % 12] + z), .fro (.int k), .fro (.int z), by simp [hl], rfl⟩)
  refine ⟨.lst [.lst (cs.map .int), .int 0, .int 0], ?_, ⟨cs, 0, 0, rfl, by omega, by omega⟩⟩
  simp [m__law_open, ev__law_open, e1, dList, hs]
/-- the pen that a script opens -/
theorem openP_ok (ns : List Int) : Ok (openP ns) (PenS 0) := by
  obtain ⟨d, e, p⟩ := v_open ns
  exact ⟨[.d d], by unfold openP; rw [e], _, rfl, p⟩
theorem nat_of {i : Int} (h : 0 ≤ i) : ∃ k : Nat, i = (k : Int) := ⟨i.toNat, (Int.toNat_of_nonneg h).symm⟩
end G

namespace G
open PySem PySem.Spec L2 Pv
theorem sh_h2 {α β : Type} {f : α → D} {g : β → D} {k : Nat} {x : α × β} (a1 : shortD k (f x.1) = true) (a2 : shortD k (g x.2) = true) : shortD (k + 1) (h2 f g x) = true := by
  show (decide (2 ≤ 1000000) && ([f x.1, g x.2].all (shortD k))) = true
  simp [a1, a2]
theorem l_raised_eq {w : Web} (l : List Nat) (h : w.rs.length ≤ 1000) : p__law_raised w l = some (rai w l) := by
  unfold p__law_raised
  rw [lcT_map (by rw [numd_len]; omega), Option.bind_some]
  unfold rai
  congr 1
  refine List.map_congr_left fun x _ => ?_
  by_cases hx : x.1 ∈ l
  · rw [if_pos (decide_eq_true hx), if_pos hx]
  · rw [if_neg (by simpa using hx), if_neg hx]
/-- both sides give the same roads -/
theorem both_ok {w : Web} (Wo : WebOk w 6 10) {L : List (List Nat)} (hL : TS w L) (lL : L.length ≤ 1000000) {ls : List Nat} (ll : ls.length = w.rs.length) : ∃ A B, p_used w ls = some A ∧ p_needed w ls = some B ∧ A.length ≤ 10 ∧ B.length ≤ 10 ∧
    lcP (fun (x_17 : Nat) => (p__law_is_used w ls x_17).bind fun is_used_18 => some is_used_18) (fun (x_17 : Nat) => some (x_17 : Nat)) (List.range w.rs.length) = some A ∧
    lcP (fun (x_20 : Nat) => (p__law_is_needed w ls x_20).bind fun is_needed_21 => some is_needed_21) (fun (x_20 : Nat) => some (x_20 : Nat)) (List.range w.rs.length) = some B := by
  have W : RdsOk w := Wo.ab
  have hn := Wo.nh
  have hm := Wo.rm
  obtain ⟨T0, t0, M, eM, lM, mM, i0⟩ := p_used_needed Wo hL lL ll
  have rl : (List.range w.rs.length).length ≤ 1000000 := by rw [List.length_range]; omega
  have fl : ∀ p : Nat → Bool, ((List.range w.rs.length).filter p).length ≤ 10 := fun p => by
    have := List.length_filter_le p (List.range w.rs.length)
    rw [List.length_range] at this
    omega
  have isrt : ∀ T, Lst w (lf ls) T → isort T ∈ M := fun T t => (mM _).mpr ⟨isort_lt t.1.nd, t.perm (isort_perm T).symm⟩
  have gl : ∀ e, e < w.rs.length → ls[e]? = some (lf ls e) := fun e he => lf_get (by rw [ll]; exact he)
  refine ⟨(List.range w.rs.length).filter fun x => (M.map fun T => decide (x ∈ T)).any id, (List.range w.rs.length).filter fun x => (M.map fun T => decide (x ∈ T)).all id, ?_, ?_, fl _, fl _, ?_, ?_⟩
  · unfold p_used
    rw [eM, Option.bind_some, rngP_eq (by omega), Option.bind_some, lcP_filter (fun x => (M.map fun T => decide (x ∈ T)).any id) rl fun x hx => by rw [lcT_map (by omega), Option.bind_some]]
    rfl
  · unfold p_needed
    rw [eM, Option.bind_some, rngP_eq (by omega), Option.bind_some, lcP_filter (fun x => (M.map fun T => decide (x ∈ T)).all id) rl fun x hx => by rw [lcT_map (by omega), Option.bind_some]]
    rfl
  · refine lcP_filter _ rl fun x hx => ?_
    have hx := List.mem_range.mp hx
    obtain ⟨r, hr⟩ := get_lt hx
    obtain ⟨b, e, hb⟩ := p_is_used_eq W (by omega) (by omega) hr ll (gl x hx)
    rw [e, Option.bind_some]
    congr 1
    have u := used_iff W hr (f := lf ls) (l := oks (shl ls (lf ls x)) x) (fun i => by
      rw [oks_mem, shl_mem]
      constructor
      · rintro ⟨⟨y, h1, h2⟩, _⟩
        have hi := (List.getElem?_eq_some_iff.mp h1).1
        rw [gl i (by omega)] at h1
        cases h1
        exact ⟨by omega, h2⟩
      · rintro ⟨h1, h2⟩
        exact ⟨⟨_, gl i h1, h2⟩, by rintro rfl; omega⟩) ⟨T0, t0⟩
    rw [Bool.eq_iff_iff, hb, ← u, List.any_map, List.any_eq_true]
    constructor
    · rintro ⟨T, t, h⟩
      exact ⟨isort T, isrt T t, decide_eq_true ((isort_perm T).mem_iff.mpr h)⟩
    · rintro ⟨T, hT, h⟩
      exact ⟨T, ((mM T).mp hT).2, of_decide_eq_true h⟩
  · refine lcP_filter _ rl fun x hx => ?_
    have hx := List.mem_range.mp hx
    obtain ⟨r, hr⟩ := get_lt hx
    obtain ⟨b, e, hb⟩ := p_is_needed_eq W (by omega) (by omega) hr ll (gl x hx)
    rw [e, Option.bind_some]
    congr 1
    have u := needed_iff W hr (f := lf ls) (l := oks (sle ls (lf ls x)) x) (fun i => by
      rw [oks_mem, sle_mem]
      constructor
      · rintro ⟨⟨y, h1, h2⟩, h3⟩
        have hi := (List.getElem?_eq_some_iff.mp h1).1
        rw [gl i (by omega)] at h1
        cases h1
        exact ⟨by omega, h2, h3⟩
      · rintro ⟨h1, h2, h3⟩
        exact ⟨⟨_, gl i h1, h2⟩, h3⟩) ⟨T0, t0⟩
    rw [Bool.eq_iff_iff, hb, ← u, List.all_map, List.all_eq_true]
    constructor
    · intro h T hT
      exact decide_eq_true (h T ((mM T).mp hT).2)
    · intro h T t
      have := of_decide_eq_true (h (isort T) (isrt T t))
      exact (isort_perm T).mem_iff.mp this
set_option maxHeartbeats 2000000 in
theorem law06_ok (ns : List Int) : Ok (p_law ns) fun r => r.1 = true := by
  unfold p_law
  refine Ok.bind (openP_ok ns) fun st p0 => ?_
  refine Ok.bindE (rngP_eq (by omega)) ?_
  refine Ok.forC (fun k v => PenS (k * 10000) v) (by simpa using p0) (fun k x v hx pv => ?_) fun v _ => Ok.ret rfl
  obtain ⟨hk, hx⟩ := List.getElem?_eq_some_iff.mp hx
  rw [List.length_range] at hk
  rw [List.getElem_range] at hx
  subst hx
  obtain ⟨m, em, hm1⟩ : ∃ m, ([10, 7, 5] : List Nat)[k]? = some m ∧ 5 ≤ m ∧ m ≤ 10 := by
    have : k = 0 ∨ k = 1 ∨ k = 2 := by omega
    rcases this with rfl | rfl | rfl
    · exact ⟨10, rfl, by omega⟩
    · exact ⟨7, rfl, by omega⟩
    · exact ⟨5, rfl, by omega⟩
  refine Ok.bindE em ?_
  obtain ⟨w, s1, e1, Wo, p1⟩ := d_web (houses := 6) (most := m) (by omega) (by omega) (by omega) _ v pv (by omega)
  have Wo : WebOk w 6 10 := WebOk.up Wo (by omega) (by omega)
  have hm := Wo.rm
  refine Ok.bindE e1 (Ok.bindE (repr_web Wo) (Ok.bindE (rngP_eq (by show w.rs.length ≤ _; omega)) ?_))
  obtain ⟨l1, s2, e2, ⟨q1, _⟩, p2⟩ := d_lens Wo (by omega) _ s1 p1 (by omega)
  refine Ok.bindE e2 (Ok.bindE rfl ?_)
  refine Ok.bindE (l_raised_eq (w := w) _ (by omega)) (Ok.bindE (l_raised_eq (w := w) _ (by omega)) ?_)
  obtain ⟨L, _, hL, lL⟩ := p_trees_ok Wo.ab Wo.nh Wo.n1 hm
  refine Ok.forCall (fun ls hls => ?_) (Ok.ret ⟨_, rfl, p2.mono (by omega)⟩)
  have ll : ls.length = w.rs.length := by
    simp only [List.mem_cons, List.not_mem_nil, or_false] at hls
    rcases hls with rfl | rfl | rfl | rfl
    · exact q1
    · exact rai_len w _
    · exact rai_len w _
    · exact q1
  obtain ⟨A, B, a1, b1, la, lb, a2, b2⟩ := both_ok Wo hL (by omega) ll
  refine Ok.bindE a2 (Ok.bindE b2 (Ok.bindE a1 (Ok.bindE b1 ?_)))
  refine Ok.bindE (a := ()) (by unfold toldP; rw [if_pos ⟨by omega, by omega⟩]) ?_
  refine Ok.bindE (sameP_eq rfl (sh_h2 (sh_lC (by show A.length ≤ _; omega) fun _ _ => sh_nat _ _) (sh_lC (by show B.length ≤ _; omega) fun _ _ => sh_nat _ _))) ?_
  refine Ok.bindE (a := false) (by show orP false _ = _; rw [repr_web Wo]; simp [orP]) ?_
  refine Ok.ite (fun h => by cases h) fun _ => ?_
  refine Ok.bindE (a := false) ?_ ?_
  · rw [a1, b1]
    by_cases hk2 : k = 2
    · rw [decide_eq_true hk2]
      show some (decide (([A, B] : List (List Nat)) ≠ [A, B])) = _
      simp
    · rw [decide_eq_false hk2]; rfl
  exact Ok.ite (fun h => by cases h) fun _ => Ok.ret rfl
theorem keeps : Keeps m_law := keeps_of (p := p_law) (fun ns r h => q_law ns h) law06_ok
end G

set_option Elab.async false
open PySem PySem.W PyProof.Rows
set_option maxRecDepth 100000 in
set_option maxHeartbeats 0 in
theorem PySem.Challenge.cw_roughroads_k06_roads_for_lengths_holds : PySem.Challenge.rw_roughroads_k06_roads_for_lengths.Holds := by
  w_on; o_law; k_head; (case hw => w_witness2)
  k_fill
  refine Pv.walk_end (l := PySem.Challenge.rw_roughroads_k06_roads_for_lengths) (k := 7) (x := "script") (m := G.m_law) [("one_least" : Str)] rfl rfl (by decide) (fun w h Y => by first | exact PySem.W.kIn_of Y | exact PySem.W.km_in_of Y) ?tabs ?walkF ?lawM
  case tabs => first | rfl | kernel_rfl | decide +kernel
  case walkF =>
    intro w mg fa h KX GX hmg
    refine' G.all_mk KX GX hmg ?a0 ?l0 ?c0 ?k0 ?a1 ?l1 ?c1 ?k1 ?a2 ?l2 ?c2 ?k2 ?a3 ?l3 ?c3 ?k3 ?a4 ?l4 ?c4 ?k4 ?a5 ?l5 ?c5 ?k5 ?a6 ?l6 ?c6 ?k6 ?a7 ?l7 ?c7 ?k7 ?m7 ?i7 ?n7 ?a8 ?l8 ?c8 ?k8 ?a9 ?l9 ?c9 ?k9 ?a10 ?l10 ?c10 ?k10 ?a11 ?l11 ?c11 ?k11 ?a12 ?l12 ?c12 ?k12 ?a13 ?l13 ?c13 ?k13 ?a14 ?l14 ?c14 ?k14 ?a15 ?l15 ?c15 ?k15 ?a16 ?l16 ?c16 ?k16 ?a17 ?l17 ?c17 ?k17 ?a18 ?l18 ?c18 ?k18 ?a19 ?l19 ?c19 ?k19 ?a20 ?l20 ?c20 ?k20 ?a21 ?l21 ?c21 ?k21 ?a22 ?l22 ?c22 ?k22 ?a23 ?l23 ?c23 ?k23 ?a24 ?l24 ?c24 ?k24 ?a25 ?l25 ?c25 ?k25 ?z_all ?z_any ?z_bool ?z_enumerate ?z_int ?z_isinstance ?z_len ?z_list ?z_max ?z_min ?z_range ?z_repr ?z_sorted ?z_str ?z_sum ?z_tuple ?z_zip
    (case a0 => k_is)
    (case l0 => k_is)
    (case c0 => k_is)
    (case k0 => k_is)
    (case a1 => k_is)
    (case l1 => k_is)
    (case c1 => k_is)
    (case k1 => k_is)
    (case a2 => k_is)
    (case l2 => k_is)
    (case c2 => k_is)
    (case k2 => k_is)
    (case a3 => k_is)
    (case l3 => k_is)
    (case c3 => k_is)
    (case k3 => k_is)
    (case a4 => k_is)
    (case l4 => k_is)
    (case c4 => k_is)
    (case k4 => k_is)
    (case a5 => k_is)
    (case l5 => k_is)
    (case c5 => k_is)
    (case k5 => k_is)
    (case a6 => k_is)
    (case l6 => k_is)
    (case c6 => k_is)
    (case k6 => k_is)
    (case a7 => k_is)
    (case l7 => k_is)
    (case c7 => k_is)
    (case k7 => k_is)
    (case m7 => k_is)
    (case i7 => exact rfl)
    (case n7 => first | kernel_rfl | exact rfl)
    (case a8 => k_is)
    (case l8 => k_is)
    (case c8 => k_is)
    (case k8 => k_is)
    (case a9 => k_is)
    (case l9 => k_is)
    (case c9 => k_is)
    (case k9 => k_is)
    (case a10 => k_is)
    (case l10 => k_is)
    (case c10 => k_is)
    (case k10 => k_is)
    (case a11 => k_is)
    (case l11 => k_is)
    (case c11 => k_is)
    (case k11 => k_is)
    (case a12 => k_is)
    (case l12 => k_is)
    (case c12 => k_is)
    (case k12 => k_is)
    (case a13 => k_is)
    (case l13 => k_is)
    (case c13 => k_is)
    (case k13 => k_is)
    (case a14 => k_is)
    (case l14 => k_is)
    (case c14 => k_is)
    (case k14 => k_is)
    (case a15 => k_is)
    (case l15 => k_is)
    (case c15 => k_is)
    (case k15 => k_is)
    (case a16 => k_is)
    (case l16 => k_is)
    (case c16 => k_is)
    (case k16 => k_is)
    (case a17 => k_is)
    (case l17 => k_is)
    (case c17 => k_is)
    (case k17 => k_is)
    (case a18 => k_is)
    (case l18 => k_is)
    (case c18 => k_is)
    (case k18 => k_is)
    (case a19 => k_is)
    (case l19 => k_is)
    (case c19 => k_is)
    (case k19 => k_is)
    (case a20 => k_is)
    (case l20 => k_is)
    (case c20 => k_is)
    (case k20 => k_is)
    (case a21 => k_is)
    (case l21 => k_is)
    (case c21 => k_is)
    (case k21 => k_is)
    (case a22 => k_is)
    (case l22 => k_is)
    (case c22 => k_is)
    (case k22 => k_is)
    (case a23 => k_is)
    (case l23 => k_is)
    (case c23 => k_is)
    (case k23 => k_is)
    (case a24 => k_is)
    (case l24 => k_is)
    (case c24 => k_is)
    (case k24 => k_is)
    (case a25 => k_is)
    (case l25 => k_is)
    (case c25 => k_is)
    (case k25 => k_is)
    (case z_all => k_is)
    (case z_any => k_is)
    (case z_bool => k_is)
    (case z_enumerate => k_is)
    (case z_int => k_is)
    (case z_isinstance => k_is)
    (case z_len => k_is)
    (case z_list => k_is)
    (case z_max => k_is)
    (case z_min => k_is)
    (case z_range => k_is)
    (case z_repr => k_is)
    (case z_sorted => k_is)
    (case z_str => k_is)
    (case z_sum => k_is)
    (case z_tuple => k_is)
    (case z_zip => k_is)
  case lawM => exact G.keeps
#print axioms PySem.Challenge.cw_roughroads_k06_roads_for_lengths_holds

