import PyProof.Rows.All
import Wide.All
import OpenK.AllK
import Wide.FinOn
import HandS.ForMost
import HandS.Deep
import HandS.Wide
import HandS.Walk
import HandS.Conv
import HandS.Zip
import HandS.EndBits
import HandS.TupAny
import HandS.TupMul
import HandS.TupLe
import HandS.Small
import HandS.IsInst
import HandS.More
import HandS.SortInts
import KE.SortData
import PyProof.ReprRoads
import PyProof.FitsInt
import HandS.SetFor
import KE.GoesEnum
import KE.DataMinMax
import PySem.Challenge.RW_roughroads_k44_options_told
set_option Elab.async false
set_option linter.all false
set_option maxRecDepth 100000
set_option autoImplicit false
namespace Pv
open PySem PySem.Spec L2

/-- a value as a tree; hd n: the n-th mutable cell -/
inductive D where
  | non | bl (b : Bool) | int (i : Int) | str (x : Str)
  | tup (xs : List D) | lst (xs : List D) | dct (t : Bool) (kvs : List (D × D)) | hd (n : Nat)
  /-- the script -/
  | scr (ns : List Int)
inductive Slot where
  | non | fro (d : D) | own (d : D)
inductive Cell where
  | d (d : D) | obj (C : Addr) (fs : List (Str × D))
structure Sg where
  env : List Slot
  st : List Cell
inductive RV where
  | fro (d : D) | own (d : D)
def RV.d : RV → D
  | .fro d => d
  | .own d => d

def kD : Key → D
  | .inl i => .int i
  | .inr x => .str x

mutual
inductive Rep (K : PySem.W.Frag) (φ : List Addr) (G : Hp) : V → D → Prop
  | non : Rep K φ G .non .non
  | bl (b : Bool) : Rep K φ G (.bl b) (.bl b)
  | int (i : Int) : Rep K φ G (.int i) (.int i)
  | str (x : Str) : Rep K φ G (.str x) (.str x)
  | tup {a : Addr} {xs : List V} {ds : List D} : G a = some (.tup xs) → RepA K φ G xs ds → Rep K φ G (.ref a) (.tup ds)
  | lst {a : Addr} {xs : List V} {ds : List D} : G a = some (.lst xs) → RepA K φ G xs ds → Rep K φ G (.ref a) (.lst ds)
  | dK {a : Addr} {kvs : List (Key × V)} {ds : List (D × D)} : Rd G a (.dK kvs) → RepK K φ G kvs ds → Rep K φ G (.ref a) (.dct false ds)
  | dT {a : Addr} {kvs : List (List Key × V)} {ds : List (D × D)} : Rd G a (.dT kvs) → RepT K φ G kvs ds → Rep K φ G (.ref a) (.dct true ds)
  | hd {a : Addr} {n : Nat} : φ[n]? = some a → Rep K φ G (.ref a) (.hd n)
  | scr {a : Addr} {ns : List Int} : SqL K G a (ns.map V.int) → Rep K φ G (.ref a) (.scr ns)
inductive RepA (K : PySem.W.Frag) (φ : List Addr) (G : Hp) : List V → List D → Prop
  | nil : RepA K φ G [] []
  | cons {v : V} {vs : List V} {d : D} {ds : List D} : Rep K φ G v d → RepA K φ G vs ds → RepA K φ G (v :: vs) (d :: ds)
inductive RepK (K : PySem.W.Frag) (φ : List Addr) (G : Hp) : List (Key × V) → List (D × D) → Prop
  | nil : RepK K φ G [] []
  | cons {k : Key} {v : V} {vs : List (Key × V)} {d : D} {ds : List (D × D)} : Rep K φ G v d → RepK K φ G vs ds → RepK K φ G ((k, v) :: vs) ((kD k, d) :: ds)
inductive RepT (K : PySem.W.Frag) (φ : List Addr) (G : Hp) : List (List Key × V) → List (D × D) → Prop
  | nil : RepT K φ G [] []
  | cons {k : List Key} {v : V} {vs : List (List Key × V)} {d : D} {ds : List (D × D)} : Rep K φ G v d → RepT K φ G vs ds → RepT K φ G ((k, v) :: vs) ((.tup (k.map kD), d) :: ds)
end

theorem rd_mono {G G' : Hp} (h : Same G G') {a : Addr} {u : HO} : Rd G a u → Rd G' a u
  | .inl e => .inl (h _ _ e)
  | .inr ⟨o, e⟩ => .inr ⟨o, h _ _ e⟩
theorem sqL_mono {K : PySem.W.Frag} {G G' : Hp} (h : Same G G') {a : Addr} {xs : List V} : SqL K G a xs → SqL K G' a xs
  | .inl e => .inl (rd_mono h e)
  | .inr e => .inr e
theorem sqT_mono {K : PySem.W.Frag} {G G' : Hp} (h : Same G G') {a : Addr} {xs : List V} : SqT K G a xs → SqT K G' a xs
  | .inl e => .inl (rd_mono h e)
  | .inr e => .inr e
theorem pre_get {φ φ' : List Addr} (h : φ <+: φ') {n : Nat} {a : Addr} (e : φ[n]? = some a) : φ'[n]? = some a := by
  obtain ⟨t, rfl⟩ := h
  rw [List.getElem?_append_left]
  · exact e
  · exact (List.getElem?_eq_some_iff.mp e).1

section
variable {K : PySem.W.Frag} {φ φ' : List Addr} {G G' : Hp}
mutual
theorem Rep.mono (h : Same G G') (p : φ <+: φ') : ∀ {v d}, Rep K φ G v d → Rep K φ' G' v d
  | _, _, .non => .non
  | _, _, .bl b => .bl b
  | _, _, .int b => .int b
  | _, _, .str b => .str b
  | _, _, .tup s a => .tup (h _ _ s) (RepA.mono h p a)
  | _, _, .lst s a => .lst (h _ _ s) (RepA.mono h p a)
  | _, _, .dK s a => .dK (rd_mono h s) (RepK.mono h p a)
  | _, _, .dT s a => .dT (rd_mono h s) (RepT.mono h p a)
  | _, _, .hd e => .hd (pre_get p e)
  | _, _, .scr e => .scr (sqL_mono h e)
theorem RepA.mono (h : Same G G') (p : φ <+: φ') : ∀ {v d}, RepA K φ G v d → RepA K φ' G' v d
  | _, _, .nil => .nil
  | _, _, .cons a b => .cons (Rep.mono h p a) (RepA.mono h p b)
theorem RepK.mono (h : Same G G') (p : φ <+: φ') : ∀ {v d}, RepK K φ G v d → RepK K φ' G' v d
  | _, _, .nil => .nil
  | _, _, .cons a b => .cons (Rep.mono h p a) (RepK.mono h p b)
theorem RepT.mono (h : Same G G') (p : φ <+: φ') : ∀ {v d}, RepT K φ G v d → RepT K φ' G' v d
  | _, _, .nil => .nil
  | _, _, .cons a b => .cons (Rep.mono h p a) (RepT.mono h p b)
end
end

/-- what stands at an own address -/
inductive Own (K : PySem.W.Frag) (φ : List Addr) (G : Hp) : HO → D → Prop
  | lst {xs ds} : RepA K φ G xs ds → Own K φ G (.lst xs) (.lst ds)
  | dK {kvs ds} : RepK K φ G kvs ds → Own K φ G (.dK kvs) (.dct false ds)
  | dT {kvs ds} : RepT K φ G kvs ds → Own K φ G (.dT kvs) (.dct true ds)
theorem Own.mono {K : PySem.W.Frag} {φ φ' : List Addr} {G G' : Hp} (h : Same G G') (p : φ <+: φ') {o d} : Own K φ G o d → Own K φ' G' o d
  | .lst a => .lst (a.mono h p)
  | .dK a => .dK (a.mono h p)
  | .dT a => .dT (a.mono h p)
theorem Own.rep {K : PySem.W.Frag} {φ : List Addr} {G H : Hp} (h : Same G H) {o d a} (e : H a = some o) : Own K φ G o d → Rep K φ H (.ref a) d
  | .lst r => .lst e (r.mono h (List.prefix_refl _))
  | .dK r => .dK (.inl e) (r.mono h (List.prefix_refl _))
  | .dT r => .dT (.inl e) (r.mono h (List.prefix_refl _))
inductive FsRep (K : PySem.W.Frag) (φ : List Addr) (G : Hp) : List (Str × V) → List (Str × D) → Prop
  | nil : FsRep K φ G [] []
  | cons {k v vs d ds} : Rep K φ G v d → FsRep K φ G vs ds → FsRep K φ G ((k, v) :: vs) ((k, d) :: ds)
theorem FsRep.mono {K : PySem.W.Frag} {φ φ' : List Addr} {G G' : Hp} (h : Same G G') (p : φ <+: φ') : ∀ {o d}, FsRep K φ G o d → FsRep K φ' G' o d
  | _, _, .nil => .nil
  | _, _, .cons a b => .cons (a.mono h p) (b.mono h p)
inductive CellAt (K : PySem.W.Frag) (φ : List Addr) (G : Hp) : HO → Cell → Prop
  | d {o x} : Own K φ G o x → CellAt K φ G o (.d x)
  | obj {C dx fs ds} : FsRep K φ G fs ds → CellAt K φ G (.ins C dx fs) (.obj C ds)
theorem CellAt.mono {K : PySem.W.Frag} {φ φ' : List Addr} {G G' : Hp} (h : Same G G') (p : φ <+: φ') {o d} : CellAt K φ G o d → CellAt K φ' G' o d
  | .d a => .d (a.mono h p)
  | .obj a => .obj (a.mono h p)

/-- what is fixed while a body (or a block) runs: F: what must stay, U: what was there, Z: what is hidden, G0, φ0: at the entry -/
structure Gh where
  K : PySem.W.Frag
  F : Hp
  U : Addr → Prop
  Z : Addr → Prop
  G0 : Hp
  φ0 : List Addr

structure Rel (g : Gh) (G : Hp) (φ : List Addr) (s : Sg) (σ : St) (H : Hp) : Prop where
  sub : Same G H
  g0 : Same g.G0 G
  new : ∀ a o, G a = some o → g.G0 a = some o ∨ ¬ g.U a
  old : Same g.F H
  use : ∀ a, g.U a → H a ≠ none
  zed : ∀ a, g.Z a → G a = none ∧ g.F a ≠ none
  pre : g.φ0 <+: φ
  len : s.env.length = σ.length
  fro : ∀ (i : Nat) d, s.env[i]? = some (Slot.fro d) → ∃ v, σ[i]? = some (some v) ∧ Rep g.K φ G v d
  own : ∀ (i : Nat) d, s.env[i]? = some (Slot.own d) → ∃ p o, σ[i]? = some (some (V.ref p)) ∧ H p = some o ∧ Own g.K φ G o d ∧ G p = none ∧ g.F p = none ∧ ¬ g.U p ∧ p ∉ φ
  sep : ∀ (i j : Nat) d e p, i ≠ j → s.env[i]? = some (Slot.own d) → s.env[j]? = some (Slot.own e) → σ[i]? = some (some (V.ref p)) → σ[j]? ≠ some (some (V.ref p))
  clen : s.st.length = φ.length
  cell : ∀ (n : Nat) a c, φ[n]? = some a → s.st[n]? = some c → ∃ o, H a = some o ∧ CellAt g.K φ G o c ∧ G a = none ∧ g.F a = none ∧ (a ∈ g.φ0 ∨ ¬ g.U a)
  nd : φ.Nodup

/-- the heap grew; what is new in G was not there -/
structure Grow (G H G' H' : Hp) : Prop where
  hh : Same H H'
  gg : Same G G'
  gh : Same G' H'
  new : ∀ a o, G' a = some o → G a = some o ∨ H a = none
theorem Grow.refl {G H : Hp} (h : Same G H) : Grow G H G H := ⟨Same.refl _, Same.refl _, h, fun _ _ e => .inl e⟩
theorem Grow.trans {G H G1 H1 G2 H2 : Hp} (a : Grow G H G1 H1) (b : Grow G1 H1 G2 H2) : Grow G H G2 H2 :=
  ⟨a.hh.trans b.hh, a.gg.trans b.gg, b.gh, fun x o e => by
    rcases b.new x o e with e | e
    · exact a.new x o e
    · exact .inr (a.hh.free e)⟩
theorem same_upd {H : Hp} {p : Addr} {o : HO} (h : H p = none) : Same H (upd H p o) := fun b x e => by
  rw [upd_ne (ne_of_none e h)]
  exact e
theorem upd_mono {G H : Hp} (h : Same G H) {p : Addr} {o : HO} : Same (upd G p o) (upd H p o) := fun b x e => by
  by_cases hb : b = p
  · subst hb; rw [upd_same] at e ⊢; exact e
  · rw [upd_ne hb] at e ⊢; exact h _ _ e
/-- a new thing that goes into G at once -/
theorem Grow.laid {G H : Hp} (h : Same G H) {p : Addr} {o : HO} (hp : H p = none) : Grow G H (upd G p o) (upd H p o) := by
  have gp : G p = none := h.free hp
  refine ⟨same_upd hp, same_upd gp, upd_mono h, fun a x e => ?_⟩
  by_cases ha : a = p
  · subst ha; exact .inr hp
  · rw [upd_ne ha] at e; exact .inl e
/-- a new thing that stays out of G -/
theorem Grow.aside {G H : Hp} (h : Same G H) {p : Addr} {o : HO} (hp : H p = none) : Grow G H G (upd H p o) :=
  ⟨same_upd hp, Same.refl _, h.trans (same_upd hp), fun _ _ e => .inl e⟩

section
variable {g : Gh} {G G' : Hp} {φ : List Addr} {s : Sg} {σ : St} {H H' : Hp}
theorem Rel.grow (R : Rel g G φ s σ H) (x : Grow G H G' H') : Rel g G' φ s σ H' := by
  have gn : ∀ p, G p = none → (∃ o, H p = some o) → G' p = none := fun p h1 ⟨o, h2⟩ => by
    cases q : G' p with
    | none => rfl
    | some u =>
      rcases x.new p u q with e | e
      · rw [h1] at e; cases e
      · rw [h2] at e; cases e
  refine ⟨x.gh, R.g0.trans x.gg, fun a o e => ?_, R.old.trans x.hh, fun a u h => R.use a u (x.hh.free h), fun a z => ⟨?_, (R.zed a z).2⟩, R.pre, R.len, fun i d e => ?_, fun i d e => ?_, R.sep, R.clen, fun n a c e1 e2 => ?_, R.nd⟩
  · rcases x.new a o e with e | e
    · exact R.new a o e
    · exact .inr fun u => R.use a u e
  · cases q : g.F a with
    | none => exact absurd q (R.zed a z).2
    | some o => exact gn a (R.zed a z).1 ⟨o, R.old a o q⟩
  · obtain ⟨v, h1, h2⟩ := R.fro i d e
    exact ⟨v, h1, h2.mono x.gg (List.prefix_refl _)⟩
  · obtain ⟨p, o, h1, h2, h3, h4, h5, h6, h7⟩ := R.own i d e
    exact ⟨p, o, h1, x.hh _ _ h2, h3.mono x.gg (List.prefix_refl _), gn p h4 ⟨o, h2⟩, h5, h6, h7⟩
  · obtain ⟨o, h1, h2, h3, h4, h5⟩ := R.cell n a c e1 e2
    exact ⟨o, x.hh _ _ h1, h2.mono x.gg (List.prefix_refl _), gn a h3 ⟨o, h1⟩, h4, h5⟩

/-- an own thing that no slot holds yet -/
structure Fresh (g : Gh) (G : Hp) (φ : List Addr) (s : Sg) (σ : St) (H : Hp) (p : Addr) (o : HO) (d : D) : Prop where
  at_ : H p = some o
  own : Own g.K φ G o d
  gp : G p = none
  fp : g.F p = none
  up : ¬ g.U p
  ph : p ∉ φ
  sl : ∀ (i : Nat) e, s.env[i]? = some (Slot.own e) → σ[i]? ≠ some (some (V.ref p))
theorem Fresh.of_new {p : Addr} {o : HO} {d : D} (R : Rel g G φ s σ H) (x : Grow G H G' H') (hp : H p = none) (h' : H' p = some o) (gp : G' p = none) (w : Own g.K φ G' o d) : Fresh g G' φ s σ H' p o d := by
  refine ⟨h', w, gp, R.old.free hp, fun u => R.use p u hp, fun hm => ?_, fun i e h1 h2 => ?_⟩
  · obtain ⟨n, hn⟩ := List.getElem?_of_mem hm
    have hl : n < s.st.length := by rw [R.clen]; exact (List.getElem?_eq_some_iff.mp hn).1
    obtain ⟨o', e, _⟩ := R.cell n p _ hn (List.getElem?_eq_getElem hl)
    rw [hp] at e; cases e
  · obtain ⟨q, o', e1, e2, _⟩ := R.own i e h1
    rw [h2] at e1
    cases e1
    rw [hp] at e2; cases e2
/-- a fresh thing is frozen -/
theorem Rel.freeze {p : Addr} {o : HO} {d : D} (R : Rel g G φ s σ H) (F : Fresh g G φ s σ H p o d) : Rel g (upd G p o) φ s σ H ∧ Same G (upd G p o) ∧ Rep g.K φ (upd G p o) (.ref p) d := by
  have sm : Same G (upd G p o) := same_upd F.gp
  refine ⟨⟨fun a x e => ?_, R.g0.trans sm, fun a x e => ?_, R.old, R.use, fun a z => ⟨?_, (R.zed a z).2⟩, R.pre, R.len, fun i d e => ?_, fun i d e => ?_, R.sep, R.clen, fun n a c e1 e2 => ?_, R.nd⟩, sm, ?_⟩
  · by_cases ha : a = p
    · subst ha; rw [upd_same] at e; cases e; exact F.at_
    · rw [upd_ne ha] at e; exact R.sub a x e
  · by_cases ha : a = p
    · subst ha; exact .inr F.up
    · rw [upd_ne ha] at e; exact R.new a x e
  · rw [upd_ne (by rintro rfl; exact (R.zed a z).2 F.fp)]
    exact (R.zed a z).1
  · obtain ⟨v, h1, h2⟩ := R.fro i d e
    exact ⟨v, h1, h2.mono sm (List.prefix_refl _)⟩
  · obtain ⟨q, o', h1, h2, h3, h4, h5, h6, h7⟩ := R.own i d e
    refine ⟨q, o', h1, h2, h3.mono sm (List.prefix_refl _), ?_, h5, h6, h7⟩
    rw [upd_ne (by rintro rfl; exact F.sl i d e h1)]
    exact h4
  · obtain ⟨o', h1, h2, h3, h4, h5⟩ := R.cell n a c e1 e2
    refine ⟨o', h1, h2.mono sm (List.prefix_refl _), ?_, h4, h5⟩
    rw [upd_ne (by rintro rfl; exact F.ph (List.mem_of_getElem? e1))]
    exact h3
  · exact F.own.rep (H := upd G p o) sm upd_same
end
end Pv

namespace Pv
open PySem PySem.Spec L2

theorem pe_imp {X : Cx} {e : Expr} {t t' : TE} (h : PE X e t) (f : ∀ σ H Q, t' σ H Q → t σ H Q) : PE X e t' := ⟨fun pins s σ H Q I q => h.run pins s σ H Q I (f _ _ _ q)⟩
theorem pt_imp {X : Cx} {e : Expr} {t t' : TT} (h : PT X e t) (f : ∀ σ H Q, t' σ H Q → t σ H Q) : PT X e t' := ⟨fun pins s σ H Q I q => h.run pins s σ H Q I (f _ _ _ q)⟩
theorem pw_imp {X : Cx} {e : Expr} {t t' : TT} (h : PW X e t) (f : ∀ σ H Q, t' σ H Q → t σ H Q) : PW X e t' := ⟨fun wh pins s σ H Q I q => h.run wh pins s σ H Q I (f _ _ _ q)⟩
theorem pa_imp {X : Cx} {e : List Expr} {t t' : TA} (h : PA X e t) (f : ∀ σ H Q, t' σ H Q → t σ H Q) : PA X e t' := ⟨fun pos pins s σ H Q I q => h.run pos pins s σ H Q I (f _ _ _ q)⟩
theorem ps_imp {X : Cx} {e : Stmt} {t t' : TS} (h : PS X e t) (f : ∀ D σ H, t' D σ H → t D σ H) : PS X e t' := ⟨fun pins s σ H D I q => h.run pins s σ H D I (f _ _ _ q)⟩
theorem pss_imp {X : Cx} {e : List Stmt} {t t' : TS} (h : PSs X e t) (f : ∀ D σ H, t' D σ H → t D σ H) : PSs X e t' := ⟨fun pins s σ H D I q => h.run pins s σ H D I (f _ _ _ q)⟩

/-- what a result is -/
inductive Res (g : Gh) (G : Hp) (φ : List Addr) (s : Sg) (σ : St) (H : Hp) : V → RV → Prop
  | fro {v d} : Rep g.K φ G v d → Res g G φ s σ H v (.fro d)
  | own {p o d} : Fresh g G φ s σ H p o d → Res g G φ s σ H (.ref p) (.own d)

abbrev Ev (α : Type) := Sg → Option (α × Sg)
def tR (K : PySem.W.Frag) (ev : Ev RV) : TE := fun σ H Q => ∃ g G φ s r s', g.K = K ∧ Rel g G φ s σ H ∧ ev s = some (r, s') ∧
  ∀ G' φ' H' v, Rel g G' φ' s' σ H' → Same G G' → φ <+: φ' → Res g G' φ' s' σ H' v r → Q v H'
def SR (X : Cx) (e : Expr) (ev : Ev RV) : Prop := PE X e (tR X.K ev)

/-- an operand: a tree, or a name's slot -/
inductive Bor where
  | val (d : D) | slot (i : Nat)
def BorRep (K : PySem.W.Frag) (φ : List Addr) (G : Hp) (σ : St) (v : V) : Bor → Prop
  | .val d => Rep K φ G v d
  | .slot i => σ[i]? = some (some v)
theorem BorRep.mono {K : PySem.W.Frag} {φ φ' : List Addr} {G G' : Hp} {σ : St} {v : V} (h : Same G G') (p : φ <+: φ') : ∀ {b : Bor}, BorRep K φ G σ v b → BorRep K φ' G' σ v b
  | .val _, r => Rep.mono h p r
  | .slot _, r => r
def tO (K : PySem.W.Frag) (ev : Ev Bor) : TE := fun σ H Q => ∃ g G φ s r s', g.K = K ∧ Rel g G φ s σ H ∧ ev s = some (r, s') ∧
  ∀ G' φ' H' v, Rel g G' φ' s' σ H' → Same G G' → φ <+: φ' → BorRep g.K φ' G' σ v r → Q v H'
def SB (X : Cx) (e : Expr) (ev : Ev Bor) : Prop := PE X e (tO X.K ev)
def evV (ev : Ev RV) : Ev Bor := fun s => (ev s).map fun p => (.val p.1.d, p.2)
theorem Res.froz {g : Gh} {G : Hp} {φ : List Addr} {s : Sg} {σ : St} {H : Hp} {v : V} {r : RV} (R : Rel g G φ s σ H) (x : Res g G φ s σ H v r) : ∃ G', Rel g G' φ s σ H ∧ Same G G' ∧ Rep g.K φ G' v r.d := by
  cases x with
  | fro h => exact ⟨G, R, Same.refl _, h⟩
  | own F => exact ⟨_, R.freeze F⟩
theorem sb_of {X : Cx} {e : Expr} {ev : Ev RV} (h : SR X e ev) : SB X e (evV ev) := pe_imp h fun σ H Q ⟨g, G, φ, s, r, s', hK, R, he, q⟩ => by
  unfold evV at he
  cases e1 : ev s with
  | none => rw [e1] at he; cases he
  | some p =>
    rw [e1] at he
    cases he
    refine ⟨g, G, φ, s, p.1, p.2, hK, R, e1, fun G' φ' H' v R' h1 h2 x => ?_⟩
    obtain ⟨G2, R2, h3, rp⟩ := x.froz R'
    exact q G2 φ' H' v R2 (h1.trans h3) h2 rp

/-- a list of frozen values -/
def tAs (K : PySem.W.Frag) (ev : Ev (List D)) : TA := fun σ H Q => ∃ g G φ s r s', g.K = K ∧ Rel g G φ s σ H ∧ ev s = some (r, s') ∧
  ∀ G' φ' H' v, Rel g G' φ' s' σ H' → Same G G' → φ <+: φ' → RepA g.K φ' G' v r → Q v H'
def SA (X : Cx) (es : List Expr) (ev : Ev (List D)) : Prop := PA X es (tAs X.K ev)
def evNil : Ev (List D) := fun s => some ([], s)
def evCons (a : Ev RV) (b : Ev (List D)) : Ev (List D) := fun s => (a s).bind fun p => (b p.2).map fun q => (p.1.d :: q.1, q.2)
theorem sa_nil {X : Cx} : SA X [] evNil := pa_imp pa_nil fun σ H Q ⟨g, G, φ, s, r, s', hK, R, he, q⟩ => by
  cases he
  exact q G φ H [] R (Same.refl _) (List.prefix_refl _) .nil
theorem sa_cons {X : Cx} {e : Expr} {es : List Expr} {a : Ev RV} {b : Ev (List D)} (ha : SR X e a) (hb : SA X es b) (hs : starEach (e :: es) X.env = (false, eval e X.env) :: starEach es X.env := by rfl) : SA X (e :: es) (evCons a b) :=
  pa_imp (pa_cons ha hb hs) fun σ H Q ⟨g, G, φ, s, r, s', hK, R, he, q⟩ => by
    unfold evCons at he
    cases e1 : a s with
    | none => rw [e1] at he; cases he
    | some p =>
      rw [e1] at he
      simp only [Option.bind_some] at he
      cases e2 : b p.2 with
      | none => rw [e2] at he; cases he
      | some y =>
        rw [e2] at he
        cases he
        refine ⟨g, G, φ, s, p.1, p.2, hK, R, e1, fun G1 φ1 H1 v R1 h1 h2 x => ?_⟩
        obtain ⟨G2, R2, h3, rp⟩ := x.froz R1
        refine ⟨g, G2, φ1, p.2, y.1, y.2, hK, R2, e2, fun G3 φ3 H3 vs R3 h4 h5 ra => ?_⟩
        exact q G3 φ3 H3 (v :: vs) R3 ((h1.trans h3).trans h4) (h2.trans h5) (.cons (rp.mono h4 h5) ra)
/-- a list of operands -/
inductive BorAll (K : PySem.W.Frag) (φ : List Addr) (G : Hp) (σ : St) : List V → List Bor → Prop
  | nil : BorAll K φ G σ [] []
  | cons {v vs b bs} : BorRep K φ G σ v b → BorAll K φ G σ vs bs → BorAll K φ G σ (v :: vs) (b :: bs)
def tOs (K : PySem.W.Frag) (ev : Ev (List Bor)) : TA := fun σ H Q => ∃ g G φ s r s', g.K = K ∧ Rel g G φ s σ H ∧ ev s = some (r, s') ∧
  ∀ G' φ' H' v, Rel g G' φ' s' σ H' → Same G G' → φ <+: φ' → BorAll g.K φ' G' σ v r → Q v H'
def SBs (X : Cx) (es : List Expr) (ev : Ev (List Bor)) : Prop := PA X es (tOs X.K ev)
def evNilB : Ev (List Bor) := fun s => some ([], s)
def evConsB (a : Ev Bor) (b : Ev (List Bor)) : Ev (List Bor) := fun s => (a s).bind fun p => (b p.2).map fun q => (p.1 :: q.1, q.2)
theorem sbs_nil {X : Cx} : SBs X [] evNilB := pa_imp pa_nil fun σ H Q ⟨g, G, φ, s, r, s', hK, R, he, q⟩ => by
  cases he
  exact q G φ H [] R (Same.refl _) (List.prefix_refl _) .nil
theorem sbs_cons {X : Cx} {e : Expr} {es : List Expr} {a : Ev Bor} {b : Ev (List Bor)} (ha : SB X e a) (hb : SBs X es b) (hs : starEach (e :: es) X.env = (false, eval e X.env) :: starEach es X.env := by rfl) : SBs X (e :: es) (evConsB a b) :=
  pa_imp (pa_cons ha hb hs) fun σ H Q ⟨g, G, φ, s, r, s', hK, R, he, q⟩ => by
    unfold evConsB at he
    cases e1 : a s with
    | none => rw [e1] at he; cases he
    | some p =>
      rw [e1] at he
      simp only [Option.bind_some] at he
      cases e2 : b p.2 with
      | none => rw [e2] at he; cases he
      | some y =>
        rw [e2] at he
        cases he
        refine ⟨g, G, φ, s, p.1, p.2, hK, R, e1, fun G1 φ1 H1 v R1 h1 h2 x => ?_⟩
        refine ⟨g, G1, φ1, p.2, y.1, y.2, hK, R1, e2, fun G3 φ3 H3 vs R3 h4 h5 ra => ?_⟩
        exact q G3 φ3 H3 (v :: vs) R3 (h1.trans h4) (h2.trans h5) (.cons (x.mono h4 h5) ra)

/-- tests -/
def tT (K : PySem.W.Frag) (ev : Ev Bool) : TT := fun σ H Q => ∃ g G φ s r s', g.K = K ∧ Rel g G φ s σ H ∧ ev s = some (r, s') ∧
  ∀ G' φ' H', Rel g G' φ' s' σ H' → Same G G' → φ <+: φ' → Q r H'
def ST (X : Cx) (e : Expr) (ev : Ev Bool) : Prop := PT X e (tT X.K ev)
def SW (X : Cx) (e : Expr) (ev : Ev Bool) : Prop := PW X e (tT X.K ev)

def deref (s : Sg) : D → D
  | .hd n => match s.st[n]? with
    | some (.d x) => x
    | _ => .hd n
  | d => d
def fetch (s : Sg) : Bor → Option D
  | .val d => some (deref s d)
  | .slot i => match s.env[i]? with
    | some (.fro d) => some (deref s d)
    | some (.own d) => some d
    | _ => none
inductive OpRep (K : PySem.W.Frag) (φ : List Addr) (G H : Hp) : V → D → Prop
  | fro {v d} : Rep K φ G v d → OpRep K φ G H v d
  | own {p o d} : H p = some o → Own K φ G o d → OpRep K φ G H (.ref p) d
section
variable {g : Gh} {G : Hp} {φ : List Addr} {s : Sg} {σ : St} {H : Hp} {v : V} {d : D}
theorem Rel.deref (R : Rel g G φ s σ H) (r : Rep g.K φ G v d) : OpRep g.K φ G H v (deref s d) := by
  cases d with
  | hd n =>
    show OpRep g.K φ G H v (match s.st[n]? with
      | some (.d x) => x
      | _ => .hd n)
    cases e : s.st[n]? with
    | none => exact .fro r
    | some c =>
      cases c with
      | obj C fs => exact .fro r
      | d x =>
        cases r with
        | hd ha =>
          obtain ⟨o, h1, h2, _⟩ := R.cell n _ _ ha e
          cases h2 with
          | d w => exact .own h1 w
  | _ => exact .fro r
theorem Rel.fetch {b : Bor} (R : Rel g G φ s σ H) (r : BorRep g.K φ G σ v b) (h : fetch s b = some d) : OpRep g.K φ G H v d := by
  cases b with
  | val x =>
    cases h
    exact R.deref r
  | slot i =>
    have r : σ[i]? = some (some v) := r
    have h : (match s.env[i]? with
      | some (Slot.fro d) => some (Pv.deref s d)
      | some (Slot.own d) => some d
      | _ => none) = some d := h
    cases e : s.env[i]? with
    | none => rw [e] at h; cases h
    | some sl =>
      rw [e] at h
      cases sl with
      | non => cases h
      | fro x =>
        cases h
        obtain ⟨v', h1, h2⟩ := R.fro i x e
        rw [r] at h1
        cases h1
        exact R.deref h2
      | own x =>
        cases h
        obtain ⟨p, o, h1, h2, h3, _⟩ := R.own i _ e
        rw [r] at h1
        cases h1
        exact .own h2 h3
end
inductive OpAll (K : PySem.W.Frag) (φ : List Addr) (G H : Hp) : List V → List D → Prop
  | nil : OpAll K φ G H [] []
  | cons {v vs d ds} : OpRep K φ G H v d → OpAll K φ G H vs ds → OpAll K φ G H (v :: vs) (d :: ds)
def fetchAll (s : Sg) : List Bor → Option (List D)
  | [] => some []
  | b :: bs => (fetch s b).bind fun d => (fetchAll s bs).map fun ds => d :: ds
theorem Rel.fetchAll {g : Gh} {G : Hp} {φ : List Addr} {s : Sg} {σ : St} {H : Hp} (R : Rel g G φ s σ H) : ∀ {vs : List V} {bs : List Bor} {ds : List D}, BorAll g.K φ G σ vs bs → Pv.fetchAll s bs = some ds → OpAll g.K φ G H vs ds
  | _, _, _, .nil, h => by cases h; exact .nil
  | _, _, _, .cons (b := b) (bs := bs) r rs, h => by
    unfold Pv.fetchAll at h
    cases e1 : Pv.fetch s b with
    | none => rw [e1] at h; cases h
    | some d =>
      rw [e1] at h
      simp only [Option.bind_some] at h
      cases e2 : Pv.fetchAll s bs with
      | none => rw [e2] at h; cases h
      | some ds' =>
        rw [e2] at h
        cases h
        exact .cons (R.fetch r e1) (Rel.fetchAll R rs e2)

/-- the result of an operation -/
inductive ORes (K : PySem.W.Frag) (φ : List Addr) (H G' H' : Hp) : V → RV → Prop
  | fro {v d} : Rep K φ G' v d → ORes K φ H G' H' v (.fro d)
  | own {p o d} : H p = none → H' p = some o → G' p = none → Own K φ G' o d → ORes K φ H G' H' (.ref p) (.own d)
def OkRes (K : PySem.W.Frag) (φ : List Addr) (G H : Hp) (r : RV) (Q : VK) : Prop := ∀ G' H' v, Grow G H G' H' → ORes K φ H G' H' v r → Q v H'
theorem ORes.res {g : Gh} {G G' : Hp} {φ : List Addr} {s : Sg} {σ : St} {H H' : Hp} {v : V} {r : RV} (R : Rel g G φ s σ H) (x : Grow G H G' H') (o : ORes g.K φ H G' H' v r) : Res g G' φ s σ H' v r := by
  cases o with
  | fro h => exact .fro h
  | own h1 h2 h3 h4 => exact .own (Fresh.of_new R x h1 h2 h3 h4)

abbrev Op1 := D → Option RV
abbrev Op2 := D → D → Option RV
abbrev OpN := List D → Option RV
def rV2 (K : PySem.W.Frag) (f : Op2) : R2 := fun x y H Q => ∃ φ G dx dy r, Same G H ∧ OpRep K φ G H x dx ∧ OpRep K φ G H y dy ∧ f dx dy = some r ∧ OkRes K φ G H r Q
def rVN (K : PySem.W.Frag) (f : OpN) : List V → Hp → VK → Prop := fun xs H Q => ∃ φ G ds r, Same G H ∧ OpAll K φ G H xs ds ∧ f ds = some r ∧ OkRes K φ G H r Q
def DOp (X : Cx) (f : Value → Value → Sem Value) (op : Op2) : Prop := OpR X f (rV2 X.K op)
def DIx (X : Cx) (op : Op2) : Prop := IxR X (rV2 X.K op)
def DCall (X : Cx) (f : Value) (op : OpN) : Prop := CallR X f (rVN X.K op)

def ev2 (f : Op2) (a b : Ev Bor) : Ev RV := fun s => (a s).bind fun p => (b p.2).bind fun q => (fetch q.2 p.1).bind fun dx => (fetch q.2 q.1).bind fun dy => (f dx dy).map fun r => (r, q.2)
def evN (f : OpN) (a : Ev (List Bor)) : Ev RV := fun s => (a s).bind fun p => (fetchAll p.2 p.1).bind fun ds => (f ds).map fun r => (r, p.2)

theorem bind_some_iff {α β : Type} {o : Option α} {f : α → Option β} {b : β} : o.bind f = some b → ∃ a, o = some a ∧ f a = some b := by
  cases o with
  | none => intro h; cases h
  | some a => intro h; exact ⟨a, rfl, h⟩
theorem map_some_iff {α β : Type} {o : Option α} {f : α → β} {b : β} : o.map f = some b → ∃ a, o = some a ∧ f a = b := by
  cases o with
  | none => intro h; cases h
  | some a => intro h; cases h; exact ⟨a, rfl, rfl⟩

theorem op2_core {X : Cx} {a b : Expr} {ta tb : Ev Bor} {f : Op2} {σ : St} {H : Hp} {Q : VK} (h : tR X.K (ev2 f ta tb) σ H Q) : tOp (rV2 X.K f) (tO X.K ta) (tO X.K tb) σ H Q := by
  obtain ⟨g, G, φ, s, r, s', hK, R, he, q⟩ := h
  obtain ⟨p, e1, he⟩ := bind_some_iff he
  obtain ⟨y, e2, he⟩ := bind_some_iff he
  obtain ⟨dx, e3, he⟩ := bind_some_iff he
  obtain ⟨dy, e4, he⟩ := bind_some_iff he
  obtain ⟨r', e5, he⟩ := map_some_iff he
  cases he
  refine ⟨g, G, φ, s, p.1, p.2, hK, R, e1, fun G1 φ1 H1 v R1 h1 h2 x1 => ?_⟩
  refine ⟨g, G1, φ1, p.2, y.1, y.2, hK, R1, e2, fun G2 φ2 H2 u R2 h3 h4 x2 => ?_⟩
  refine ⟨φ2, G2, dx, dy, r, R2.sub, hK ▸ R2.fetch (x1.mono h3 h4) e3, hK ▸ R2.fetch x2 e4, e5, fun G3 H3 w gr o => ?_⟩
  exact q G3 φ2 H3 w (R2.grow gr) ((h1.trans h3).trans gr.gg) (h2.trans h4) (ORes.res R2 gr (hK ▸ o))
theorem sr_bin {X : Cx} {a b : Expr} {ta tb : Ev Bor} {f : Op2} {op : Operator} {pos : Pos} (ho : DOp X (binaryOp op) f) (ha : SB X a ta) (hb : SB X b tb) : SR X (.BinOp a op b pos) (ev2 f ta tb) :=
  pe_imp (pe_op ho ha hb) fun _ _ _ h => op2_core (a := a) (b := b) h
theorem sr_cmp {X : Cx} {a b : Expr} {ta tb : Ev Bor} {f : Op2} {op : CmpOp} {pos : Pos} (ho : DOp X (compareOp op) f) (ha : SB X a ta) (hb : SB X b tb) (hm : behindInMarks op b = false) : SR X (.Compare a [op] [b] pos) (ev2 f ta tb) :=
  pe_imp (pe_cmpR ho ha hb hm) fun _ _ _ h => op2_core (a := a) (b := b) h
theorem sr_ix {X : Cx} {a b : Expr} {ta tb : Ev Bor} {f : Op2} {pos : Pos} (ho : DIx X f) (ha : SB X a ta) (hb : SB X b tb) (hs : PlainIx b) : SR X (.Subscript a b pos) (ev2 f ta tb) :=
  pe_imp (pe_ix ho ha hb hs) fun _ _ _ h => op2_core (a := a) (b := b) h
theorem opN_core {X : Cx} {ta : Ev (List Bor)} {f : OpN} {σ : St} {H : Hp} {Q : VK} (h : tR X.K (evN f ta) σ H Q) : tCB (rVN X.K f) (tOs X.K ta) σ H Q := by
  obtain ⟨g, G, φ, s, r, s', hK, R, he, q⟩ := h
  obtain ⟨p, e1, he⟩ := bind_some_iff he
  obtain ⟨ds, e2, he⟩ := bind_some_iff he
  obtain ⟨r', e5, he⟩ := map_some_iff he
  cases he
  refine ⟨g, G, φ, s, p.1, p.2, hK, R, e1, fun G1 φ1 H1 v R1 h1 h2 x1 => ?_⟩
  refine ⟨φ1, G1, ds, r, R1.sub, hK ▸ R1.fetchAll x1 e2, e5, fun G3 H3 w gr o => ?_⟩
  exact q G3 φ1 H3 w (R1.grow gr) (h1.trans gr.gg) h2 (ORes.res R1 gr (hK ▸ o))
theorem sr_callB {X : Cx} {x : Str} {e : Expr} {es : List Expr} {ta : Ev (List Bor)} {f : OpN} {id : String} {p pos : Pos} (hc : DCall X (.builtin id) f) (hg : Gl X x) (hm : X.mg x = none) (hv : bootBuiltins x = some (.builtin id)) (ha : SBs X (e :: es) ta) (hn : x ≠ "__name__" := by decide) (hdb : (x == ("__debug__" : Str)) = false := by decide)
    (he : starEach (e :: es) X.env = (false, eval e X.env) :: starEach es X.env := by rfl) (hpl : (backTo pos (starEach es X.env)).any (·.1) = false := by rfl) : SR X (.Call (.Name x p) (e :: es) [] pos) (evN f ta) :=
  pe_imp (pe_callB hc hg hm hv ha hn hdb he hpl) fun _ _ _ h => opN_core h
theorem sr_callTy {X : Cx} {x : Str} {e : Expr} {es : List Expr} {ta : Ev (List Bor)} {f : OpN} {T : String} {p pos : Pos} (hc : DCall X (.type T) f) (hg : Gl X x) (hm : X.mg x = none) (hv : bootBuiltins x = some (.type T)) (ha : SBs X (e :: es) ta) (hn : x ≠ "__name__" := by decide) (hdb : (x == ("__debug__" : Str)) = false := by decide)
    (he : starEach (e :: es) X.env = (false, eval e X.env) :: starEach es X.env := by rfl) (hpl : (backTo pos (starEach es X.env)).any (·.1) = false := by rfl) : SR X (.Call (.Name x p) (e :: es) [] pos) (evN f ta) :=
  pe_imp (pe_callTy hc hg hm hv ha hn hdb he hpl) fun _ _ _ h => opN_core h

def evName (i : Nat) : Ev RV := fun s => match s.env[i]? with
  | some (.fro d) => some (.fro d, s)
  | some (.own d) => some (.fro d, { s with env := s.env.set i (.fro d) })
  | _ => none
/-- an own slot gets frozen -/
theorem Rel.leak {g : Gh} {G : Hp} {φ : List Addr} {s : Sg} {σ : St} {H : Hp} {i : Nat} {d : D} (R : Rel g G φ s σ H) (e : s.env[i]? = some (.own d)) :
    ∃ v G', σ[i]? = some (some v) ∧ Rel g G' φ { s with env := s.env.set i (.fro d) } σ H ∧ Same G G' ∧ Rep g.K φ G' v d := by
  obtain ⟨p, o, h1, h2, h3, h4, h5, h6, h7⟩ := R.own i d e
  have il : i < s.env.length := (List.getElem?_eq_some_iff.mp e).1
  have sm : Same G (upd G p o) := same_upd h4
  have rp : Rep g.K φ (upd G p o) (.ref p) d := h3.rep (H := upd G p o) sm upd_same
  refine ⟨.ref p, upd G p o, h1, ⟨fun a x q => ?_, R.g0.trans sm, fun a x q => ?_, R.old, R.use, fun a z => ⟨?_, (R.zed a z).2⟩, R.pre, by simpa using R.len, fun j x q => ?_, fun j x q => ?_, fun j k x y q hjk a b => ?_, R.clen, fun n a c a1 a2 => ?_, R.nd⟩, sm, rp⟩
  · by_cases ha : a = p
    · subst ha; rw [upd_same] at q; cases q; exact h2
    · rw [upd_ne ha] at q; exact R.sub a x q
  · by_cases ha : a = p
    · subst ha; exact .inr h6
    · rw [upd_ne ha] at q; exact R.new a x q
  · rw [upd_ne (by rintro rfl; exact (R.zed a z).2 h5)]
    exact (R.zed a z).1
  · by_cases hj : j = i
    · subst hj
      rw [List.getElem?_set_self il] at q
      cases q
      exact ⟨_, h1, rp⟩
    · rw [List.getElem?_set_ne (Ne.symm hj)] at q
      obtain ⟨v, a1, a2⟩ := R.fro j x q
      exact ⟨v, a1, a2.mono sm (List.prefix_refl _)⟩
  · by_cases hj : j = i
    · subst hj
      rw [List.getElem?_set_self il] at q
      cases q
    · rw [List.getElem?_set_ne (Ne.symm hj)] at q
      obtain ⟨p', o', a1, a2, a3, a4, a5, a6, a7⟩ := R.own j x q
      refine ⟨p', o', a1, a2, a3.mono sm (List.prefix_refl _), ?_, a5, a6, a7⟩
      rw [upd_ne (by rintro rfl; exact R.sep i j _ _ _ (Ne.symm hj) e q h1 a1)]
      exact a4
  · by_cases hj : j = i
    · subst hj
      rw [List.getElem?_set_self il] at a
      cases a
    · by_cases hk : k = i
      · subst hk
        rw [List.getElem?_set_self il] at b
        cases b
      · rw [List.getElem?_set_ne (Ne.symm hj)] at a
        rw [List.getElem?_set_ne (Ne.symm hk)] at b
        exact R.sep j k x y q hjk a b
  · obtain ⟨o', b1, b2, b3, b4, b5⟩ := R.cell n a c a1 a2
    refine ⟨o', b1, b2.mono sm (List.prefix_refl _), ?_, b4, b5⟩
    rw [upd_ne (by rintro rfl; exact h7 (List.mem_of_getElem? a1))]
    exact b3
theorem sr_name {X : Cx} (i : Nat) {x : Str} {pos : Pos} (hN : X.N[i]? = some x := by rfl) (hv : Vis X.env.scope x := by first | exact Or.inl rfl | exact Or.inr (Or.inl rfl) | exact Or.inr (Or.inr rfl)) (hd : (x == ("__debug__" : Str)) = false := by decide)
    (hcd : (x == ("__classdict__" : Str)) = false := by decide) : SR X (.Name x pos) (evName i) := pe_imp (pe_var hN hv hd hcd) fun σ H Q ⟨g, G, φ, s, r, s', hK, R, he, q⟩ => by
  unfold evName at he
  cases e : s.env[i]? with
  | none => rw [e] at he; cases he
  | some sl =>
    rw [e] at he
    cases sl with
    | non => cases he
    | fro d =>
      cases he
      obtain ⟨v, h1, h2⟩ := R.fro i d e
      exact ⟨v, h1, q G φ H v R (Same.refl _) (List.prefix_refl _) (.fro h2)⟩
    | own d =>
      cases he
      obtain ⟨v, G', h1, R', h2, h3⟩ := R.leak e
      exact ⟨v, h1, q G' φ H v R' h2 (List.prefix_refl _) (.fro h3)⟩
def evSlot (i : Nat) : Ev Bor := fun s => match s.env[i]? with
  | some .non => none
  | some _ => some (.slot i, s)
  | none => none
theorem sb_name {X : Cx} (i : Nat) {x : Str} {pos : Pos} (hN : X.N[i]? = some x := by rfl) (hv : Vis X.env.scope x := by first | exact Or.inl rfl | exact Or.inr (Or.inl rfl) | exact Or.inr (Or.inr rfl)) (hd : (x == ("__debug__" : Str)) = false := by decide)
    (hcd : (x == ("__classdict__" : Str)) = false := by decide) : SB X (.Name x pos) (evSlot i) := pe_imp (pe_var hN hv hd hcd) fun σ H Q ⟨g, G, φ, s, r, s', hK, R, he, q⟩ => by
  unfold evSlot at he
  have : ∃ v, σ[i]? = some (some v) ∧ r = .slot i ∧ s' = s := by
    cases e : s.env[i]? with
    | none => rw [e] at he; cases he
    | some sl =>
      rw [e] at he
      cases sl with
      | non => cases he
      | fro d =>
        cases he
        obtain ⟨v, h1, h2⟩ := R.fro i d e
        exact ⟨v, h1, rfl, rfl⟩
      | own d =>
        cases he
        obtain ⟨p, o, h1, _⟩ := R.own i d e
        exact ⟨_, h1, rfl, rfl⟩
  obtain ⟨v, h1, rfl, rfl⟩ := this
  exact ⟨v, h1, q G φ H v R (Same.refl _) (List.prefix_refl _) h1⟩
def evC (d : D) : Ev RV := fun s => some (.fro d, s)
theorem sr_c {X : Cx} {e : Expr} {v : V} {d : D} (h : PE X e (tC v)) (r : ∀ K φ G, Rep K φ G v d) : SR X e (evC d) := pe_imp h fun σ H Q ⟨g, G, φ, s, r', s', hK, R, he, q⟩ => by
  cases he
  exact q G φ H v R (Same.refl _) (List.prefix_refl _) (.fro (r _ _ _))
section
variable {X : Cx} {j : Nat} {pos : Pos}
theorem sr_int {i : Int} : SR X (.Constant (.int i) j pos) (evC (.int i)) := sr_c pe_int fun _ _ _ => .int i
theorem sr_bl {i : Bool} : SR X (.Constant (.bool i) j pos) (evC (.bl i)) := sr_c pe_bl fun _ _ _ => .bl i
theorem sr_str {i : Str} : SR X (.Constant (.str i) j pos) (evC (.str i)) := sr_c pe_str fun _ _ _ => .str i
theorem sr_non : SR X (.Constant .none j pos) (evC .non) := sr_c pe_non fun _ _ _ => .non
/-- an int of the module -/
theorem sr_gint {x : Str} {i : Int} {t : Tok} (hg : Gl X x) (hm : X.mg x = some (.int i t)) (hd : (x == ("__debug__" : Str)) = false := by decide) : SR X (.Name x pos) (evC (.int i)) := sr_c (v := .int i) (pe_glob hg hm (show RelV (.int i) _ from ⟨t, rfl⟩) hd) fun _ _ _ => .int i
theorem sr_gstr {x : Str} {i : Str} {t : Tok} (hg : Gl X x) (hm : X.mg x = some (.str i t)) (hd : (x == ("__debug__" : Str)) = false := by decide) : SR X (.Name x pos) (evC (.str i)) := sr_c (v := .str i) (pe_glob hg hm (show RelV (.str i) _ from ⟨t, rfl⟩) hd) fun _ _ _ => .str i
end
def evTup (a : Ev (List D)) : Ev RV := fun s => (a s).bind fun p => if p.1.length ≤ 1000 then some (.fro (.tup p.1), p.2) else none
def evLst (a : Ev (List D)) : Ev RV := fun s => (a s).bind fun p => if p.1.length ≤ 1000 then some (.own (.lst p.1), p.2) else none
theorem RepA.length {K : PySem.W.Frag} {φ : List Addr} {G : Hp} : ∀ {vs ds}, RepA K φ G vs ds → vs.length = ds.length
  | _, _, .nil => rfl
  | _, _, .cons _ r => congrArg Nat.succ r.length
theorem small {n : Nat} (h : n ≤ 1000) : n ≤ sizeLine := Nat.le_of_lt (small1000 h)
theorem sr_tup {X : Cx} {es : List Expr} {a : Ev (List D)} {x1} {pos : Pos} (h : SA X es a) : SR X (.Tuple es x1 pos) (evTup a) := pe_imp (pe_tup h) fun σ H Q ⟨g, G, φ, s, r, s', hK, R, he, q⟩ => by
  obtain ⟨p, e1, he⟩ := bind_some_iff he
  split at he
  · rename_i hl
    cases he
    refine ⟨g, G, φ, s, p.1, p.2, hK, R, e1, fun G1 φ1 H1 vs R1 h1 h2 ra => ⟨by rw [ra.length]; exact small hl, fun a ha => ?_⟩⟩
    have gr := Grow.laid R1.sub (o := .tup vs) ha
    exact q _ φ1 _ _ (R1.grow gr) (h1.trans gr.gg) h2 (.fro (.tup upd_same (ra.mono gr.gg (List.prefix_refl _))))
  · cases he
theorem sr_lst {X : Cx} {es : List Expr} {a : Ev (List D)} {pos : Pos} (h : SA X es a) : SR X (.List es pos) (evLst a) := pe_imp (pe_lst h) fun σ H Q ⟨g, G, φ, s, r, s', hK, R, he, q⟩ => by
  obtain ⟨p, e1, he⟩ := bind_some_iff he
  split at he
  · rename_i hl
    cases he
    refine ⟨g, G, φ, s, p.1, p.2, hK, R, e1, fun G1 φ1 H1 vs R1 h1 h2 ra => ⟨by rw [ra.length]; exact small hl, fun a ha => ?_⟩⟩
    have gr := Grow.aside R1.sub (o := .lst vs) ha
    exact q _ φ1 _ _ (R1.grow gr) h1 h2 (.own (Fresh.of_new R1 gr ha upd_same (R1.sub.free ha) (.lst ra)))
  · cases he
end Pv

namespace Pv
open PySem PySem.Spec L2

def tru : D → Option Bool
  | .non => some false
  | .bl b => some b
  | .int i => some (i != 0)
  | .lst ds => some (!ds.isEmpty)
  | .tup ds => some (!ds.isEmpty)
  | _ => none
theorem RepA.isEmpty {K : PySem.W.Frag} {φ : List Addr} {G : Hp} : ∀ {vs ds}, RepA K φ G vs ds → vs.isEmpty = ds.isEmpty
  | _, _, .nil => rfl
  | _, _, .cons _ r => rfl
theorem OpRep.rep {K : PySem.W.Frag} {φ : List Addr} {G H : Hp} {v : V} {d : D} (h : Same G H) : OpRep K φ G H v d → Rep K φ H v d
  | .fro r => r.mono h (List.prefix_refl _)
  | .own e o => o.rep h e
theorem OpRep.lst {K : PySem.W.Frag} {φ : List Addr} {G H : Hp} {v : V} {ds : List D} (h : Same G H) (r : OpRep K φ G H v (.lst ds)) : ∃ a vs, v = .ref a ∧ H a = some (.lst vs) ∧ RepA K φ G vs ds := by
  cases r with
  | fro r =>
    cases r with
    | lst s a => exact ⟨_, _, rfl, h _ _ s, a⟩
  | own e o =>
    cases o with
    | lst a => exact ⟨_, _, rfl, e, a⟩
theorem OpRep.tup {K : PySem.W.Frag} {φ : List Addr} {G H : Hp} {v : V} {ds : List D} (h : Same G H) (r : OpRep K φ G H v (.tup ds)) : ∃ a vs, v = .ref a ∧ H a = some (.tup vs) ∧ RepA K φ G vs ds := by
  cases r with
  | fro r =>
    cases r with
    | tup s a => exact ⟨_, _, rfl, h _ _ s, a⟩
  | own e o => cases o
theorem OpRep.int {K : PySem.W.Frag} {φ : List Addr} {G H : Hp} {v : V} {i : Int} (r : OpRep K φ G H v (.int i)) : v = .int i := by
  cases r with
  | fro r => cases r; rfl
  | own e o => cases o
theorem OpRep.str {K : PySem.W.Frag} {φ : List Addr} {G H : Hp} {v : V} {i : Str} (r : OpRep K φ G H v (.str i)) : v = .str i := by
  cases r with
  | fro r => cases r; rfl
  | own e o => cases o
theorem OpRep.bl {K : PySem.W.Frag} {φ : List Addr} {G H : Hp} {v : V} {i : Bool} (r : OpRep K φ G H v (.bl i)) : v = .bl i := by
  cases r with
  | fro r => cases r; rfl
  | own e o => cases o
theorem OpRep.non {K : PySem.W.Frag} {φ : List Addr} {G H : Hp} {v : V} (r : OpRep K φ G H v .non) : v = .non := by
  cases r with
  | fro r => cases r; rfl
  | own e o => cases o
theorem tru_V {K : PySem.W.Frag} {φ : List Addr} {G H : Hp} {v : V} {d : D} {b : Bool} (h : Same G H) (r : OpRep K φ G H v d) (e : tru d = some b) : TruV K v H b := by
  cases d with
  | non => cases r.non; cases e; rfl
  | bl x => cases r.bl; cases e; rfl
  | int x => cases r.int; cases e; rfl
  | lst ds =>
    cases e
    obtain ⟨a, vs, rfl, s, ra⟩ := r.lst h
    exact .inl ⟨vs, SqL.of s, by rw [ra.isEmpty]⟩
  | tup ds =>
    cases e
    obtain ⟨a, vs, rfl, s, ra⟩ := r.tup h
    exact .inr (.inl ⟨vs, SqT.of s, by rw [ra.isEmpty]⟩)
  | str x => cases e
  | dct t k => cases e
  | hd n => cases e
  | scr n => cases e
def evTru (a : Ev Bor) : Ev Bool := fun s => (a s).bind fun p => (fetch p.2 p.1).bind fun d => (tru d).map fun b => (b, p.2)
theorem st_tru {X : Cx} {e : Expr} {a : Ev Bor} (h : SB X e a) (he : ∀ whole, isTrue e X.env whole = (do let v ← whole; standAt e.pos; holding [v] (truthy v)) := by intro _; rfl) : ST X e (evTru a) :=
  pt_imp (pt_truth h he) fun σ H Q ⟨g, G, φ, s, r, s', hK, R, he, q⟩ => by
    obtain ⟨p, e1, he⟩ := bind_some_iff he
    obtain ⟨d, e2, he⟩ := bind_some_iff he
    obtain ⟨b, e3, he⟩ := map_some_iff he
    cases he
    refine ⟨g, G, φ, s, p.1, p.2, hK, R, e1, fun G1 φ1 H1 v R1 h1 h2 x => ?_⟩
    exact ⟨r, hK ▸ tru_V R1.sub (R1.fetch x e2) e3, q G1 φ1 H1 R1 h1 h2⟩
/-- a result that is a bool, as a test -/
def evB (a : Ev RV) : Ev Bool := fun s => (a s).bind fun p => match p.1 with
  | .fro (.bl b) => some (b, p.2)
  | _ => none
theorem evB_some {a : Ev RV} {s s' : Sg} {b : Bool} (h : evB a s = some (b, s')) : a s = some (.fro (.bl b), s') := by
  obtain ⟨p, e1, h⟩ := bind_some_iff h
  obtain ⟨p1, p2⟩ := p
  cases p1 with
  | own d => cases h
  | fro d =>
    cases d <;> cases h
    exact e1
theorem tTest_of {X : Cx} {a : Ev RV} {t : TE} {σ : St} {H : Hp} {Q : Bool → Hp → Prop} (imp : ∀ Q, tR X.K a σ H Q → t σ H Q) (h : tT X.K (evB a) σ H Q) : tTest t σ H Q := by
  obtain ⟨g, G, φ, s, r, s', hK, R, he, q⟩ := h
  have e1 := evB_some he
  refine imp _ ⟨g, G, φ, s, _, s', hK, R, e1, fun G1 φ1 H1 v R1 h1 h2 x => ?_⟩
  cases x with
  | fro rp => cases rp; exact ⟨r, rfl, q G1 φ1 H1 R1 h1 h2⟩
theorem st_cmp {X : Cx} {a b : Expr} {ta tb : Ev Bor} {f : Op2} {op : CmpOp} {pos : Pos} (ho : DOp X (compareOp op) f) (ha : SB X a ta) (hb : SB X b tb) (hm : behindInMarks op b = false) : ST X (.Compare a [op] [b] pos) (evB (ev2 f ta tb)) :=
  pt_imp (pt_cmpR ho ha hb hm) fun _ _ _ h => tTest_of (fun _ h => op2_core (a := a) (b := b) h) h
/-- a op b op' c -/
def evCh (f f' : Op2) (a b c : Ev Bor) : Ev RV := fun s => (a s).bind fun p => (b p.2).bind fun q => (fetch q.2 p.1).bind fun dx => (fetch q.2 q.1).bind fun dy => match f dx dy with
  | some (.fro (.bl true)) => (c q.2).bind fun r => (fetch r.2 q.1).bind fun dy' => (fetch r.2 r.1).bind fun dz => (f' dy' dz).map fun x => (x, r.2)
  | some (.fro (.bl false)) => some (.fro (.bl false), q.2)
  | _ => none
theorem chain_core {X : Cx} {a b c : Expr} {ta tb tc : Ev Bor} {f f' : Op2} {σ : St} {H : Hp} {Q : VK} (h : tR X.K (evCh f f' ta tb tc) σ H Q) : tChain (rV2 X.K f) (rV2 X.K f') (tO X.K ta) (tO X.K tb) (tO X.K tc) σ H Q := by
  obtain ⟨g, G, φ, s, r, s', hK, R, he, q⟩ := h
  obtain ⟨p, e1, he⟩ := bind_some_iff he
  obtain ⟨y, e2, he⟩ := bind_some_iff he
  obtain ⟨dx, e3, he⟩ := bind_some_iff he
  obtain ⟨dy, e4, he⟩ := bind_some_iff he
  refine ⟨g, G, φ, s, p.1, p.2, hK, R, e1, fun G1 φ1 H1 v R1 h1 h2 x1 => ?_⟩
  refine ⟨g, G1, φ1, p.2, y.1, y.2, hK, R1, e2, fun G2 φ2 H2 u R2 h3 h4 x2 => ?_⟩
  cases e5 : f dx dy with
  | none => rw [e5] at he; cases he
  | some r1 =>
    rw [e5] at he
    refine ⟨φ2, G2, dx, dy, r1, R2.sub, hK ▸ R2.fetch (x1.mono h3 h4) e3, hK ▸ R2.fetch x2 e4, e5, fun G3 H3 w gr o => ?_⟩
    cases o with
    | own => cases he
    | fro rp =>
      cases rp with
      | bl k =>
        refine ⟨k, rfl, ?_⟩
        have R3 := R2.grow gr
        cases k with
        | false =>
          rw [if_neg Bool.false_ne_true]
          cases he
          exact q G3 φ2 H3 _ R3 ((h1.trans h3).trans gr.gg) (h2.trans h4) (.fro (.bl false))
        | true =>
          rw [if_pos rfl]
          obtain ⟨z, e6, he⟩ := bind_some_iff he
          obtain ⟨dy', e7, he⟩ := bind_some_iff he
          obtain ⟨dz, e8, he⟩ := bind_some_iff he
          obtain ⟨r', e9, he⟩ := map_some_iff he
          cases he
          refine ⟨g, G3, φ2, y.2, z.1, z.2, hK, R3, e6, fun G4 φ4 H4 w R4 h5 h6 x3 => ?_⟩
          refine ⟨φ4, G4, dy', dz, r, R4.sub, hK ▸ R4.fetch ((x2.mono gr.gg (List.prefix_refl _)).mono h5 h6) e7, hK ▸ R4.fetch x3 e8, e9, fun G5 H5 w gr' o => ?_⟩
          exact q G5 φ4 H5 w (R4.grow gr') ((((h1.trans h3).trans gr.gg).trans h5).trans gr'.gg) ((h2.trans h4).trans h6) (ORes.res R4 gr' (hK ▸ o))
      | _ => cases he
theorem sr_chain {X : Cx} {a b c : Expr} {ta tb tc : Ev Bor} {f f' : Op2} {op op' : CmpOp} {pos : Pos} (ho : DOp X (compareOp op) f) (ho' : DOp X (compareOp op') f') (ha : SB X a ta) (hb : SB X b tb) (hc : SB X c tc)
    (hm : lastMarks [op, op'] [b, c] = false := by with_unfolding_all rfl) : SR X (.Compare a [op, op'] [b, c] pos) (evCh f f' ta tb tc) :=
  pe_imp (pe_chain ho ho' ha hb hc hm) fun _ _ _ h => chain_core (a := a) (b := b) (c := c) h
theorem st_chain {X : Cx} {a b c : Expr} {ta tb tc : Ev Bor} {f f' : Op2} {op op' : CmpOp} {pos : Pos} (ho : DOp X (compareOp op) f) (ho' : DOp X (compareOp op') f') (ha : SB X a ta) (hb : SB X b tb) (hc : SB X c tc)
    (hm : lastMarks [op, op'] [b, c] = false := by with_unfolding_all rfl) : ST X (.Compare a [op, op'] [b, c] pos) (evB (evCh f f' ta tb tc)) :=
  pt_imp (pt_chain ho ho' ha hb hc hm) fun _ _ _ h => tTest_of (fun _ h => chain_core (a := a) (b := b) (c := c) h) h

def evNot (a : Ev Bool) : Ev Bool := fun s => (a s).map fun p => (!p.1, p.2)
def evAnd (a b : Ev Bool) : Ev Bool := fun s => (a s).bind fun p => if p.1 then b p.2 else some (false, p.2)
def evOr (a b : Ev Bool) : Ev Bool := fun s => (a s).bind fun p => if p.1 then some (true, p.2) else b p.2
section
variable {X : Cx} {a b : Expr} {rest : List Expr} {ta tb : Ev Bool} {pos : Pos}
theorem st_not (h : ST X a ta) : ST X (.UnaryOp .Not a pos) (evNot ta) := pt_imp (pt_not h) fun σ H Q ⟨g, G, φ, s, r, s', hK, R, he, q⟩ => by
  obtain ⟨p, e1, he⟩ := map_some_iff he
  cases he
  exact ⟨g, G, φ, s, p.1, p.2, hK, R, e1, fun G1 φ1 H1 R1 h1 h2 => q G1 φ1 H1 R1 h1 h2⟩
theorem sw_and1 (h : ST X a ta) : SW X (.BoolOp .And [a] pos) ta := pw_and1 h
theorem sw_or1 (h : ST X a ta) : SW X (.BoolOp .Or [a] pos) ta := pw_or1 h
theorem sw_and (h : ST X a ta) (hb : SW X (.BoolOp .And (b :: rest) pos) tb) : SW X (.BoolOp .And (a :: b :: rest) pos) (evAnd ta tb) := pw_imp (pw_and h hb) fun σ H Q ⟨g, G, φ, s, r, s', hK, R, he, q⟩ => by
  obtain ⟨⟨p1, p2⟩, e1, he⟩ := bind_some_iff he
  refine ⟨g, G, φ, s, p1, p2, hK, R, e1, fun G1 φ1 H1 R1 h1 h2 => ?_⟩
  cases p1 with
  | false => cases he; rw [if_neg Bool.false_ne_true]; exact q G1 φ1 H1 R1 h1 h2
  | true =>
    rw [if_pos rfl]
    exact ⟨g, G1, φ1, p2, r, s', hK, R1, he, fun G2 φ2 H2 R2 h3 h4 => q G2 φ2 H2 R2 (h1.trans h3) (h2.trans h4)⟩
theorem sw_or (h : ST X a ta) (hb : SW X (.BoolOp .Or (b :: rest) pos) tb) : SW X (.BoolOp .Or (a :: b :: rest) pos) (evOr ta tb) := pw_imp (pw_or h hb) fun σ H Q ⟨g, G, φ, s, r, s', hK, R, he, q⟩ => by
  obtain ⟨⟨p1, p2⟩, e1, he⟩ := bind_some_iff he
  refine ⟨g, G, φ, s, p1, p2, hK, R, e1, fun G1 φ1 H1 R1 h1 h2 => ?_⟩
  cases p1 with
  | true => cases he; rw [if_pos rfl]; exact q G1 φ1 H1 R1 h1 h2
  | false =>
    rw [if_neg Bool.false_ne_true]
    exact ⟨g, G1, φ1, p2, r, s', hK, R1, he, fun G2 φ2 H2 R2 h3 h4 => q G2 φ2 H2 R2 (h1.trans h3) (h2.trans h4)⟩
theorem sw_st {e : Expr} (h : SW X e ta) : ST X e ta := PW.pt h
/-- .. as values: all but the last give bools -/
def evVand (a b : Ev RV) : Ev RV := fun s => (a s).bind fun p => match p.1 with
  | .fro (.bl true) => b p.2
  | .fro (.bl false) => some (.fro (.bl false), p.2)
  | _ => none
def evVor (a b : Ev RV) : Ev RV := fun s => (a s).bind fun p => match p.1 with
  | .fro (.bl false) => b p.2
  | .fro (.bl true) => some (.fro (.bl true), p.2)
  | _ => none
variable {va vb : Ev RV}
theorem sr_one {op} (h : SR X a va) : SR X (.BoolOp op [a] pos) va := pe_one h
theorem sr_and (h : SR X a va) (hb : SR X (.BoolOp .And (b :: rest) pos) vb) : SR X (.BoolOp .And (a :: b :: rest) pos) (evVand va vb) := pe_imp (pe_and h hb) fun σ H Q ⟨g, G, φ, s, r, s', hK, R, he, q⟩ => by
  obtain ⟨⟨p1, p2⟩, e1, he⟩ := bind_some_iff he
  refine ⟨g, G, φ, s, p1, p2, hK, R, e1, fun G1 φ1 H1 v R1 h1 h2 x => ?_⟩
  cases x with
  | own => cases he
  | fro rp =>
    cases rp with
    | bl k =>
      refine ⟨k, rfl, ?_⟩
      cases k with
      | false => cases he; rw [if_neg Bool.false_ne_true]; exact q G1 φ1 H1 _ R1 h1 h2 (.fro (.bl false))
      | true =>
        rw [if_pos rfl]
        exact ⟨g, G1, φ1, p2, r, s', hK, R1, he, fun G2 φ2 H2 w R2 h3 h4 => q G2 φ2 H2 w R2 (h1.trans h3) (h2.trans h4)⟩
    | _ => cases he
theorem sr_or (h : SR X a va) (hb : SR X (.BoolOp .Or (b :: rest) pos) vb) : SR X (.BoolOp .Or (a :: b :: rest) pos) (evVor va vb) := pe_imp (pe_or h hb) fun σ H Q ⟨g, G, φ, s, r, s', hK, R, he, q⟩ => by
  obtain ⟨⟨p1, p2⟩, e1, he⟩ := bind_some_iff he
  refine ⟨g, G, φ, s, p1, p2, hK, R, e1, fun G1 φ1 H1 v R1 h1 h2 x => ?_⟩
  cases x with
  | own => cases he
  | fro rp =>
    cases rp with
    | bl k =>
      refine ⟨k, rfl, ?_⟩
      cases k with
      | true => cases he; rw [if_pos rfl]; exact q G1 φ1 H1 _ R1 h1 h2 (.fro (.bl true))
      | false =>
        rw [if_neg Bool.false_ne_true]
        exact ⟨g, G1, φ1, p2, r, s', hK, R1, he, fun G2 φ2 H2 w R2 h3 h4 => q G2 φ2 H2 w R2 (h1.trans h3) (h2.trans h4)⟩
    | _ => cases he
def evVnot (a : Ev RV) : Ev RV := fun s => (a s).bind fun p => match p.1 with
  | .fro (.bl b) => some (.fro (.bl (!b)), p.2)
  | _ => none
theorem sr_not (h : SR X a va) : SR X (.UnaryOp .Not a pos) (evVnot va) := pe_imp (pe_not h) fun σ H Q ⟨g, G, φ, s, r, s', hK, R, he, q⟩ => by
  obtain ⟨⟨p1, p2⟩, e1, he⟩ := bind_some_iff he
  refine ⟨g, G, φ, s, p1, p2, hK, R, e1, fun G1 φ1 H1 v R1 h1 h2 x => ?_⟩
  cases x with
  | own => cases he
  | fro rp =>
    cases rp with
    | bl k => cases he; exact ⟨k, rfl, q G1 φ1 H1 _ R1 h1 h2 (.fro (.bl _))⟩
    | _ => cases he
def evIte (c : Ev Bool) (a b : Ev RV) : Ev RV := fun s => (c s).bind fun p => if p.1 then a p.2 else b p.2
theorem sr_ite {c : Expr} (hc : ST X c ta) (ha : SR X a va) (hb : SR X b vb) : SR X (.IfExp c a b pos) (evIte ta va vb) := pe_imp (pe_ifExp hc ha hb) fun σ H Q ⟨g, G, φ, s, r, s', hK, R, he, q⟩ => by
  obtain ⟨⟨p1, p2⟩, e1, he⟩ := bind_some_iff he
  refine ⟨g, G, φ, s, p1, p2, hK, R, e1, fun G1 φ1 H1 R1 h1 h2 => ?_⟩
  cases p1 with
  | true => rw [if_pos rfl]; exact ⟨g, G1, φ1, p2, r, s', hK, R1, he, fun G2 φ2 H2 w R2 h3 h4 => q G2 φ2 H2 w R2 (h1.trans h3) (h2.trans h4)⟩
  | false => rw [if_neg Bool.false_ne_true]; exact ⟨g, G1, φ1, p2, r, s', hK, R1, he, fun G2 φ2 H2 w R2 h3 h4 => q G2 φ2 H2 w R2 (h1.trans h3) (h2.trans h4)⟩
end

inductive Out where
  | nx | bk | ct | rt (r : RV)
def EndS (g : Gh) (G : Hp) (φ : List Addr) (E : Ends) (s' : Sg) : Out → Prop
  | .nx => ∀ G' φ' σ' H', Rel g G' φ' s' σ' H' → Same G G' → φ <+: φ' → E.nx σ' H'
  | .bk => ∀ G' φ' σ' H', Rel g G' φ' s' σ' H' → Same G G' → φ <+: φ' → E.bk σ' H'
  | .ct => ∀ G' φ' σ' H', Rel g G' φ' s' σ' H' → Same G G' → φ <+: φ' → E.ct σ' H'
  | .rt r => ∀ G' φ' σ' H' v, Rel g G' φ' s' σ' H' → Same G G' → φ <+: φ' → Res g G' φ' s' σ' H' v r → E.rt v H'
theorem EndS.pre {g : Gh} {G G1 : Hp} {φ φ1 : List Addr} {E : Ends} {s' : Sg} {o : Out} (h : EndS g G φ E s' o) (h1 : Same G G1) (h2 : φ <+: φ1) : EndS g G1 φ1 E s' o := by
  cases o with
  | nx => exact fun G' φ' σ' H' R a b => h G' φ' σ' H' R (h1.trans a) (h2.trans b)
  | bk => exact fun G' φ' σ' H' R a b => h G' φ' σ' H' R (h1.trans a) (h2.trans b)
  | ct => exact fun G' φ' σ' H' R a b => h G' φ' σ' H' R (h1.trans a) (h2.trans b)
  | rt r => exact fun G' φ' σ' H' v R a b => h G' φ' σ' H' v R (h1.trans a) (h2.trans b)
def tS (K : PySem.W.Frag) (ev : Ev Out) : TS := fun E σ H => ∃ g G φ s o s', g.K = K ∧ Rel g G φ s σ H ∧ ev s = some (o, s') ∧ EndS g G φ E s' o
def SS (X : Cx) (st : Stmt) (ev : Ev Out) : Prop := PS X st (tS X.K ev)
def SSs (X : Cx) (st : List Stmt) (ev : Ev Out) : Prop := PSs X st (tS X.K ev)
def evPass : Ev Out := fun s => some (.nx, s)
def evBreak : Ev Out := fun s => some (.bk, s)
def evCont : Ev Out := fun s => some (.ct, s)
def evSeq (a b : Ev Out) : Ev Out := fun s => (a s).bind fun p => match p.1 with
  | .nx => b p.2
  | o => some (o, p.2)
section
variable {X : Cx} {st : Stmt} {rest : List Stmt} {a b : Ev Out} {pos : Pos} {e : Expr}
theorem ss_nil : SSs X [] evPass := pss_imp pss_nil fun E σ H ⟨g, G, φ, s, o, s', hK, R, he, q⟩ => by
  cases he
  exact q G φ σ H R (Same.refl _) (List.prefix_refl _)
theorem ss_cons (h1 : SS X st a) (h2 : SSs X rest b) : SSs X (st :: rest) (evSeq a b) := pss_imp (pss_cons h1 h2) fun E σ H ⟨g, G, φ, s, o, s', hK, R, he, q⟩ => by
  obtain ⟨⟨p1, p2⟩, e1, he⟩ := bind_some_iff he
  cases p1 with
  | nx => exact ⟨g, G, φ, s, .nx, p2, hK, R, e1, fun G' φ' σ' H' R' h1 h2 => ⟨g, G', φ', p2, o, s', hK, R', he, q.pre h1 h2⟩⟩
  | bk => cases he; exact ⟨g, G, φ, s, .bk, _, hK, R, e1, q⟩
  | ct => cases he; exact ⟨g, G, φ, s, .ct, _, hK, R, e1, q⟩
  | rt r => cases he; exact ⟨g, G, φ, s, .rt r, _, hK, R, e1, q⟩
theorem ss_one (h1 : SS X st a) : SSs X [st] a := pss_one h1
theorem ss_pass : SS X (.Pass pos) evPass := ps_imp ps_pass fun E σ H ⟨g, G, φ, s, o, s', hK, R, he, q⟩ => by
  cases he
  exact q G φ σ H R (Same.refl _) (List.prefix_refl _)
theorem ss_break : SS X (.Break pos) evBreak := ps_imp ps_break fun E σ H ⟨g, G, φ, s, o, s', hK, R, he, q⟩ => by
  cases he
  exact q G φ σ H R (Same.refl _) (List.prefix_refl _)
theorem ss_cont : SS X (.Continue pos) evCont := ps_imp ps_continue fun E σ H ⟨g, G, φ, s, o, s', hK, R, he, q⟩ => by
  cases he
  exact q G φ σ H R (Same.refl _) (List.prefix_refl _)
def evDrop (a : Ev RV) : Ev Out := fun s => (a s).map fun p => (.nx, p.2)
theorem ss_expr {va : Ev RV} (h : SR X e va) (hs : swapsWith e none pos.line X.env = pure false := by rfl) : SS X (.Expr e pos) (evDrop va) := ps_imp (ps_expr h hs) fun E σ H ⟨g, G, φ, s, o, s', hK, R, he, q⟩ => by
  obtain ⟨⟨p1, p2⟩, e1, he⟩ := map_some_iff he
  cases he
  exact ⟨g, G, φ, s, p1, _, hK, R, e1, fun G' φ' H' v R' h1 h2 _ => q G' φ' σ H' R' h1 h2⟩
def evRet (a : Ev RV) : Ev Out := fun s => (a s).map fun p => (.rt p.1, p.2)
theorem ss_ret {va : Ev RV} (h : SR X e va) : SS X (.Return (some e) pos) (evRet va) := ps_imp (ps_ret h) fun E σ H ⟨g, G, φ, s, o, s', hK, R, he, q⟩ => by
  obtain ⟨⟨p1, p2⟩, e1, he⟩ := map_some_iff he
  cases he
  exact ⟨g, G, φ, s, p1, _, hK, R, e1, fun G' φ' H' v R' h1 h2 x => q G' φ' σ H' v R' h1 h2 x⟩
/-- return name: an own list is handed out -/
def evRetOwn (i : Nat) : Ev Out := fun s => match s.env[i]? with
  | some (.own d) => some (.rt (.own d), { s with env := s.env.set i .non })
  | some (.fro d) => some (.rt (.fro d), s)
  | _ => none
theorem Rel.forget {g : Gh} {G : Hp} {φ : List Addr} {s : Sg} {σ : St} {H : Hp} (R : Rel g G φ s σ H) (i : Nat) : Rel g G φ { s with env := s.env.set i .non } σ H := by
  have ne : ∀ {j : Nat} {x : Slot}, x ≠ .non → (s.env.set i .non)[j]? = some x → s.env[j]? = some x := fun {j x} hx q => by
    by_cases hj : j = i
    · subst hj
      by_cases hl : j < s.env.length
      · rw [List.getElem?_set_self hl] at q; cases q; exact absurd rfl hx
      · rw [List.getElem?_eq_none (by simpa using hl)] at q; cases q
    · rw [List.getElem?_set_ne (Ne.symm hj)] at q; exact q
  exact ⟨R.sub, R.g0, R.new, R.old, R.use, R.zed, R.pre, by simpa using R.len, fun j d q => R.fro j d (ne (by simp) q), fun j d q => R.own j d (ne (by simp) q),
    fun j k d e p hjk q1 q2 => R.sep j k d e p hjk (ne (by simp) q1) (ne (by simp) q2), R.clen, R.cell, R.nd⟩
theorem ss_retOwn (i : Nat) {x : Str} {p : Pos} (hN : X.N[i]? = some x := by rfl) (hv : Vis X.env.scope x := by first | exact Or.inl rfl | exact Or.inr (Or.inl rfl) | exact Or.inr (Or.inr rfl)) (hd : (x == ("__debug__" : Str)) = false := by decide)
    (hcd : (x == ("__classdict__" : Str)) = false := by decide) : SS X (.Return (some (.Name x p)) pos) (evRetOwn i) := ps_imp (ps_ret (pe_var hN hv hd hcd)) fun E σ H ⟨g, G, φ, s, o, s', hK, R, he, q⟩ => by
  unfold evRetOwn at he
  cases e : s.env[i]? with
  | none => rw [e] at he; cases he
  | some sl =>
    rw [e] at he
    cases sl with
    | non => cases he
    | fro d =>
      cases he
      obtain ⟨v, h1, h2⟩ := R.fro i d e
      exact ⟨v, h1, q G φ σ H v R (Same.refl _) (List.prefix_refl _) (.fro h2)⟩
    | own d =>
      cases he
      obtain ⟨p, o, h1, h2, h3, h4, h5, h6, h7⟩ := R.own i d e
      refine ⟨_, h1, q G φ σ H _ (R.forget i) (Same.refl _) (List.prefix_refl _) (.own ⟨h2, h3, h4, h5, h6, h7, fun j f hj hs => ?_⟩)⟩
      by_cases hji : j = i
      · subst hji
        have il : j < s.env.length := (List.getElem?_eq_some_iff.mp e).1
        rw [List.getElem?_set_self il] at hj
        cases hj
      · rw [List.getElem?_set_ne (Ne.symm hji)] at hj
        exact R.sep i j _ _ _ (Ne.symm hji) e hj h1 hs
def evRetN : Ev Out := fun s => some (.rt (.fro .non), s)
theorem ss_retN : SS X (.Return none pos) evRetN := ps_imp ps_retN fun E σ H ⟨g, G, φ, s, o, s', hK, R, he, q⟩ => by
  cases he
  exact q G φ σ H _ R (Same.refl _) (List.prefix_refl _) (.fro .non)
def evIf (c : Ev Bool) (a b : Ev Out) : Ev Out := fun s => (c s).bind fun p => if p.1 then a p.2 else b p.2
theorem ss_if {c : Expr} {sa sb : List Stmt} {tc : Ev Bool} (hc : ST X c tc) (ha : SSs X sa a) (hb : SSs X sb b) : SS X (.If c sa sb pos) (evIf tc a b) := ps_imp (ps_if hc ha hb) fun E σ H ⟨g, G, φ, s, o, s', hK, R, he, q⟩ => by
  obtain ⟨⟨p1, p2⟩, e1, he⟩ := bind_some_iff he
  refine ⟨g, G, φ, s, p1, p2, hK, R, e1, fun G1 φ1 H1 R1 h1 h2 => ?_⟩
  cases p1 with
  | true => rw [if_pos rfl]; exact ⟨g, G1, φ1, p2, o, s', hK, R1, he, q.pre h1 h2⟩
  | false => rw [if_neg Bool.false_ne_true]; exact ⟨g, G1, φ1, p2, o, s', hK, R1, he, q.pre h1 h2⟩
end
def RV.slot : RV → Slot
  | .fro d => .fro d
  | .own d => .own d
theorem Rel.store {g : Gh} {G : Hp} {φ : List Addr} {s : Sg} {σ : St} {H : Hp} {v : V} {r : RV} (i : Nat) (R : Rel g G φ s σ H) (x : Res g G φ s σ H v r) : Rel g G φ { s with env := s.env.set i r.slot } (σ.set i (some v)) H := by
  have ge : ∀ {j : Nat} {e : Slot}, (s.env.set i r.slot)[j]? = some e → (j = i ∧ e = r.slot ∧ (σ.set i (some v))[j]? = some (some v)) ∨ (j ≠ i ∧ s.env[j]? = some e ∧ (σ.set i (some v))[j]? = σ[j]?) := fun {j e} q => by
    by_cases hj : j = i
    · subst hj
      by_cases hl : j < s.env.length
      · rw [List.getElem?_set_self hl] at q
        cases q
        exact .inl ⟨rfl, rfl, List.getElem?_set_self (R.len ▸ hl)⟩
      · rw [List.getElem?_eq_none (by simpa using hl)] at q; cases q
    · rw [List.getElem?_set_ne (Ne.symm hj)] at q
      exact .inr ⟨hj, q, List.getElem?_set_ne (Ne.symm hj)⟩
  refine ⟨R.sub, R.g0, R.new, R.old, R.use, R.zed, R.pre, by simpa using R.len, fun j d q => ?_, fun j d q => ?_, fun j k d e p hjk q1 q2 q3 => ?_, R.clen, R.cell, R.nd⟩
  · rcases ge q with ⟨_, h2, h3⟩ | ⟨_, h2, h3⟩
    · cases x with
      | own F => cases h2
      | fro rp => cases h2; exact ⟨v, h3, rp⟩
    · obtain ⟨w, h4, h5⟩ := R.fro j d h2
      exact ⟨w, h3.trans h4, h5⟩
  · rcases ge q with ⟨_, h2, h3⟩ | ⟨_, h2, h3⟩
    · cases x with
      | fro rp => cases h2
      | own F => cases h2; exact ⟨_, _, h3, F.at_, F.own, F.gp, F.fp, F.up, F.ph⟩
    · obtain ⟨p, o, h4, h5⟩ := R.own j d h2
      exact ⟨p, o, h3.trans h4, h5⟩
  · rcases ge q1 with ⟨a1, a2, a3⟩ | ⟨a1, a2, a3⟩
    · rcases ge q2 with ⟨b1, b2, b3⟩ | ⟨b1, b2, b3⟩
      · exact absurd (a1.trans b1.symm) hjk
      · cases x with
        | fro rp => cases a2
        | own F =>
          rw [a3] at q3
          cases q3
          rw [b3]
          exact F.sl k e b2
    · rcases ge q2 with ⟨b1, b2, b3⟩ | ⟨b1, b2, b3⟩
      · cases x with
        | fro rp => cases b2
        | own F =>
          rw [b3]
          intro e'
          cases e'
          rw [a3] at q3
          exact F.sl j d a2 q3
      · rw [a3] at q3
        rw [b3]
        exact R.sep j k d e p hjk a2 b2 q3
def evSet (i : Nat) (a : Ev RV) : Ev Out := fun s => (a s).map fun p => (.nx, { p.2 with env := p.2.env.set i p.1.slot })
theorem asg_core {K : PySem.W.Frag} {i : Nat} {va : Ev RV} {E : Ends} {σ : St} {H : Hp} (h : tS K (evSet i va) E σ H) : tAsg (tR K va) (gName i) E σ H := by
  obtain ⟨g, G, φ, s, o, s', hK, R, he, q⟩ := h
  obtain ⟨⟨p1, p2⟩, e1, he⟩ := map_some_iff he
  cases he
  exact ⟨g, G, φ, s, p1, p2, hK, R, e1, fun G' φ' H' v R' h1 h2 x => q G' φ' _ H' (R'.store i x) h1 h2⟩
theorem ss_set {X : Cx} {i : Nat} {x : Str} {e : Expr} {va : Ev RV} {pos pos' : Pos} (hN : X.N.Nodup) (h : SR X e va) (hi : X.N[i]? = some x := by rfl) (hx : Loc X.env.scope x := by first | exact Or.inl rfl | exact Or.inr rfl) (hs : swapsWith e (some (.Name x pos')) pos.line X.env = pure false := by rfl)
    (hf : X.fn x = true ∨ X.env.scope.names.lookup x = some .local := by first | exact .inl rfl | exact .inr rfl) : SS X (.Assign [.Name x pos'] e pos) (evSet i va) :=
  ps_imp (ps_set hN hi hx h hs hf) fun _ _ _ h => asg_core h
end Pv

namespace Pv
open PySem PySem.Spec L2

def over (W F : Hp) : Hp := fun a => match W a with
  | some o => some o
  | none => F a
def Gh.hid (g : Gh) (W : Hp) : Gh := { g with F := over W g.F, Z := fun a => W a ≠ none ∨ g.Z a }
theorem over_none {W F : Hp} {a : Addr} (h : over W F a = none) : W a = none ∧ F a = none := by
  unfold over at h
  cases e : W a with
  | none => rw [e] at h; exact ⟨rfl, h⟩
  | some o => rw [e] at h; cases h
theorem over_none' {W F : Hp} {a : Addr} (h1 : W a = none) (h2 : F a = none) : over W F a = none := by
  unfold over
  rw [h1]; exact h2
theorem over_some {W F : Hp} {a : Addr} {o : HO} (h : over W F a = some o) : W a = some o ∨ (W a = none ∧ F a = some o) := by
  unfold over at h
  cases e : W a with
  | none => rw [e] at h; exact .inr ⟨rfl, h⟩
  | some x => rw [e] at h; exact .inl h
section
variable {g : Gh} {G G' : Hp} {φ φ' : List Addr} {s s' : Sg} {σ σ' : St} {H H' : Hp} {W : Hp}
theorem Rel.hide (R : Rel g G φ s σ H) (h1 : Same W H) (h2 : ∀ a o, W a = some o → G a = none ∧ a ∉ φ) (h3 : ∀ (i : Nat) d a, s.env[i]? = some (Slot.own d) → σ[i]? = some (some (V.ref a)) → W a = none) : Rel (g.hid W) G φ s σ H := by
  refine ⟨R.sub, R.g0, R.new, fun a o e => ?_, R.use, fun a z => ⟨?_, fun q => ?_⟩, R.pre, R.len, R.fro, fun i d e => ?_, R.sep, R.clen, fun n a c e1 e2 => ?_, R.nd⟩
  · rcases over_some e with e | ⟨_, e⟩
    · exact h1 a o e
    · exact R.old a o e
  · rcases (show W a ≠ none ∨ g.Z a from z) with z | z
    · cases q : W a with
      | none => exact absurd q z
      | some o => exact (h2 a o q).1
    · exact (R.zed a z).1
  · obtain ⟨q1, q2⟩ := over_none (show over W g.F a = none from q)
    rcases (show W a ≠ none ∨ g.Z a from z) with z | z
    · exact z q1
    · exact (R.zed a z).2 q2
  · obtain ⟨p, o, e1, e2, e3, e4, e5, e6, e7⟩ := R.own i d e
    exact ⟨p, o, e1, e2, e3, e4, over_none' (h3 i d p e e1) e5, e6, e7⟩
  · obtain ⟨o, b1, b2, b3, b4, b5⟩ := R.cell n a c e1 e2
    refine ⟨o, b1, b2, b3, over_none' ?_ b4, b5⟩
    cases q : W a with
    | none => rfl
    | some x => exact absurd (List.mem_of_getElem? e1) (h2 a x q).2
theorem Rel.unhide (hz : ∀ a, g.Z a → g.F a ≠ none) (R : Rel (g.hid W) G φ s σ H) (hw : ∀ a o, W a = some o → g.F a = none) : Rel g G φ s σ H := by
  refine ⟨R.sub, R.g0, R.new, fun a o e => ?_, R.use, fun a z => ⟨(R.zed a (Or.inr z)).1, hz a z⟩, R.pre, R.len, R.fro, fun i d e => ?_, R.sep, R.clen, fun n a c e1 e2 => ?_, R.nd⟩
  · refine R.old a o ?_
    show over W g.F a = some o
    unfold over
    cases q : W a with
    | none => exact e
    | some x => rw [hw a x q] at e; cases e
  · obtain ⟨p, o, e1, e2, e3, e4, e5, e6, e7⟩ := R.own i d e
    exact ⟨p, o, e1, e2, e3, e4, (over_none e5).2, e6, e7⟩
  · obtain ⟨o, b1, b2, b3, b4, b5⟩ := R.cell n a c e1 e2
    exact ⟨o, b1, b2, b3, (over_none b4).2, b5⟩
def one (p : Addr) (o : HO) : Hp := upd (fun _ => none) p o
theorem one_some {p a : Addr} {o x : HO} (h : one p o a = some x) : a = p ∧ x = o := by
  by_cases e : a = p
  · subst e
    unfold one at h
    rw [upd_same] at h
    cases h
    exact ⟨rfl, rfl⟩
  · unfold one at h
    rw [upd_ne e] at h
    cases h
/-- a pending own thing is hidden, and comes back -/
theorem Rel.pend {p : Addr} {o : HO} {d : D} (R : Rel g G φ s σ H) (F : Fresh g G φ s σ H p o d) : Rel (g.hid (one p o)) G φ s σ H := by
  refine R.hide (fun a x e => ?_) (fun a x e => ?_) fun i e a h1 h2 => ?_
  · obtain ⟨rfl, rfl⟩ := one_some e; exact F.at_
  · obtain ⟨rfl, rfl⟩ := one_some e; exact ⟨F.gp, F.ph⟩
  · unfold one
    rw [upd_ne (by rintro rfl; exact F.sl i e h1 h2)]
theorem Rel.back {p : Addr} {o : HO} {d : D} (R : Rel g G φ s σ H) (F : Fresh g G φ s σ H p o d) (R' : Rel (g.hid (one p o)) G' φ' s' σ' H') (h1 : Same G G') (h2 : φ <+: φ') : Rel g G' φ' s' σ' H' ∧ Fresh g G' φ' s' σ' H' p o d := by
  have fw : over (one p o) g.F p = some o := by unfold over one; rw [upd_same]
  refine ⟨R'.unhide (fun a z => (R.zed a z).2) fun a x e => ?_, ⟨R'.old p o fw, F.own.mono h1 h2, (R'.zed p (Or.inl ?_)).1, F.fp, F.up, fun hm => ?_, fun i e q1 q2 => ?_⟩⟩
  · obtain ⟨rfl, rfl⟩ := one_some e; exact F.fp
  · unfold one; rw [upd_same]; simp
  · obtain ⟨n, hn⟩ := List.getElem?_of_mem hm
    have hl : n < s'.st.length := by rw [R'.clen]; exact (List.getElem?_eq_some_iff.mp hn).1
    obtain ⟨o', _, _, _, e, _⟩ := R'.cell n p _ hn (List.getElem?_eq_getElem hl)
    rw [show (g.hid (one p o)).F p = some o from fw] at e
    cases e
  · obtain ⟨p', o', e1, _, _, _, e5, _⟩ := R'.own i e q1
    rw [q2] at e1
    cases e1
    rw [show (g.hid (one p o)).F p = some o from fw] at e5
    cases e5
/-- a pending own thing is changed -/
theorem Rel.setPend {p : Addr} {o o' : HO} {d d' : D} (R : Rel g G φ s σ H) (F : Fresh g G φ s σ H p o d) (w : Own g.K φ G o' d') : Rel g G φ s σ (upd H p o') ∧ Fresh g G φ s σ (upd H p o') p o' d' := by
  refine ⟨⟨fun a x e => ?_, R.g0, R.new, fun a x e => ?_, fun a u => ?_, R.zed, R.pre, R.len, R.fro, fun i x e => ?_, R.sep, R.clen, fun n a c e1 e2 => ?_, R.nd⟩, ⟨upd_same, w, F.gp, F.fp, F.up, F.ph, F.sl⟩⟩
  · rw [upd_ne (by rintro rfl; rw [F.gp] at e; cases e)]; exact R.sub a x e
  · rw [upd_ne (by rintro rfl; rw [F.fp] at e; cases e)]; exact R.old a x e
  · rw [upd_ne (by rintro rfl; exact F.up u)]; exact R.use a u
  · obtain ⟨q, y, e1, e2, e3⟩ := R.own i x e
    refine ⟨q, y, e1, ?_, e3⟩
    rw [upd_ne (by rintro rfl; exact F.sl i x e e1)]; exact e2
  · obtain ⟨y, b1, b2⟩ := R.cell n a c e1 e2
    refine ⟨y, ?_, b2⟩
    rw [upd_ne (by rintro rfl; exact F.ph (List.mem_of_getElem? e1))]; exact b1
/-- an own slot's thing is changed -/
theorem Rel.setOwn {i : Nat} {p : Addr} {o' : HO} {d d' : D} (R : Rel g G φ s σ H) (e : s.env[i]? = some (.own d)) (hp : σ[i]? = some (some (.ref p))) (w : Own g.K φ G o' d') : Rel g G φ { s with env := s.env.set i (.own d') } σ (upd H p o') := by
  obtain ⟨p', o, e1, e2, e3, e4, e5, e6, e7⟩ := R.own i d e
  rw [hp] at e1
  cases e1
  have il : i < s.env.length := (List.getElem?_eq_some_iff.mp e).1
  refine ⟨fun a x q => ?_, R.g0, R.new, fun a x q => ?_, fun a u => ?_, R.zed, R.pre, by simpa using R.len, fun j x q => ?_, fun j x q => ?_, fun j k x y q hjk q1 q2 q3 => ?_, R.clen, fun n a c q1 q2 => ?_, R.nd⟩
  · rw [upd_ne (by rintro rfl; rw [e4] at q; cases q)]; exact R.sub a x q
  · rw [upd_ne (by rintro rfl; rw [e5] at q; cases q)]; exact R.old a x q
  · rw [upd_ne (by rintro rfl; exact e6 u)]; exact R.use a u
  · by_cases hj : j = i
    · subst hj; rw [List.getElem?_set_self il] at q; cases q
    · rw [List.getElem?_set_ne (Ne.symm hj)] at q; exact R.fro j x q
  · by_cases hj : j = i
    · subst hj; rw [List.getElem?_set_self il] at q; cases q
      exact ⟨p, o', hp, upd_same, w, e4, e5, e6, e7⟩
    · rw [List.getElem?_set_ne (Ne.symm hj)] at q
      obtain ⟨p2, o2, a1, a2, a3⟩ := R.own j x q
      refine ⟨p2, o2, a1, ?_, a3⟩
      rw [upd_ne (by rintro rfl; exact R.sep i j _ _ _ (Ne.symm hj) e q hp a1)]; exact a2
  · have own_of : ∀ {j : Nat} {x : D}, (s.env.set i (.own d'))[j]? = some (.own x) → ∃ y, s.env[j]? = some (.own y) := fun {j x} q => by
      by_cases hj : j = i
      · subst hj; exact ⟨d, e⟩
      · rw [List.getElem?_set_ne (Ne.symm hj)] at q; exact ⟨x, q⟩
    obtain ⟨x', q1'⟩ := own_of q1
    obtain ⟨y', q2'⟩ := own_of q2
    exact R.sep j k x' y' q hjk q1' q2' q3
  · obtain ⟨y, b1, b2⟩ := R.cell n a c q1 q2
    refine ⟨y, ?_, b2⟩
    rw [upd_ne (by rintro rfl; exact e7 (List.mem_of_getElem? q1))]; exact b1
/-- a cell's thing is changed -/
theorem Rel.setCell {n : Nat} {a : Addr} {o' : HO} {c c' : Cell} (R : Rel g G φ s σ H) (ha : φ[n]? = some a) (hc : s.st[n]? = some c) (w : CellAt g.K φ G o' c') : Rel g G φ { s with st := s.st.set n c' } σ (upd H a o') := by
  obtain ⟨o, e1, e2, e3, e4, e5⟩ := R.cell n a c ha hc
  have nl : n < s.st.length := (List.getElem?_eq_some_iff.mp hc).1
  have am : a ∈ φ := List.mem_of_getElem? ha
  refine ⟨fun b x q => ?_, R.g0, R.new, fun b x q => ?_, fun b u => ?_, R.zed, R.pre, R.len, R.fro, fun j x q => ?_, R.sep, by simpa using R.clen, fun m b x q1 q2 => ?_, R.nd⟩
  · rw [upd_ne (by rintro rfl; rw [e3] at q; cases q)]; exact R.sub b x q
  · rw [upd_ne (by rintro rfl; rw [e4] at q; cases q)]; exact R.old b x q
  · by_cases hb : b = a
    · subst hb; rw [upd_same]; simp
    · rw [upd_ne hb]; exact R.use b u
  · obtain ⟨p, y, a1, a2, a3, a4, a5, a6, a7⟩ := R.own j x q
    refine ⟨p, y, a1, ?_, a3, a4, a5, a6, a7⟩
    rw [upd_ne (by rintro rfl; exact a7 am)]; exact a2
  · by_cases hm : m = n
    · subst hm
      rw [ha] at q1
      cases q1
      rw [List.getElem?_set_self nl] at q2
      cases q2
      exact ⟨o', upd_same, w, e3, e4, e5⟩
    · rw [List.getElem?_set_ne (Ne.symm hm)] at q2
      obtain ⟨y, b1, b2⟩ := R.cell m b x q1 q2
      refine ⟨y, ?_, b2⟩
      rw [upd_ne (by
        rintro rfl
        obtain ⟨l1, f1⟩ := List.getElem?_eq_some_iff.mp ha
        obtain ⟨l2, f2⟩ := List.getElem?_eq_some_iff.mp q1
        exact hm ((List.getElem_inj R.nd).mp (f2.trans f1.symm)))]
      exact b1
end

theorem wipe_get {σ : St} {j : Nat} : ∀ {vs : List Nat}, (wipe σ vs)[j]? = if j ∈ vs ∧ j < σ.length then some none else σ[j]?
  | [] => by simp [wipe]
  | v :: vs => by
    unfold wipe
    by_cases h : j = v
    · subst h
      by_cases hl : j < σ.length
      · rw [List.getElem?_set_self (by rw [wipe_length]; exact hl), if_pos ⟨List.mem_cons_self, hl⟩]
      · rw [List.getElem?_eq_none (by rw [List.length_set, wipe_length]; omega), if_neg (fun q => hl q.2), List.getElem?_eq_none (by omega)]
    · rw [List.getElem?_set_ne (Ne.symm h), wipe_get]
      by_cases hm : j ∈ vs ∧ j < σ.length
      · rw [if_pos hm, if_pos ⟨List.mem_cons_of_mem _ hm.1, hm.2⟩]
      · rw [if_neg hm, if_neg]
        rintro ⟨q1, q2⟩
        rcases List.mem_cons.mp q1 with e | e
        · exact h e
        · exact hm ⟨e, q2⟩
theorem wipe_set {σ : St} {i : Nat} {x : Option V} {vs : List Nat} (h : i ∈ vs) : wipe (σ.set i x) vs = wipe σ vs := by
  refine List.ext_getElem? fun j => ?_
  rw [wipe_get, wipe_get, List.length_set]
  by_cases hm : j ∈ vs ∧ j < σ.length
  · rw [if_pos hm, if_pos hm]
  · rw [if_neg hm, if_neg hm]
    by_cases e : j = i
    · subst e
      have : ¬ j < σ.length := fun q => hm ⟨h, q⟩
      rw [List.getElem?_eq_none (by simpa using this), List.getElem?_eq_none (by omega)]
    · rw [List.getElem?_set_ne (Ne.symm e)]
theorem pg_imp {X : Cx} {e : Expr} {t t' : TG} (h : PG X e t) (f : ∀ v σ H Q, t' v σ H Q → t v σ H Q) : PG X e t' := ⟨fun pins s σ H v u Q I r q => h.run pins s σ H v u Q I r (f _ _ _ _ q)⟩
theorem pgs_imp {X : Cx} {e : List Expr} {t t' : TGs} (h : PGs X e t) (f : ∀ v σ H Q, t' v σ H Q → t v σ H Q) : PGs X e t' := ⟨fun pins s σ H v u Q I r q => h.run pins s σ H v u Q I r (f _ _ _ _ q)⟩
abbrev Tgt := D → Sg → Option Sg
abbrev Tgts := List D → Sg → Option Sg
/-- vs: the slots that are stored -/
def tG (K : PySem.W.Frag) (vs : List Nat) (ev : Tgt) : TG := fun v σ H Q => ∃ g G φ s d s', g.K = K ∧ Rel g G φ s σ H ∧ Rep g.K φ G v d ∧ ev d s = some s' ∧ ∀ G' φ' σ' H', Rel g G' φ' s' σ' H' → Same G G' → φ <+: φ' → wipe σ' vs = wipe σ vs → Q σ' H'
def tGs (K : PySem.W.Frag) (vs : List Nat) (ev : Tgts) : TGs := fun us σ H Q => ∃ g G φ s ds s', g.K = K ∧ Rel g G φ s σ H ∧ RepA g.K φ G us ds ∧ ev ds s = some s' ∧ ∀ G' φ' σ' H', Rel g G' φ' s' σ' H' → Same G G' → φ <+: φ' → wipe σ' vs = wipe σ vs → Q σ' H'
def SG (X : Cx) (vs : List Nat) (e : Expr) (ev : Tgt) : Prop := PG X e (tG X.K vs ev)
def SGs (X : Cx) (vs : List Nat) (e : List Expr) (ev : Tgts) : Prop := PGs X e (tGs X.K vs ev)
def tgName (i : Nat) : Tgt := fun d s => some { s with env := s.env.set i (.fro d) }
def tgNil : Tgts := fun ds s => match ds with
  | [] => some s
  | _ => none
def tgCons (a : Tgt) (b : Tgts) : Tgts := fun ds s => match ds with
  | [] => none
  | d :: ds => (a d s).bind fun s1 => b ds s1
def tgTup (n : Nat) (b : Tgts) : Tgt := fun d s => match d with
  | .tup ds => if ds.length = n then b ds s else none
  | _ => none
section
variable {X : Cx} {vs : List Nat}
theorem sg_name (i : Nat) {x : Str} {pos : Pos} (hN : X.N.Nodup) (hi : X.N[i]? = some x := by rfl) (hx : Loc X.env.scope x := by first | exact Or.inl rfl | exact Or.inr rfl) (hf : X.fn x = true ∨ X.env.scope.names.lookup x = some .local := by first | exact .inl rfl | exact .inr rfl) (hv : i ∈ vs := by decide) : SG X vs (.Name x pos) (tgName i) :=
  pg_imp (pg_name hN hi hx hf) fun v σ H Q ⟨g, G, φ, s, d, s', hK, R, rp, he, q⟩ => by
    cases he
    exact q G φ _ H (R.store i (.fro rp)) (Same.refl _) (List.prefix_refl _) (wipe_set hv)
theorem sgs_nil : SGs X vs [] tgNil := pgs_imp pgs_nil fun v σ H Q ⟨g, G, φ, s, d, s', hK, R, rp, he, q⟩ => by
  cases rp with
  | nil => cases he; exact ⟨rfl, q G φ σ H R (Same.refl _) (List.prefix_refl _) rfl⟩
  | cons => cases he
theorem sgs_cons {e : Expr} {es : List Expr} {a : Tgt} {b : Tgts} (h1 : SG X vs e a) (h2 : SGs X vs es b) (hs : (assignEach (e :: es) X.env).map (·.2) = assign e X.env :: (assignEach es X.env).map (·.2) := by rfl) : SGs X vs (e :: es) (tgCons a b) :=
  pgs_imp (pgs_cons h1 h2 hs) fun v σ H Q ⟨g, G, φ, s, d, s', hK, R, rp, he, q⟩ => by
    cases rp with
    | nil => cases he
    | cons r rs =>
      obtain ⟨s1, e1, he⟩ := bind_some_iff he
      exact ⟨_, _, rfl, g, G, φ, s, _, s1, hK, R, r, e1, fun G1 φ1 σ1 H1 R1 h1 h2 w1 => ⟨g, G1, φ1, s1, _, s', hK, R1, rs.mono h1 h2, he, fun G2 φ2 σ2 H2 R2 h3 h4 w2 => q G2 φ2 σ2 H2 R2 (h1.trans h3) (h2.trans h4) (w2.trans w1)⟩⟩
theorem sg_tup {es : List Expr} {k : Nat} {b : Tgts} {n : Nat} {pos : Pos} (hc : X.calm = true) (h : SGs X vs es b) (hn : (assignEach es X.env).length = n := by rfl) (hst : (assignEach es X.env).findIdx? (·.1) = none := by rfl) : SG X vs (.Tuple es k pos) (tgTup n b) :=
  pg_imp (pg_tup hc h hn hst) fun v σ H Q ⟨g, G, φ, s, d, s', hK, R, rp, he, q⟩ => by
    cases rp with
    | tup st ra =>
      have he : (if _ then _ else _) = _ := he
      split at he
      · rename_i hl
        exact ⟨_, _, rfl, SqT.of (R.sub _ _ st), ra.length.trans hl, g, G, φ, s, _, s', hK, R, ra, he, q⟩
      · cases he
    | _ => cases he
/-- target = value, the value frozen -/
def evAsg (t : Tgt) (a : Ev RV) : Ev Out := fun s => (a s).bind fun p => (t p.1.d p.2).map fun s' => (.nx, s')
theorem ss_asg {tg e : Expr} {t : Tgt} {va : Ev RV} {pos : Pos} (he : SR X e va) (hg : SG X vs tg t) (hs : swapsWithSole [tg] e pos.line X.env = pure false := by rfl) (hw : swappedStores [tg] e X.env = pure none := by rfl)
    (h1 : (assignEach [tg] X.env).map (·.2) = [assign tg X.env] := by rfl) : SS X (.Assign [tg] e pos) (evAsg t va) := ps_imp (ps_asg he hg hs hw h1) fun E σ H ⟨g, G, φ, s, o, s', hK, R, he, q⟩ => by
  obtain ⟨⟨p1, p2⟩, e1, he⟩ := bind_some_iff he
  obtain ⟨s1, e2, he⟩ := map_some_iff he
  cases he
  refine ⟨g, G, φ, s, p1, p2, hK, R, e1, fun G1 φ1 H1 v R1 h1 h2 x => ?_⟩
  obtain ⟨G2, R2, h3, rp⟩ := x.froz R1
  exact ⟨g, G2, φ1, p2, _, _, hK, R2, rp, e2, fun G3 φ3 σ3 H3 R3 h4 h5 _ => q G3 φ3 σ3 H3 R3 ((h1.trans h3).trans h4) (h2.trans h5)⟩
/-- a, b = e1, e2 -/
def evPar (i j : Nat) (a b : Ev RV) : Ev Out := fun s => (a s).bind fun p => (b p.2).map fun q => (.nx, { q.2 with env := (q.2.env.set i p.1.slot).set j q.1.slot })
theorem ss_par {i j : Nat} {x y : Str} {a b : Expr} {va vb : Ev RV} {px py pt pos : Pos} {kt k2 pt2} (hc : X.calm = true) (hN : X.N.Nodup) (ha : SR X a va) (hb : SR X b vb) (hi : X.N[i]? = some x := by rfl) (hj : X.N[j]? = some y := by rfl) (hij : i ≠ j := by decide)
    (hx : X.env.scope.names.lookup x = some .local := by rfl) (hy : X.env.scope.names.lookup y = some .local := by rfl)
    (hw : swappedStores [.Tuple [.Name x px, .Name y py] kt pt] (.Tuple [a, b] k2 pt2) X.env = pure (some [x, y]) := by rfl)
    (hs : swapsWithSole [.Tuple [.Name x px, .Name y py] kt pt] (.Tuple [a, b] k2 pt2) pos.line X.env = pure false := by rfl)
    (h1 : starEach [a, b] X.env = (false, eval a X.env) :: starEach [b] X.env := by rfl) (h2 : starEach [b] X.env = (false, eval b X.env) :: starEach [] X.env := by rfl) :
    SS X (.Assign [.Tuple [.Name x px, .Name y py] kt pt] (.Tuple [a, b] k2 pt2) pos) (evPar i j va vb) := ps_imp (ps_par hc hN hi hj hij hx hy (pa_cons ha (pa_cons hb pa_nil h2) h1) hw hs) fun E σ H ⟨g, G, φ, s, o, s', hK, R, he, q⟩ => by
  obtain ⟨⟨p1, p2⟩, e1, he⟩ := bind_some_iff he
  obtain ⟨⟨q1, q2⟩, e2, he⟩ := map_some_iff he
  cases he
  refine ⟨g, G, φ, s, p1, p2, hK, R, e1, fun G1 φ1 H1 v R1 h1 h2 x => ?_⟩
  cases x with
  | fro rp =>
    refine ⟨g, G1, φ1, p2, q1, q2, hK, R1, e2, fun G2 φ2 H2 w R2 h3 h4 y => ⟨_, _, rfl, ?_⟩⟩
    have S1 := R2.store i (.fro (rp.mono h3 h4))
    refine q G2 φ2 _ H2 (S1.store j (r := q1) ?_) (h1.trans h3) (h2.trans h4)
    cases y with
    | fro ry => exact .fro ry
    | own F =>
      refine .own ⟨F.at_, F.own, F.gp, F.fp, F.up, F.ph, fun k e a1 a2 => ?_⟩
      by_cases hk : k = i
      · subst hk
        have a1 : (q2.env.set k (.fro _))[k]? = some (Slot.own e) := a1
        by_cases hl : k < q2.env.length
        · rw [List.getElem?_set_self hl] at a1; cases a1
        · rw [List.getElem?_eq_none (by simpa using hl)] at a1; cases a1
      · have a1 : (q2.env.set i (.fro _))[k]? = some (Slot.own e) := a1
        rw [List.getElem?_set_ne (Ne.symm hk)] at a1 a2
        exact F.sl k e a1 a2
  | own F1 =>
    refine ⟨g.hid (one _ _), G1, φ1, p2, q1, q2, hK, R1.pend F1, e2, fun G2 φ2 H2 w R2 h3 h4 y => ⟨_, _, rfl, ?_⟩⟩
    obtain ⟨R3, F3⟩ := R1.back F1 R2 h3 h4
    have S1 := R3.store i (.own F3)
    refine q G2 φ2 _ H2 (S1.store j (r := q1) ?_) (h1.trans h3) (h2.trans h4)
    cases y with
    | fro ry => exact .fro ry
    | own F =>
      have hne : over (one _ _) g.F _ = none := F.fp
      refine .own ⟨F.at_, F.own, F.gp, (over_none hne).2, F.up, F.ph, fun k e a1 a2 => ?_⟩
      by_cases hk : k = i
      · subst hk
        have hl : k < σ.length := by
          by_cases hl : k < σ.length
          · exact hl
          · rw [List.getElem?_eq_none (by simpa using hl)] at a2; cases a2
        rw [List.getElem?_set_self hl] at a2
        cases a2
        have := (over_none hne).1
        unfold one at this
        rw [upd_same] at this
        cases this
      · have a1 : (q2.env.set i (.own _))[k]? = some (Slot.own e) := a1
        rw [List.getElem?_set_ne (Ne.symm hk)] at a1 a2
        exact F.sl k e a1 a2
end
structure ItOk (K : PySem.W.Frag) (φ : List Addr) (G : Hp) (J : It) (ds : List D) : Prop where
  go : ∀ Gc φc Hc, Same G Gc → φ <+: φc → Same Gc Hc → ∀ i, i < ds.length → J.go i Hc
  stop : ∀ Gc φc Hc, Same G Gc → φ <+: φc → Same Gc Hc → J.stop ds.length Hc
  yld : ∀ Gc φc Hc, Same G Gc → φ <+: φc → Same Gc Hc → ∀ i d x H', ds[i]? = some d → J.yld i Hc x H' → ∃ G', Grow Gc Hc G' H' ∧ Rep K φc G' x d
def tI (K : PySem.W.Frag) (ev : Ev (List D)) : TI := fun σ H R => ∃ g G φ s ds s', g.K = K ∧ Rel g G φ s σ H ∧ ev s = some (ds, s') ∧
  ∀ J G' φ' H', Rel g G' φ' s' σ H' → Same G G' → φ <+: φ' → ItOk g.K φ' G' J ds → R J H'
def SI (X : Cx) (tg iter : Expr) (ev : Ev (List D)) : Prop := PI X tg iter (tI X.K ev)
theorem pi_imp {X : Cx} {tg e : Expr} {t t' : TI} (h : PI X tg e t) (f : ∀ σ H R, t' σ H R → t σ H R) : PI X tg e t' := ⟨fun pins s σ H R I q => h.run pins s σ H R I (f _ _ _ q)⟩
theorem RepA.get {K : PySem.W.Frag} {φ : List Addr} {G : Hp} : ∀ {vs ds} {i : Nat} {d : D}, RepA K φ G vs ds → ds[i]? = some d → ∃ v, vs[i]? = some v ∧ Rep K φ G v d
  | _, _, _, _, .nil, h => by simp at h
  | _, _, 0, _, .cons r _, h => by simp at h; subst h; exact ⟨_, rfl, r⟩
  | _, _, i + 1, _, .cons _ t, h => by
    obtain ⟨v, h1, h2⟩ := RepA.get (i := i) t (by simpa using h)
    exact ⟨v, by simpa using h1, h2⟩
theorem itOk_list {K : PySem.W.Frag} {φ : List Addr} {G : Hp} {a : Addr} {xs : List V} {ds : List D} (h : SqL K G a xs) (r : RepA K φ G xs ds) : ItOk K φ G (Itl K a) ds := by
  refine ⟨fun Gc φc Hc h1 h2 h3 i hi => ?_, fun Gc φc Hc h1 h2 h3 => ⟨xs, sqL_mono (h1.trans h3) h, by rw [r.length]; exact Nat.le_refl _⟩, fun Gc φc Hc h1 h2 h3 i d x H' hd hy => ?_⟩
  · have hl : i < xs.length := by rw [r.length]; exact hi
    exact ⟨xs, xs[i], sqL_mono (h1.trans h3) h, List.getElem?_eq_getElem hl⟩
  · obtain ⟨rfl, hy⟩ := hy
    obtain ⟨v, e1, e2⟩ := r.get hd
    have e3 := hy xs (sqL_mono (h1.trans h3) h)
    rw [e1] at e3
    cases e3
    exact ⟨Gc, Grow.refl h3, e2.mono h1 h2⟩
theorem itOk_tup {K : PySem.W.Frag} {φ : List Addr} {G : Hp} {a : Addr} {xs : List V} {ds : List D} (h : SqT K G a xs) (r : RepA K φ G xs ds) : ItOk K φ G (Itt K a) ds := by
  refine ⟨fun Gc φc Hc h1 h2 h3 i hi => ?_, fun Gc φc Hc h1 h2 h3 => ⟨xs, sqT_mono (h1.trans h3) h, by rw [r.length]; exact Nat.le_refl _⟩, fun Gc φc Hc h1 h2 h3 i d x H' hd hy => ?_⟩
  · have hl : i < xs.length := by rw [r.length]; exact hi
    exact ⟨xs, xs[i], sqT_mono (h1.trans h3) h, List.getElem?_eq_getElem hl⟩
  · obtain ⟨rfl, hy⟩ := hy
    obtain ⟨v, e1, e2⟩ := r.get hd
    have e3 := hy xs (sqT_mono (h1.trans h3) h)
    rw [e1] at e3
    cases e3
    exact ⟨Gc, Grow.refl h3, e2.mono h1 h2⟩
def dLst : D → Option (List D)
  | .lst ds => some ds
  | _ => none
def dTup : D → Option (List D)
  | .tup ds => some ds
  | _ => none
def evItL (a : Ev RV) : Ev (List D) := fun s => (a s).bind fun p => (dLst p.1.d).map fun ds => (ds, p.2)
def evItT (a : Ev RV) : Ev (List D) := fun s => (a s).bind fun p => (dTup p.1.d).map fun ds => (ds, p.2)
theorem si_list {X : Cx} {tg e : Expr} {a : Ev RV} (h : SR X e a) : SI X tg e (evItL a) := pi_imp (pi_list h) fun σ H R' ⟨g, G, φ, s, ds, s', hK, R, he, q⟩ => by
  obtain ⟨⟨p1, p2⟩, e1, he⟩ := bind_some_iff he
  obtain ⟨ds', e2, he⟩ := map_some_iff he
  cases he
  refine ⟨g, G, φ, s, p1, p2, hK, R, e1, fun G1 φ1 H1 v R1 h1 h2 x => ?_⟩
  obtain ⟨G2, R2, h3, rp⟩ := x.froz R1
  cases hd : p1.d with
  | lst ds0 =>
    rw [hd] at rp e2
    cases e2
    cases rp with
    | lst st ra => exact ⟨_, rfl, ⟨_, SqL.of (R2.sub _ _ st)⟩, hK ▸ q _ G2 φ1 H1 R2 (h1.trans h3) h2 (itOk_list (SqL.of st) ra)⟩
  | _ => rw [hd] at e2; cases e2
theorem si_tup {X : Cx} {tg e : Expr} {a : Ev RV} (h : SR X e a) : SI X tg e (evItT a) := pi_imp (pi_tup h) fun σ H R' ⟨g, G, φ, s, ds, s', hK, R, he, q⟩ => by
  obtain ⟨⟨p1, p2⟩, e1, he⟩ := bind_some_iff he
  obtain ⟨ds', e2, he⟩ := map_some_iff he
  cases he
  refine ⟨g, G, φ, s, p1, p2, hK, R, e1, fun G1 φ1 H1 v R1 h1 h2 x => ?_⟩
  obtain ⟨G2, R2, h3, rp⟩ := x.froz R1
  cases hd : p1.d with
  | tup ds0 =>
    rw [hd] at rp e2
    cases e2
    cases rp with
    | tup st ra => exact ⟨_, rfl, ⟨_, SqT.of (R2.sub _ _ st)⟩, hK ▸ q _ G2 φ1 H1 R2 (h1.trans h3) h2 (itOk_tup (SqT.of st) ra)⟩
  | _ => rw [hd] at e2; cases e2
def upTo (lo : Int) (n : Nat) : List D := (List.range n).map fun i => .int (lo + (i : Nat))
theorem itOk_range {K : PySem.W.Frag} {φ : List Addr} {G : Hp} (lo : Int) (n : Nat) : ItOk K φ G (Itr lo n) (upTo lo n) := by
  have hl : (upTo lo n).length = n := by unfold upTo; simp
  refine ⟨fun Gc φc Hc h1 h2 h3 i hi => by rw [hl] at hi; exact hi, fun Gc φc Hc h1 h2 h3 => by rw [hl]; exact Nat.le_refl _, fun Gc φc Hc h1 h2 h3 i d x H' hd hy => ?_⟩
  obtain ⟨rfl, rfl⟩ := hy
  have hi : i < n := by
    have := (List.getElem?_eq_some_iff.mp hd).1
    rw [hl] at this
    exact this
  unfold upTo at hd
  rw [List.getElem?_map, List.getElem?_range hi] at hd
  cases hd
  exact ⟨Gc, Grow.refl h3, .int _⟩
def small62 (i : Int) : Bool := decide (-1000000 ≤ i) && decide (i ≤ 1000000)
theorem small62_ok {i : Int} (h : small62 i = true) : -(2 ^ 62) ≤ i ∧ i < 2 ^ 62 := by
  unfold small62 at h
  rw [Bool.and_eq_true, decide_eq_true_eq, decide_eq_true_eq] at h
  omega
def evRng1 (a : Ev (List D)) : Ev (List D) := fun s => (a s).bind fun p => match p.1 with
  | [.int j] => if small62 j then some (upTo 0 j.toNat, p.2) else none
  | _ => none
def evRng2 (a : Ev (List D)) : Ev (List D) := fun s => (a s).bind fun p => match p.1 with
  | [.int i, .int j] => if small62 i && small62 j then some (upTo i (j - i).toNat, p.2) else none
  | _ => none
theorem si_range1 {X : Cx} {tg a : Expr} {ta : Ev (List D)} {p pos : Pos} (hg : Gl X "range") (hm : X.mg "range" = none) (ha : SA X [a] ta) (hs : starEach [a] X.env = [(false, eval a X.env)] := by rfl) : SI X tg (.Call (.Name "range" p) [a] [] pos) (evRng1 ta) :=
  pi_imp (pi_range1 hg hm ha hs) fun σ H R' ⟨g, G, φ, s, ds, s', hK, R, he, q⟩ => by
    obtain ⟨⟨p1, p2⟩, e1, he⟩ := bind_some_iff he
    split at he
    · rename_i j ep
      have ep : p1 = _ := ep
      subst ep
      split at he
      · rename_i hsm
        cases he
        refine ⟨g, G, φ, s, _, _, hK, R, e1, fun G1 φ1 H1 v R1 h1 h2 x => ?_⟩
        cases x with
        | cons r rs =>
          cases rs
          cases r
          exact ⟨j, rfl, (small62_ok hsm).1, (small62_ok hsm).2, q _ G1 φ1 H1 R1 h1 h2 (itOk_range 0 _)⟩
      · cases he
    · cases he
theorem si_range2 {X : Cx} {tg a b : Expr} {ta : Ev (List D)} {p pos : Pos} (hg : Gl X "range") (hm : X.mg "range" = none) (ha : SA X [a, b] ta) (hs : starEach [a, b] X.env = [(false, eval a X.env), (false, eval b X.env)] := by rfl) (hs2 : starEach [b] X.env = [(false, eval b X.env)] := by rfl) : SI X tg (.Call (.Name "range" p) [a, b] [] pos) (evRng2 ta) :=
  pi_imp (pi_range2 hg hm ha hs hs2) fun σ H R' ⟨g, G, φ, s, ds, s', hK, R, he, q⟩ => by
    obtain ⟨⟨p1, p2⟩, e1, he⟩ := bind_some_iff he
    split at he
    · rename_i i j ep
      have ep : p1 = _ := ep
      subst ep
      split at he
      · rename_i hsm
        rw [Bool.and_eq_true] at hsm
        cases he
        refine ⟨g, G, φ, s, _, _, hK, R, e1, fun G1 φ1 H1 v R1 h1 h2 x => ?_⟩
        cases x with
        | cons r rs =>
          cases rs with
          | cons r2 rs =>
            cases rs
            cases r
            cases r2
            exact ⟨i, j, rfl, ⟨(small62_ok hsm.1).1, (small62_ok hsm.1).2, (small62_ok hsm.2).1, (small62_ok hsm.2).2⟩, q _ G1 φ1 H1 R1 h1 h2 (itOk_range i _)⟩
      · cases he
    · cases he

def evFor (t : Tgt) (b : Ev Out) : List D → Ev Out
  | [] => fun s => some (.nx, s)
  | d :: ds => fun s => (t d s).bind fun s1 => (b s1).bind fun p => match p.1 with
    | .nx => evFor t b ds p.2
    | .ct => evFor t b ds p.2
    | .bk => some (.nx, p.2)
    | .rt r => some (.rt r, p.2)
def evForS (it : Ev (List D)) (t : Tgt) (b : Ev Out) : Ev Out := fun s => (it s).bind fun p => evFor t b p.1 p.2
theorem ss_for {X : Cx} {vs : List Nat} {tg iter : Expr} {body : List Stmt} {it : Ev (List D)} {t : Tgt} {b : Ev Out} {pos : Pos} (hp : PassesOwn (model X.prog X.w) X.A X.env X.xe) (hc : X.calm = true) (hi : SI X tg iter it) (hg : SG X vs tg t) (hb : SSs X body b) (hs : ∀ x, foldedSetIterable iter X.env x = pure x := by intro _; rfl) : SS X (.For tg iter body [] pos) (evForS it t b) :=
  ps_imp (ps_for hp hc hi hg hb hs) fun E σ H ⟨g, G, φ, s, o, s', hK, R, he, q⟩ => by
    obtain ⟨⟨ds, s1⟩, e1, he⟩ := bind_some_iff he
    refine ⟨g, G, φ, s, ds, s1, hK, R, e1, fun J G1 φ1 H1 R1 h1 h2 ok => ?_⟩
    have q := q.pre h1 h2
    refine ⟨fun i m σ' H' => m = ds.length - i ∧ i ≤ ds.length ∧ ∃ Gc φc sc, Rel g Gc φc sc σ' H' ∧ Same G1 Gc ∧ φ1 <+: φc ∧ evFor t b (ds.drop i) sc = some (o, s'), ⟨ds.length, by simp, Nat.zero_le _, G1, φ1, s1, R1, Same.refl _, List.prefix_refl _, he⟩, ?_⟩
    rintro i m σ' H' ⟨rfl, hi, Gc, φc, sc, Rc, h3, h4, ec⟩
    by_cases hlt : i < ds.length
    · refine .inr ⟨ok.go Gc φc H' h3 h4 Rc.sub i hlt, fun σ2 H2 => ∃ G2 φ2 s2, Rel g G2 φ2 s2 σ2 H2 ∧ Same G1 G2 ∧ φ1 <+: φ2 ∧ evFor t b (ds.drop (i + 1)) s2 = some (o, s'), fun σ2 H2 ⟨G2, φ2, s2, a1, a2, a3, a4⟩ => ⟨ds.length - (i + 1), by omega, rfl, hlt, G2, φ2, s2, a1, a2, a3, a4⟩, fun x H2 hy => ?_⟩
      obtain ⟨G2, gr, rx⟩ := ok.yld Gc φc H' h3 h4 Rc.sub i ds[i] x H2 (List.getElem?_eq_getElem hlt) hy
      have R2 := Rc.grow gr
      rw [List.drop_eq_getElem_cons hlt] at ec
      obtain ⟨s2, e2, ec⟩ := bind_some_iff ec
      refine ⟨g, G2, φc, sc, _, s2, hK, R2, rx, e2, fun G3 φ3 σ3 H3 R3 h5 h6 _ => ?_⟩
      obtain ⟨⟨p1, p2⟩, e3, ec⟩ := bind_some_iff ec
      have h13 : Same G1 G3 := (h3.trans gr.gg).trans h5
      have p13 : φ1 <+: φ3 := h4.trans h6
      refine ⟨g, G3, φ3, s2, p1, p2, hK, R3, e3, ?_⟩
      cases p1 with
      | nx => exact fun G' φ' σ' H' R' a1 a2 => ⟨G', φ', p2, R', h13.trans a1, p13.trans a2, ec⟩
      | ct => exact fun G' φ' σ' H' R' a1 a2 => ⟨G', φ', p2, R', h13.trans a1, p13.trans a2, ec⟩
      | bk =>
        cases ec
        exact fun G' φ' σ' H' R' a1 a2 => q G' φ' σ' H' R' (h13.trans a1) (p13.trans a2)
      | rt r =>
        cases ec
        exact fun G' φ' σ' H' v R' a1 a2 x => q G' φ' σ' H' v R' (h13.trans a1) (p13.trans a2) x
    · have e : i = ds.length := by omega
      subst e
      rw [List.drop_length] at ec
      cases ec
      exact .inl ⟨ok.stop Gc φc H' h3 h4 Rc.sub, q Gc φc σ' H' Rc h3 h4⟩

def evWhN (c : Ev Bool) (b : Ev Out) : Nat → Ev Out
  | 0 => fun _ => none
  | n + 1 => fun s => (c s).bind fun p => if p.1 then (b p.2).bind fun q => match q.1 with
      | .nx => evWhN c b n q.2
      | .ct => evWhN c b n q.2
      | .bk => some (.nx, q.2)
      | .rt r => some (.rt r, q.2)
    else some (.nx, p.2)
open Classical in
noncomputable def evWh (c : Ev Bool) (b : Ev Out) : Ev Out := fun s => if h : ∃ n r, evWhN c b n s = some r then some (Classical.choose (Classical.choose_spec h)) else none
theorem evWhN_succ {c : Ev Bool} {b : Ev Out} : ∀ {n : Nat} {s : Sg} {r : Out × Sg}, evWhN c b n s = some r → evWhN c b (n + 1) s = some r
  | 0, s, r, h => by cases h
  | n + 1, s, r, h => by
    obtain ⟨⟨p1, p2⟩, e1, h⟩ := bind_some_iff h
    show ((c s).bind fun p => _) = _
    rw [e1]
    cases p1 with
    | false => exact h
    | true =>
      have h : (if true = true then _ else _) = _ := h
      rw [if_pos rfl] at h
      obtain ⟨⟨q1, q2⟩, e2, h⟩ := bind_some_iff h
      show ((b p2).bind fun q => _) = _
      rw [e2]
      cases q1 with
      | nx => exact evWhN_succ h
      | ct => exact evWhN_succ h
      | bk => exact h
      | rt x => exact h
theorem evWhN_le {c : Ev Bool} {b : Ev Out} {n m : Nat} {s : Sg} {r : Out × Sg} (h : evWhN c b n s = some r) (l : n ≤ m) : evWhN c b m s = some r := by
  induction l with
  | refl => exact h
  | step _ ih => exact evWhN_succ ih
theorem evWh_of {c : Ev Bool} {b : Ev Out} {n : Nat} {s : Sg} {r : Out × Sg} (h : evWhN c b n s = some r) : evWh c b s = some r := by
  have ex : ∃ n r, evWhN c b n s = some r := ⟨n, r, h⟩
  unfold evWh
  rw [dif_pos ex]
  have e := Classical.choose_spec (Classical.choose_spec ex)
  have e1 := evWhN_le e (Nat.le_max_left (Classical.choose ex) n)
  have e2 := evWhN_le h (Nat.le_max_right (Classical.choose ex) n)
  rw [e1] at e2
  exact e2
theorem evWh_ex {c : Ev Bool} {b : Ev Out} {s : Sg} {r : Out × Sg} (h : evWh c b s = some r) : ∃ n, evWhN c b n s = some r := by
  unfold evWh at h
  split at h
  · rename_i ex
    cases h
    exact ⟨_, Classical.choose_spec (Classical.choose_spec ex)⟩
  · cases h
theorem ss_while {X : Cx} {c : Expr} {body : List Stmt} {tc : Ev Bool} {b : Ev Out} {pos : Pos} (hp : PassesOwn (model X.prog X.w) X.A X.env X.xe) (hc : ST X c tc) (hb : SSs X body b) : SS X (.While c body [] pos) (evWh tc b) :=
  ps_imp (ps_while hp hc hb) fun E σ H ⟨g, G, φ, s, o, s', hK, R, he, q⟩ => by
    obtain ⟨n, he⟩ := evWh_ex he
    refine ⟨fun m σ' H' => ∃ Gc φc sc, Rel g Gc φc sc σ' H' ∧ Same G Gc ∧ φ <+: φc ∧ evWhN tc b m sc = some (o, s'), ⟨n, G, φ, s, R, Same.refl _, List.prefix_refl _, he⟩, ?_⟩
    rintro m σ' H' ⟨Gc, φc, sc, Rc, h3, h4, ec⟩
    cases m with
    | zero => cases ec
    | succ m =>
      obtain ⟨⟨p1, p2⟩, e1, ec⟩ := bind_some_iff ec
      refine ⟨g, Gc, φc, sc, p1, p2, hK, Rc, e1, fun G1 φ1 H1 R1 h5 h6 => ?_⟩
      cases p1 with
      | false =>
        rw [if_neg Bool.false_ne_true]
        cases ec
        exact q G1 φ1 σ' H1 R1 (h3.trans h5) (h4.trans h6)
      | true =>
        rw [if_pos rfl]
        have ec : (if true = true then _ else _) = _ := ec
        rw [if_pos rfl] at ec
        obtain ⟨⟨q1, q2⟩, e2, ec⟩ := bind_some_iff ec
        refine ⟨fun σ2 H2 => ∃ G2 φ2 s2, Rel g G2 φ2 s2 σ2 H2 ∧ Same G G2 ∧ φ <+: φ2 ∧ evWhN tc b m s2 = some (o, s'), fun σ2 H2 ⟨G2, φ2, s2, a1, a2, a3, a4⟩ => ⟨m, Nat.lt_succ_self m, G2, φ2, s2, a1, a2, a3, a4⟩, ?_⟩
        refine ⟨g, G1, φ1, p2, q1, q2, hK, R1, e2, ?_⟩
        have h13 : Same G G1 := h3.trans h5
        have p13 : φ <+: φ1 := h4.trans h6
        cases q1 with
        | nx => exact fun G' φ' σ' H' R' a1 a2 => ⟨G', φ', q2, R', h13.trans a1, p13.trans a2, ec⟩
        | ct => exact fun G' φ' σ' H' R' a1 a2 => ⟨G', φ', q2, R', h13.trans a1, p13.trans a2, ec⟩
        | bk =>
          cases ec
          exact fun G' φ' σ' H' R' a1 a2 => q G' φ' σ' H' R' (h13.trans a1) (p13.trans a2)
        | rt r =>
          cases ec
          exact fun G' φ' σ' H' v R' a1 a2 x => q G' φ' σ' H' v R' (h13.trans a1) (p13.trans a2) x
end Pv

namespace Pv
open PySem PySem.Spec L2

def leakSlot (s : Sg) (i : Nat) : Sg := match s.env[i]? with
  | some (.own d) => { s with env := s.env.set i (.fro d) }
  | _ => s
def freezeCap (cap : List Nat) (s : Sg) : Sg := cap.foldl leakSlot s
def hideSlot : Slot → Slot
  | .own _ => .non
  | x => x
def wipeE (env : List Slot) : List Nat → List Slot
  | [] => env
  | v :: vs => (wipeE env vs).set v .non
def blkEnv (vs : List Nat) (env : List Slot) : List Slot := wipeE (env.map hideSlot) vs
section
variable {g : Gh} {G G' : Hp} {φ φ' : List Addr} {s s' : Sg} {σ σ' : St} {H H' : Hp}
theorem Rel.leakS (R : Rel g G φ s σ H) (i : Nat) : ∃ G', Rel g G' φ (leakSlot s i) σ H ∧ Same G G' := by
  unfold leakSlot
  cases e : s.env[i]? with
  | none => exact ⟨G, R, Same.refl _⟩
  | some sl =>
    cases sl with
    | non => exact ⟨G, R, Same.refl _⟩
    | fro d => exact ⟨G, R, Same.refl _⟩
    | own d =>
      obtain ⟨v, G', _, R', h, _⟩ := R.leak e
      exact ⟨G', R', h⟩
theorem Rel.cap : ∀ (cap : List Nat) {s : Sg} {G : Hp}, Rel g G φ s σ H → ∃ G', Rel g G' φ (freezeCap cap s) σ H ∧ Same G G'
  | [], s, G, R => ⟨G, R, Same.refl _⟩
  | i :: cap, s, G, R => by
    obtain ⟨G1, R1, h1⟩ := R.leakS i
    obtain ⟨G2, R2, h2⟩ := Rel.cap cap R1
    exact ⟨G2, R2, h1.trans h2⟩
open Classical in
noncomputable def ownW (env : List Slot) (σ : St) (H : Hp) : Hp := fun a => if ∃ (i : Nat) (d : D), env[i]? = some (Slot.own d) ∧ σ[i]? = some (some (V.ref a)) then H a else none
theorem ownW_some {env : List Slot} {a : Addr} {o : HO} (h : ownW env σ H a = some o) : H a = some o ∧ ∃ (i : Nat) (d : D), env[i]? = some (Slot.own d) ∧ σ[i]? = some (some (V.ref a)) := by
  unfold ownW at h
  split at h
  · rename_i q; exact ⟨h, q⟩
  · cases h
theorem ownW_own {env : List Slot} {i : Nat} {d : D} {a : Addr} (h1 : env[i]? = some (Slot.own d)) (h2 : σ[i]? = some (some (V.ref a))) : ownW env σ H a = H a := by
  unfold ownW
  rw [if_pos ⟨i, d, h1, h2⟩]
theorem wipeE_get {env : List Slot} {j : Nat} : ∀ {vs : List Nat}, (wipeE env vs)[j]? = if j ∈ vs ∧ j < env.length then some .non else env[j]?
  | [] => by simp [wipeE]
  | v :: vs => by
    have hlen : ∀ vs : List Nat, (wipeE env vs).length = env.length := by
      intro vs
      induction vs with
      | nil => rfl
      | cons v vs ih => unfold wipeE; rw [List.length_set, ih]
    unfold wipeE
    by_cases h : j = v
    · subst h
      by_cases hl : j < env.length
      · rw [List.getElem?_set_self (by rw [hlen]; exact hl), if_pos ⟨List.mem_cons_self, hl⟩]
      · rw [List.getElem?_eq_none (by rw [List.length_set, hlen]; omega), if_neg (fun q => hl q.2), List.getElem?_eq_none (by omega)]
    · rw [List.getElem?_set_ne (Ne.symm h), wipeE_get]
      by_cases hm : j ∈ vs ∧ j < env.length
      · rw [if_pos hm, if_pos ⟨List.mem_cons_of_mem _ hm.1, hm.2⟩]
      · rw [if_neg hm, if_neg]
        rintro ⟨q1, q2⟩
        rcases List.mem_cons.mp q1 with e | e
        · exact h e
        · exact hm ⟨e, q2⟩
theorem wipeE_len {env : List Slot} : ∀ vs : List Nat, (wipeE env vs).length = env.length := by
  intro vs
  induction vs with
  | nil => rfl
  | cons v vs ih => unfold wipeE; rw [List.length_set, ih]
theorem blkEnv_get {vs : List Nat} {env : List Slot} {i : Nat} {x : Slot} (h : (blkEnv vs env)[i]? = some x) : (∀ d, x ≠ .own d) ∧ (∀ d, x = .fro d → env[i]? = some (.fro d) ∧ i ∉ vs) := by
  unfold blkEnv at h
  rw [wipeE_get, List.length_map] at h
  split at h
  · cases h
    exact ⟨fun d e => (nomatch e), fun d e => (nomatch e)⟩
  · rename_i hn
    rw [List.getElem?_map] at h
    cases e : env[i]? with
    | none => rw [e] at h; cases h
    | some y =>
      rw [e] at h
      cases y with
      | non => cases h; exact ⟨fun d e => (nomatch e), fun d e => (nomatch e)⟩
      | own d => cases h; exact ⟨fun d e => (nomatch e), fun d e => (nomatch e)⟩
      | fro d =>
        cases h
        refine ⟨fun d e => (nomatch e), fun d' e' => ?_⟩
        cases e'
        exact ⟨rfl, fun hm => hn ⟨hm, (List.getElem?_eq_some_iff.mp e).1⟩⟩
theorem Rel.block (R : Rel g G φ s σ H) (vs : List Nat) : Rel (g.hid (ownW s.env σ H)) G φ ⟨blkEnv vs s.env, s.st⟩ (wipe σ vs) H := by
  have R1 : Rel g G φ ⟨blkEnv vs s.env, s.st⟩ (wipe σ vs) H := by
    refine ⟨R.sub, R.g0, R.new, R.old, R.use, R.zed, R.pre, ?_, fun i d e => ?_, fun i d e => ?_, fun i j d e p _ q _ => ?_, R.clen, R.cell, R.nd⟩
    · show (blkEnv vs s.env).length = _
      unfold blkEnv
      rw [wipeE_len, List.length_map, wipe_length, R.len]
    · obtain ⟨h1, h2⟩ := (blkEnv_get e).2 d rfl
      obtain ⟨v, a, b⟩ := R.fro i d h1
      exact ⟨v, by rw [wipe_get, if_neg (fun q => h2 q.1)]; exact a, b⟩
    · exact absurd rfl ((blkEnv_get e).1 d)
    · exact absurd rfl ((blkEnv_get q).1 d)
  refine R1.hide (fun a o e => (ownW_some e).1) (fun a o e => ?_) fun i d a e => absurd rfl ((blkEnv_get e).1 d)
  obtain ⟨_, i, d, h1, h2⟩ := ownW_some e
  obtain ⟨p, o', e1, _, _, e4, _, _, e7⟩ := R.own i d h1
  rw [h2] at e1
  cases e1
  exact ⟨e4, e7⟩
theorem Rel.unblock (R : Rel g G φ s σ H) (R' : Rel (g.hid (ownW s.env σ H)) G' φ' s' σ' H') (h1 : Same G G') (h2 : φ <+: φ') : Rel g G' φ' ⟨s.env, s'.st⟩ σ H' := by
  have R1 : Rel g G' φ' s' σ' H' := R'.unhide (fun a z => (R.zed a z).2) fun a o e => by
    obtain ⟨_, i, d, q1, q2⟩ := ownW_some e
    obtain ⟨p, o', e1, _, _, _, e5, _⟩ := R.own i d q1
    rw [q2] at e1
    cases e1
    exact e5
  refine ⟨R1.sub, R1.g0, R1.new, R1.old, R1.use, R1.zed, R1.pre, R.len, fun i d e => ?_, fun i d e => ?_, R.sep, R1.clen, R1.cell, R1.nd⟩
  · obtain ⟨v, a, b⟩ := R.fro i d e
    exact ⟨v, a, b.mono h1 h2⟩
  · obtain ⟨p, o, e1, e2, e3, e4, e5, e6, e7⟩ := R.own i d e
    have w : ownW s.env σ H p = some o := (ownW_own e e1).trans e2
    have fw : (g.hid (ownW s.env σ H)).F p = some o := by
      show over _ _ p = _
      unfold over
      rw [w]
    refine ⟨p, o, e1, R'.old p o fw, e3.mono h1 h2, (R'.zed p (Or.inl (by rw [w]; simp))).1, e5, e6, fun hm => ?_⟩
    obtain ⟨n, hn⟩ := List.getElem?_of_mem hm
    have hl : n < s'.st.length := by rw [R'.clen]; exact (List.getElem?_eq_some_iff.mp hn).1
    obtain ⟨o', _, _, _, q, _⟩ := R'.cell n p _ hn (List.getElem?_eq_getElem hl)
    rw [fw] at q
    cases q
theorem Fresh.unblock {p : Addr} {o : HO} {d : D} (R : Rel g G φ s σ H) (F : Fresh (g.hid (ownW s.env σ H)) G' φ' s' σ' H' p o d) : Fresh g G' φ' ⟨s.env, s'.st⟩ σ H' p o d := by
  have fp : over (ownW s.env σ H) g.F p = none := F.fp
  refine ⟨F.at_, F.own, F.gp, (over_none fp).2, F.up, F.ph, fun i e h1 h2 => ?_⟩
  obtain ⟨p', o', e1, e2, _⟩ := R.own i e h1
  rw [h2] at e1
  cases e1
  have w := ownW_own (H := H) h1 h2
  rw [(over_none fp).1, e2] at w
  cases w
end

theorem pts_imp {X : Cx} {e : List Expr} {t t' : TT} (h : PTs X e t) (f : ∀ σ H Q, t' σ H Q → t σ H Q) : PTs X e t' := ⟨fun pins s σ H Q I q => h.run pins s σ H Q I (f _ _ _ q)⟩
def STs (X : Cx) (e : List Expr) (ev : Ev Bool) : Prop := PTs X e (tT X.K ev)
def evYes : Ev Bool := fun s => some (true, s)
theorem sts_nil {X : Cx} : STs X [] evYes := pts_imp pts_nil fun σ H Q ⟨g, G, φ, s, o, s', hK, R, he, q⟩ => by
  cases he
  exact q G φ H R (Same.refl _) (List.prefix_refl _)
theorem sts_one {X : Cx} {c : Expr} {a : Ev Bool} (h : ST X c a) : STs X [c] a := pts_one h
def evLcGo (t : Tgt) (c : Ev Bool) (e : Ev RV) (env : List Slot) : List D → List Cell → Option (List D × List Cell)
  | [], st => some ([], st)
  | d :: ds, st => (t d ⟨env, st⟩).bind fun s1 => (c s1).bind fun p => if p.1 then (e p.2).bind fun q => (evLcGo t c e env ds q.2.st).map fun r => (q.1.d :: r.1, r.2) else evLcGo t c e env ds p.2.st
def evLc (it : Ev (List D)) (cap vs : List Nat) (t : Tgt) (c : Ev Bool) (e : Ev RV) : Ev RV := fun s => (it s).bind fun p => if p.1.length ≤ 1000000 then
    (evLcGo t c e (blkEnv vs (freezeCap cap p.2).env) p.1 p.2.st).map fun r => (.own (.lst r.1), ⟨(freezeCap cap p.2).env, r.2⟩) else none
theorem freezeCap_st : ∀ (cap : List Nat) (s : Sg), (freezeCap cap s).st = s.st
  | [], s => rfl
  | i :: cap, s => by
    show (freezeCap cap (leakSlot s i)).st = _
    rw [freezeCap_st cap]
    unfold leakSlot
    split <;> rfl
theorem evLcGo_len {t : Tgt} {c : Ev Bool} {e : Ev RV} {env : List Slot} : ∀ {ds : List D} {st : List Cell} {r : List D × List Cell}, evLcGo t c e env ds st = some r → r.1.length ≤ ds.length
  | [], st, r, h => by cases h; exact Nat.le_refl _
  | d :: ds, st, r, h => by
    obtain ⟨s1, _, h⟩ := bind_some_iff h
    obtain ⟨⟨p1, p2⟩, _, h⟩ := bind_some_iff h
    cases p1 with
    | true =>
      have h : (if true = true then _ else _) = _ := h
      rw [if_pos rfl] at h
      obtain ⟨⟨q1, q2⟩, _, h⟩ := bind_some_iff h
      obtain ⟨r', h1, h⟩ := map_some_iff h
      cases h
      exact Nat.succ_le_succ (evLcGo_len h1)
    | false =>
      have h : (if false = true then _ else _) = _ := h
      rw [if_neg Bool.false_ne_true] at h
      exact Nat.le_succ_of_le (evLcGo_len h)
theorem RepA.append {K : PySem.W.Frag} {φ : List Addr} {G : Hp} : ∀ {vs ds ws es}, RepA K φ G vs ds → RepA K φ G ws es → RepA K φ G (vs ++ ws) (ds ++ es)
  | _, _, _, _, .nil, r => r
  | _, _, _, _, .cons a b, r => .cons a (b.append r)
theorem million : (1000000 : Nat) < sizeLine := by rw [sizeLine_eq]; decide
theorem lc_tail {g : Gh} {G1 : Hp} {φ1 : List Addr} {s1 : Sg} {σ : St} {H1 : Hp} {K : PySem.W.Frag} {ds acc : List D} {st' : List Cell} {cap vs : List Nat} {t : Tgt} {c : Ev Bool} {e : Ev RV} {J : It} {Q : VK} (hK : g.K = K)
    (R1 : Rel g G1 φ1 s1 σ H1) (ok : ItOk g.K φ1 G1 J ds) (hsz : ds.length ≤ 1000000) (hev : evLcGo t c e (blkEnv vs (freezeCap cap s1).env) ds s1.st = some (acc, st'))
    (q : ∀ G' φ' H' v, Rel g G' φ' ⟨(freezeCap cap s1).env, st'⟩ σ H' → Same G1 G' → φ1 <+: φ' → Res g G' φ' ⟨(freezeCap cap s1).env, st'⟩ σ H' v (.own (.lst acc)) → Q v H') (Dd : Addr) (hD : H1 Dd = none) :
    ∃ W : Nat → Nat → Hp → Prop, (∃ m, W 0 m (upd H1 Dd (.lst []))) ∧ ∀ i m H, W i m H →
      (J.stop i H ∧ Q (.ref Dd) H) ∨ (J.go i H ∧ ∃ Nx : Hp → Prop, (∀ H', Nx H' → ∃ m', m' < m ∧ W (i + 1) m' H') ∧ ∀ x H', J.yld i H x H' → tG K vs t x (wipe σ vs) H' fun σ2 H2 => wipe σ2 vs = wipe σ vs ∧ tT K c σ2 H2 fun b H3 =>
        if b = true then tR K e σ2 H3 fun y H4 => ∃ acc, H4 Dd = some (.lst acc) ∧ acc.length < sizeLine ∧ Nx (upd H4 Dd (.lst (acc ++ [y]))) else Nx H3) := by
  obtain ⟨Gf, Rf, hf⟩ := Rel.cap cap R1
  have hst : (freezeCap cap s1).st = s1.st := freezeCap_st cap s1
  have Rb := Rf.block vs
  rw [hst] at Rb
  generalize hgb : g.hid (ownW (freezeCap cap s1).env σ H1) = gb at Rb
  have hKb : gb.K = K := by rw [← hgb]; exact hK
  have gr : Grow Gf H1 Gf (upd H1 Dd (.lst [])) := Grow.aside Rb.sub hD
  have F0 : Fresh gb Gf φ1 ⟨blkEnv vs (freezeCap cap s1).env, s1.st⟩ (wipe σ vs) (upd H1 Dd (.lst [])) Dd (.lst []) (.lst []) := Fresh.of_new Rb gr hD upd_same (Rb.sub.free hD) (.lst .nil)
  let benv := blkEnv vs (freezeCap cap s1).env
  refine ⟨fun i m H' => m = ds.length - i ∧ i ≤ ds.length ∧ ∃ Gc φc st accV accD, Rel gb Gc φc ⟨benv, st⟩ (wipe σ vs) H' ∧ Same Gf Gc ∧ φ1 <+: φc ∧ Fresh gb Gc φc ⟨benv, st⟩ (wipe σ vs) H' Dd (.lst accV) (.lst accD) ∧ accD.length ≤ i ∧
    ∃ more, evLcGo t c e benv (ds.drop i) st = some (more, st') ∧ acc = accD ++ more, ⟨ds.length, by simp, Nat.zero_le _, Gf, φ1, s1.st, [], [], Rb.grow gr, Same.refl _, List.prefix_refl _, F0, Nat.le_refl _, acc, hev, rfl⟩, ?_⟩
  rintro i m H' ⟨rfl, hi, Gc, φc, st, accV, accD, Rc, h3, h4, Fc, hal, more, hm, hacc⟩
  have ra : RepA gb.K φc Gc accV accD := by cases Fc.own with | lst r => exact r
  by_cases hlt : i < ds.length
  · refine .inr ⟨ok.go Gc φc H' (hf.trans h3) h4 Rc.sub i hlt, fun H2 => ∃ Gc φc st accV accD, Rel gb Gc φc ⟨benv, st⟩ (wipe σ vs) H2 ∧ Same Gf Gc ∧ φ1 <+: φc ∧ Fresh gb Gc φc ⟨benv, st⟩ (wipe σ vs) H2 Dd (.lst accV) (.lst accD) ∧ accD.length ≤ i + 1 ∧
      ∃ more, evLcGo t c e benv (ds.drop (i + 1)) st = some (more, st') ∧ acc = accD ++ more, fun H2 h => ⟨ds.length - (i + 1), by omega, rfl, hlt, h⟩, fun x H2 hy => ?_⟩
    obtain ⟨G2, gr2, rx⟩ := ok.yld Gc φc H' (hf.trans h3) h4 Rc.sub i ds[i] x H2 (List.getElem?_eq_getElem hlt) hy
    have R2 := Rc.grow gr2
    have F2 : Fresh gb G2 φc ⟨benv, st⟩ (wipe σ vs) H2 Dd (.lst accV) (.lst accD) := by
      refine ⟨gr2.hh _ _ Fc.at_, Fc.own.mono gr2.gg (List.prefix_refl _), ?_, Fc.fp, Fc.up, Fc.ph, Fc.sl⟩
      cases z : G2 Dd with
      | none => rfl
      | some u =>
        rcases gr2.new Dd u z with z | z
        · rw [Fc.gp] at z; cases z
        · rw [Fc.at_] at z; cases z
    have Rp := R2.pend F2
    rw [List.drop_eq_getElem_cons hlt] at hm
    obtain ⟨s2, e2, hm⟩ := bind_some_iff hm
    obtain ⟨⟨p1, p2⟩, e3, hm⟩ := bind_some_iff hm
    refine ⟨gb.hid (one Dd (.lst accV)), G2, φc, ⟨benv, st⟩, _, s2, hKb, Rp, (show Rep gb.K φc G2 x ds[i] from (by rw [hKb, ← hK]; exact rx)), e2, fun G3 φ3 σ3 H3 R3 h5 h6 w3 => ⟨w3.trans ?_, ?_⟩⟩
    · exact List.ext_getElem? fun j => by
        rw [wipe_get, wipe_length]
        by_cases hj : j ∈ vs ∧ j < σ.length
        · rw [if_pos hj, wipe_get, if_pos hj]
        · rw [if_neg hj]
    refine ⟨gb.hid (one Dd (.lst accV)), G3, φ3, s2, p1, p2, hKb, R3, e3, fun G4 φ4 H4 R4 h7 h8 => ?_⟩
    have S24 : Same G2 G4 := h5.trans h7
    have P24 : φc <+: φ4 := h6.trans h8
    have fin : ∀ {G5 : Hp} {φ5 : List Addr} {s5 : Sg} {σ5 : St} {H5 : Hp}, Rel (gb.hid (one Dd (.lst accV))) G5 φ5 s5 σ5 H5 → Same G2 G5 → φc <+: φ5 →
        Rel gb G5 φ5 ⟨benv, s5.st⟩ (wipe σ vs) H5 ∧ Fresh gb G5 φ5 ⟨benv, s5.st⟩ (wipe σ vs) H5 Dd (.lst accV) (.lst accD) := fun {G5 φ5 s5 σ5 H5} R5 a b => by
      obtain ⟨Rb5, Fb5⟩ := R2.back F2 R5 a b
      have noown : ∀ (k : Nat) d, benv[k]? = some (Slot.own d) → False := fun k d q => (blkEnv_get q).1 d rfl
      refine ⟨⟨Rb5.sub, Rb5.g0, Rb5.new, Rb5.old, Rb5.use, Rb5.zed, Rb5.pre, R2.len, fun k d q => ?_, fun k d q => (noown k d q).elim, fun k l d _ p _ q => (noown k d q).elim, Rb5.clen, Rb5.cell, Rb5.nd⟩, ⟨Fb5.at_, Fb5.own, Fb5.gp, Fb5.fp, Fb5.up, Fb5.ph, fun k d q => (noown k d q).elim⟩⟩
      obtain ⟨v, q1, q2⟩ := R2.fro k d q
      exact ⟨v, q1, q2.mono a b⟩
    cases p1 with
    | false =>
      refine L2.iteF ?_
      have hm : (if false = true then _ else _) = _ := hm
      rw [if_neg Bool.false_ne_true] at hm
      obtain ⟨Rz, Fz⟩ := fin R4 S24 P24
      exact ⟨G4, φ4, p2.st, accV, accD, Rz, (h3.trans gr2.gg).trans S24, h4.trans P24, Fz, by omega, more, hm, hacc⟩
    | true =>
      refine L2.iteT ?_
      have hm : (if true = true then _ else _) = _ := hm
      rw [if_pos rfl] at hm
      obtain ⟨⟨r1, r2⟩, e4, hm⟩ := bind_some_iff hm
      obtain ⟨⟨m1, m2⟩, e5, hm⟩ := map_some_iff hm
      cases hm
      refine ⟨gb.hid (one Dd (.lst accV)), G4, φ4, p2, r1, r2, hKb, R4, e4, fun G5 φ5 H5 v R5 h9 h10 y => ?_⟩
      obtain ⟨G6, R6, h11, ry⟩ := y.froz R5
      have S26 : Same G2 G6 := (S24.trans h9).trans h11
      have P25 : φc <+: φ5 := P24.trans h10
      obtain ⟨Rz, Fz⟩ := fin R6 S26 P25
      have hle : accV.length < sizeLine := by
        have := million
        rw [ra.length]
        omega
      refine ⟨accV, Fz.at_, hle, ?_⟩
      have ra2 : RepA gb.K φ5 G6 (accV ++ [v]) (accD ++ [r1.d]) := (ra.mono (gr2.gg.trans S26) P25).append (.cons ry .nil)
      obtain ⟨Ry, Fy⟩ := Rz.setPend Fz (o' := .lst (accV ++ [v])) (d' := .lst (accD ++ [r1.d])) (.lst ra2)
      exact ⟨G6, φ5, r2.st, accV ++ [v], accD ++ [r1.d], Ry, (h3.trans gr2.gg).trans S26, h4.trans P25, Fy, by rw [List.length_append]; show accD.length + 1 ≤ _; omega, m1, e5, by rw [hacc, List.append_assoc]; rfl⟩
  · have ei : i = ds.length := by omega
    subst ei
    rw [List.drop_length] at hm
    cases hm
    rw [List.append_nil] at hacc
    refine .inl ⟨ok.stop Gc φc H' (hf.trans h3) h4 Rc.sub, ?_⟩
    subst hgb
    have Ru := Rf.unblock Rc h3 h4
    have Fu := Fc.unblock Rf
    rw [hacc] at q
    exact q Gc φc H' _ Ru (hf.trans h3) h4 (.own Fu)
section
variable {X : Cx} {elt tg iter : Expr} {ifs : List Expr} {scope : Scope} {own : List (Str × Nat)} {pos : Pos} {it : Ev (List D)} {t : Tgt} {c : Ev Bool} {e : Ev RV}
theorem lc_all {K : PySem.W.Frag} {cap vs : List Nat} {σ : St} {H : Hp} {Q : VK} (h : tR K (evLc it cap vs t c e) σ H Q) : tLc (tI K it) (tG K vs t) (tT K c) (tR K e) vs σ H Q := by
  obtain ⟨g, G, φ, s, r, s', hK, R, he, q⟩ := h
  obtain ⟨⟨ds, s1⟩, e1, he⟩ := bind_some_iff he
  split at he
  · rename_i hsz
    obtain ⟨⟨acc, st'⟩, e2, he⟩ := map_some_iff he
    cases he
    refine ⟨g, G, φ, s, ds, s1, hK, R, e1, fun J G1 φ1 H1 R1 h1 h2 ok Dd hD => ?_⟩
    exact lc_tail hK R1 ok hsz e2 (fun G' φ' H' v R' a b x => q G' φ' H' v R' (h1.trans a) (h2.trans b) x) Dd hD
  · cases he
theorem sr_lc (cap : List Nat) (own : List (Str × Nat)) (hc : X.calm = true) (hN : X.N.Nodup) (hi : SI X tg iter it) (ok : BlkOk X.N X.env.scope scope own)
    (hg : ∀ (s : Shared) (H : Hp) (C : Addr) (cl : List (Str × Addr)) (fp : List Addr), SG (X.blk s H scope (compEnvC scope cl C X.env) fp) (own.map (·.2)) tg t) (ht : ∀ (s : Shared) (H : Hp) (C : Addr) (cl : List (Str × Addr)) (fp : List Addr), STs (X.blk s H scope (compEnvC scope cl C X.env) fp) ifs c)
    (he : ∀ (s : Shared) (H : Hp) (C : Addr) (cl : List (Str × Addr)) (fp : List Addr), SR (X.blk s H scope (compEnvC scope cl C X.env) fp) elt e) (hs : ∀ x, foldedSetIterable iter X.env x = pure x := by intro _; rfl) :
    SR X (.ListComp elt [⟨tg, iter, ifs, 0⟩] scope pos) (evLc it cap (own.map (·.2)) t c e) := pe_imp (pe_lc (own := own) (g := tG X.K (own.map (fun x : Str × Nat => x.2)) t) (tt := tT X.K c) (te := tR X.K e) hc hN hi ok hg ht he hs) fun _ _ _ h => lc_all h
/-- name = [..] on one line -/
theorem ss_setLc (cap : List Nat) (own : List (Str × Nat)) {i : Nat} {y : Str} {py spos : Pos} (hc : X.calm = true) (hN : X.N.Nodup) (hsw : swapsWith (.ListComp elt [⟨tg, iter, ifs, 0⟩] scope pos) (some (.Name y py)) spos.line X.env = pure true) (hi : SI X tg iter it) (ok : BlkOk X.N X.env.scope scope own)
    (hg : ∀ (s : Shared) (H : Hp) (C : Addr) (cl : List (Str × Addr)) (fp : List Addr), SG (X.blk s H scope (compEnvC scope cl C X.env) fp) (own.map (·.2)) tg t) (ht : ∀ (s : Shared) (H : Hp) (C : Addr) (cl : List (Str × Addr)) (fp : List Addr), STs (X.blk s H scope (compEnvC scope cl C X.env) fp) ifs c)
    (he : ∀ (s : Shared) (H : Hp) (C : Addr) (cl : List (Str × Addr)) (fp : List Addr), SR (X.blk s H scope (compEnvC scope cl C X.env) fp) elt e) (hs : ∀ x, foldedSetIterable iter X.env x = pure x := by intro _; rfl) (hy : X.N[i]? = some y := by rfl) (hyl : X.env.scope.names.lookup y = some .local := by rfl) :
    SS X (.Assign [.Name y py] (.ListComp elt [⟨tg, iter, ifs, 0⟩] scope pos) spos) (evSet i (evLc it cap (own.map (·.2)) t c e)) := ps_imp (ps_setLc (own := own) (g := tG X.K (own.map (fun x : Str × Nat => x.2)) t) (tt := tT X.K c) (te := tR X.K e) hc hN hy hyl hsw hi ok hg ht he hs) fun E σ H ⟨g, G, φ, s, o, s', hK, R, he, q⟩ => by
  obtain ⟨⟨p1, p2⟩, e1, he⟩ := map_some_iff he
  cases he
  exact lc_all ⟨g, G, φ, s, p1, p2, hK, R, e1, fun G' φ' H' v R' h1 h2 x => q G' φ' _ H' (R'.store i x) h1 h2⟩
end
end Pv

namespace Pv
open PySem PySem.Spec L2

structure RoomG (k : Nat) (A : Around) : Prop where
  room : Room k A
  gd : A.guards = some []
theorem RoomG.mono {j k : Nat} {A : Around} (r : RoomG k A) (h : j ≤ k) : RoomG j A := ⟨r.room.mono h, r.gd⟩
theorem RoomG.deeper {k : Nat} {A : Around} (r : RoomG (k + 1) A) (env : Env) : RoomG k (A.deeper env) := ⟨r.room.deeper env, r.gd⟩
structure FnG (P : Program) (w : World) (K : PySem.W.Frag) (mg : Str → Option Value) (base : Heap) (CX : CXT) (k : Nat) (f : Addr) (fd : FuncData) (ps : List Str) (sp : Sp) : Prop where
  len : ∀ vs H Q E, sp vs H Q E → vs.length = ps.length
  run : ∀ (A : Around) (outer : List Env) (s : Shared) (H : Hp) (args : Args) (us : List Value) (vs : List V) (Q : VK) (E : XK), RoomG k A → Env0 P w K mg base A outer s H → BindsTo s fd args (ps.zip us) → Vals vs us → sp vs H Q E →
    codeAny (model P w) A (.call (.ref f) args) (CR CX outer P w H s Q E) s
theorem FnG.mono {P : Program} {w : World} {K : PySem.W.Frag} {mg : Str → Option Value} {base : Heap} {CX : CXT} {j k : Nat} {f : Addr} {fd : FuncData} {ps : List Str} {sp : Sp} (F : FnG P w K mg base CX j f fd ps sp) (h : j ≤ k) :
    FnG P w K mg base CX k f fd ps sp := ⟨F.len, fun A outer s H args us vs Q E hr => F.run A outer s H args us vs Q E (hr.mono h)⟩
theorem FnG.imp {P : Program} {w : World} {K : PySem.W.Frag} {mg : Str → Option Value} {base : Heap} {CX : CXT} {k : Nat} {f : Addr} {fd : FuncData} {ps : List Str} {sp sp' : Sp} (F : FnG P w K mg base CX k f fd ps sp)
    (h : ∀ vs H Q E, sp' vs H Q E → sp vs H Q E) : FnG P w K mg base CX k f fd ps sp' :=
  ⟨fun vs H Q E q => F.len vs H Q E (h _ _ _ _ q), fun A outer s H args us vs Q E hr he hb hv hs => F.run A outer s H args us vs Q E hr he hb hv (h _ _ _ _ hs)⟩
section
variable {X : Cx} {CX : CXT} {k : Nat} {f : Addr} {fd : FuncData} {ps : List Str} {sp : Sp} {E : XK}
theorem FnG.called {pins : List (Addr × Obj)} {σ : L2.St} {H : Hp} {s : Shared} {Q : VK} {us : List Value} {vs : List V} (F : FnG X.prog X.w X.K X.mg X.base CX k f fd ps sp) (room : RoomG k X.A) (bd : Binds X.K fd ps []) (hx : Passes CX X E)
    (I : Inv X pins σ H s) (r : Vals vs us) (h : sp vs H Q E) : wpAny (model X.prog X.w) X.A (PySem.call (.ref f) us) (EP X pins σ Q) X.xe s := by
  have bt : BindsTo s fd ⟨us, []⟩ (ps.zip us) := by
    have len : (us ++ []).length = ps.length := by rw [List.append_nil, ← r.length]; exact F.len _ _ _ _ h
    have b := bd s us I.kIn len
    rwa [List.append_nil] at b
  have run := F.run X.A X.stack s H _ us vs Q E room I.env0 bt r h
  refine wpAny_call (codeAny_mono run fun r' s' cr => ?_)
  rcases r' with err | fl
  · exact hx pins σ H s err s' I cr
  · cases fl <;> first | exact I.after cr | exact False.elim cr
/-- f(e, ..) -/
theorem pe_callG {x : Str} {p pos : Pos} {e : Expr} {es : List Expr} {t : TA} (F : FnG X.prog X.w X.K X.mg X.base CX k f fd ps sp) (room : RoomG k X.A) (glob : Gl X x) (is : X.mg x = some (.ref f)) (kp : PySem.W.keepIn X.K (.ref f) = true) (bd : Binds X.K fd ps []) (hx : Passes CX X E)
    (args : PA X (e :: es) t) (hdb : (x == ("__debug__" : Str)) = false := by decide) (he : starEach (e :: es) X.env = (false, eval e X.env) :: starEach es X.env := by rfl) (hpl : (backTo pos (starEach es X.env)).any (·.1) = false := by rfl) :
    PE X (.Call (.Name x p) (e :: es) [] pos) fun σ H Q => t σ H fun vs H1 => sp vs H1 Q E :=
  ⟨fun pins s σ H Q I h => wpAny_Call_Name_kw (ld_glob I glob is (PySem.W.callWith_K (h₀ := X.base) I.ok.mod.kin kp (thn (args.run pos pins s σ H _ I h) fun us s1 ⟨vs, H1, I1, rv, q⟩ => ⟨I1.kIn, F.called room bd hx I1 rv q⟩) he hpl) hdb)⟩
end
/-- THE RULE: a def by its body, run where no repr is under way -/
theorem FnG.of_body {P : Program} {w : World} {K : PySem.W.Frag} {mg : Str → Option Value} {base : Heap} {x qual : Str} {st : Stmt} {f : Addr} {fd : FuncData} {N ps : List Str} {k : Nat} {sp : Sp} (F : Fun K x qual st f fd) (S : FnScope N ps (defScope st)) (len : ∀ vs H Q E, sp vs H Q E → vs.length = ps.length)
    (body : ∀ (cdv : Value) (A : Around) (outer : List Env) (s : Shared) (H : Hp) (vs : List V) (Q : VK) (E : XK), RoomG k (A.deeper (PyProof.Rows.envOfC qual (defScope st) s.heap.objs.size f cdv)) → sp vs H Q E →
      ∃ t, PSs (cxOf CX0 P w K mg base N qual (defScope st) f cdv A outer s H E).nox (defBody st) t ∧ t { nx := fun _ H' => Q .non H', rt := Q } (L2.start N vs) H) : FnG P w K mg base CX0 (k + 1) f fd ps sp := by
  obtain ⟨_, _, _, _, _, _, cdv, _, _, rfl, lk, code⟩ := F.ex
  refine ⟨len, fun A outer s H args us vs Q E room e0 bt rv hs => ?_⟩
  have kept : ∀ b o, base.get? b = some o → s.heap.get? b = some o := fun b o e => (e0.bs b o e).1
  have KX := e0.mod.kin.keeps kept
  have kinds : ∀ y ∈ ps.zip us, (defScope st).names.lookup y.1 = some .local ∨ ((defScope st).names.lookup y.1 = some .cell ∧ ((cellsFrom (s.heap.objs.size + 1) (defScope st).names []).lookup y.1).isSome = true) := fun y hy =>
    (S.par y.1 (List.of_mem_zip hy).1).imp id fun q => ⟨q, PySem.W.cellsFrom_some _ _ _ (.inl q)⟩
  refine codeAny_call_function room.room.depth (KX _ _ lk) rfl S.co S.gen rfl (PySem.W.codeRec_of KX code) (bt _ _ _ _ (wpAny_newFunctionEnv_cells S.kind kinds fun env he s1 born => ?_))
  cases he
  obtain ⟨t, term, read⟩ := body cdv A outer s H vs Q E (room.deeper _) hs
  have J := inv_start (CX := CX0) (E := E) S room.room.hd e0 (len _ _ _ _ hs) rv born
  refine ⟨(e0.mod.nolimit.keeps kept).keeps born.toInCall.keep, codeAny_func (wpAny_mono (term.nox.run [] s1 _ H _ J read) (fun fl s' h => ?_) fun _ _ h => h)⟩
  cases fl with
  | ret u => obtain ⟨v, _, H', B, rv, q⟩ := h; exact ⟨v, H', B.os, B.bare, B.base, B.hok, rv, q⟩
  | next => obtain ⟨_, H', B, q⟩ := h; exact ⟨V.non, H', B.os, B.bare, B.base, B.hok, rfl, q⟩
  | brk => exact h.elim fun _ h => h.elim fun _ h => h.2.elim
  | cont => exact h.elim fun _ h => h.elim fun _ h => h.2.elim
/-- the script alone is tracked, or nothing -/
structure Alone (H : Hp) (a : Addr) (vs : List Value) (ns : List Int) : Prop where
  only : ∀ b u, H b = some u → b = a ∧ u = .frz { cls := .type "list", data := .seq vs.toArray } (.lst (ns.map V.int))
theorem Alone.env {P : Program} {w : World} {K : PySem.W.Frag} {mg mb : Str → Option Value} {H : Hp} {a : Addr} {vs : List Value} {ns : List Int} {s : Shared} (al : Alone H a vs ns) (ha : s.heap.get? a = some { cls := .type "list", data := .seq vs.toArray })
    (iv : PyProof.Rows.IntsAre vs ns) (hl : ns.length ≤ sizeLine) (KX : K.In s.heap) (apart : ∀ o, K.lookup a = some o → H a = none) (hns : s.heap.Ns mainGlobals mg) (hb : s.heap.Ns builtinsNs mb) (hbb : ∀ x : Str, x ≠ "__name__" → mb x = bootBuiltins x) (hlim : s.heap.NoLimit) (hg : s.gens = #[]) :
    Env0 P w K mg (hidT s.heap H) callerA [] s H ∧ HOk P w H s.heap := by
  have hok : HOk P w H s.heap := fun b u e => by
    obtain ⟨rfl, rfl⟩ := al.only b u e
    exact ⟨ha, by rw [List.length_map]; exact hl, vs, _, L2.vals_ints iv, ha⟩
  have free : ∀ {b : Addr} {o : Obj}, s.heap.get? b = some o → (∀ n, o.data ≠ .seq vs.toArray n) → H b = none := fun {b o} e d => by
    cases q : H b with
    | none => rfl
    | some u =>
      obtain ⟨rfl, _⟩ := al.only b u q
      rw [ha] at e
      cases e
      exact absurd rfl (d _)
  have dict : ∀ {b : Addr} {m : Str → Option Value}, s.heap.Ns b m → (hidT s.heap H).Ns b m := fun {b m} ⟨o, es, ep, e, d, r⟩ => ⟨o, es, ep, hidT_get e (free e fun n z => by rw [d] at z; cases z), d, r⟩
  have kin : K.In (hidT s.heap H) := fun b o e => hidT_get (KX b o e) (by
    cases q : H b with
    | none => rfl
    | some u =>
      obtain ⟨rfl, _⟩ := al.only b u q
      rw [apart o e] at q
      cases q)
  obtain ⟨mc, c1, c2⟩ := hlim
  exact ⟨⟨rfl, ⟨kin, dict hns, ⟨mb, dict hb, hbb⟩, ⟨mc, dict c1, c2⟩⟩, fun _ _ e => of_hidT e, Nat.le_of_eq (hidT_size _ _), trivial, fun b z => (by cases z), hok, PyProof.Rows.AllBare.of_eq hg⟩, hok⟩
theorem Alone.old {P : Program} {w : World} {H H' : Hp} {a : Addr} {vs : List Value} {ns : List Int} {s s' : Shared} (al : Alone H a vs ns) (ok : HOk P w H s.heap) (ok' : HOk P w H' s'.heap) (un : Un (frs []) [] H H' s.heap s'.heap) : OldK s.heap s'.heap :=
  OldK.of_keep fun b o e => by
    cases q : H b with
    | none => exact un.keep b o e q (fun z => by cases z) (fun z => by cases z)
    | some u =>
      obtain ⟨_, rfl⟩ := al.only b u q
      have before := (ok b _ q).1
      have behind := (ok' b _ (un.frzs b _ _ q)).1
      rw [before] at e
      cases e
      exact behind
theorem walk_ofG {l : PySem.W.OpenLaw} {n k : Nat} {q : Program} {loose : List Str} {XP : (Str → Option Value) → Heap → Prop} {YP : World → Heap → Prop} {d : DefRec} {K : Params → PySem.W.Frag} {sp : World → Sp} {x : Str}
    (hn : l.most = some n) (hn2 : n ≤ sizeLine) (hdf : d.params.defaults = []) (room : RoomG k callerA) (hY : ∀ (w : World) (h : Heap), YP w h → (K w.params).In h)
    (F : ∀ (w : World) (mg : Str → Option Value) (fa : Addr) (h : Heap), (K w.params).In h → h.Ns mainGlobals mg → mg d.name = some (.ref fa) →
      ∃ fd : FuncData, (∀ (s : Shared) (u : Value), BindsTo s fd ⟨[u], []⟩ [(x, u)]) ∧ ∀ base : Heap, (K w.params).In base → base.Ns mainGlobals mg → FnG l.prog w (K w.params) mg base CX0 k fa fd [x] (sp w))
    (hsp : ∀ (w : World) (H : Hp) (a : Addr) (ns : List Int), ns.length ≤ n → (∀ z ∈ ns, Builtin.Int.intBits z ≤ 1048576) → SqL (K w.params) H a (ns.map V.int) → sp w [.ref a] H (fun v _ => v = .bl true) fun _ _ _ => False) :
    PySem.W.WalkO q loose XP YP l.row.toRowW d [] (fun f vs => PySem.call f vs) := by
  refine Att.attach_callB hn hdf fun w s₀ s mg mb fa o pm cd doc a vs ns G Y ho hd hcd hmg ha iv hlen bits hg => ?_
  have KX := hY w _ Y
  obtain ⟨fd, bind, prom⟩ := F w mg fa _ KX G.T.g hmg
  have hl : ns.length ≤ sizeLine := Nat.le_trans hlen hn2
  have fin : ∀ H : Hp, Alone H a vs ns → SqL (K w.params) H a (ns.map V.int) → (∀ o, (K w.params).lookup a = some o → H a = none) →
      codeAny (model l.prog w) callerA (.call (.ref fa) ⟨[.ref a], []⟩) (fun r s' => r = .ok (.ret (.bool true)) ∧ OldK s.heap s'.heap ∧ s'.os = s.os ∧ PyProof.Rows.AllBare s'.gens) s := by
    intro H al ex apart
    obtain ⟨e0, ok⟩ := al.env (P := l.prog) (w := w) ha iv hl KX apart G.T.g G.T.b G.T.builtins G.T.nolimit hg
    have run := (prom _ e0.mod.kin e0.mod.glob).run callerA [] s H ⟨[.ref a], []⟩ [.ref a] [.ref a] _ _ room e0 (bind s (.ref a)) (.cons rfl .nil) (hsp w H a ns hlen bits ex)
    refine codeAny_mono run fun r s' h => ?_
    match r, h with
    | .error _, h => exact False.elim h
    | .ok .next, h => exact False.elim h
    | .ok .brk, h => exact False.elim h
    | .ok .cont, h => exact False.elim h
    | .ok (.ret u), ⟨v, H', os, bare, un, ok', rv, hv⟩ =>
      cases (show v = .bl true from hv)
      cases (show u = Value.bool true from rv)
      exact ⟨rfl, al.old ok ok' un, os, bare⟩
  cases hk : (K w.params).lookup a with
  | some o =>
    have e := KX a o hk
    rw [ha] at e
    cases e
    exact fin (fun _ => none) ⟨fun b u z => by cases z⟩ (.inr ⟨_, vs.toArray, _, hk, rfl, rfl, rfl, by rw [List.size_toArray, iv.length]; exact hl, by simpa using L2.vals_ints iv⟩) fun _ _ => rfl
  | none =>
    refine fin (upd (fun _ => none) a (.frz { cls := .type "list", data := .seq vs.toArray } (.lst (ns.map V.int)))) ⟨fun b u z => ?_⟩ (.inl (.inr ⟨_, upd_same⟩)) fun o z => by rw [hk] at z; cases z
    by_cases e : b = a
    · subst e; rw [upd_same] at z; cases z; exact ⟨rfl, rfl⟩
    · rw [upd_ne e] at z; cases z

/-- the cells, as a callee sees them -/
structure CellsOk (K : PySem.W.Frag) (G : Hp) (φ : List Addr) (st : List Cell) (H : Hp) : Prop where
  len : st.length = φ.length
  nd : φ.Nodup
  at_ : ∀ (n : Nat) a c, φ[n]? = some a → st[n]? = some c → ∃ o, H a = some o ∧ CellAt K φ G o c ∧ G a = none
inductive FRes (K : PySem.W.Frag) (φ : List Addr) (H G' H' : Hp) : V → RV → Prop
  | fro {v d} : Rep K φ G' v d → FRes K φ H G' H' v (.fro d)
  | own {p o d} : H p = none → H' p = some o → G' p = none → p ∉ φ → Own K φ G' o d → FRes K φ H G' H' (.ref p) (.own d)
abbrev Fm := List D → List Cell → Option (RV × List Cell)
/-- a def's promise: what it answers, by trees -/
def spF (K : PySem.W.Frag) (n : Nat) (m : Fm) : Sp := fun vs H Q _ => ∃ G φ ds st r st', Same G H ∧ CellsOk K G φ st H ∧ RepA K φ G vs ds ∧ ds.length = n ∧ m ds st = some (r, st') ∧
  ∀ G' φ' H' v, Same G G' → Same G' H' → φ <+: φ' → (∀ a o, H a = some o → a ∉ φ → H' a = some o) → (∀ a, H a ≠ none → H' a ≠ none) → (∀ a o, G' a = some o → G a = some o ∨ H a = none) → (∀ a, a ∈ φ' → a ∈ φ ∨ H a = none) →
    CellsOk K G' φ' st' H' → FRes K φ' H G' H' v r → Q v H'
def evCall (m : Fm) (a : Ev (List D)) : Ev RV := fun s => (a s).bind fun p => (m p.1 p.2.st).map fun q => (q.1, { p.2 with st := q.2 })
theorem call_core {K : PySem.W.Frag} {n : Nat} {m : Fm} {E : XK} {ta : Ev (List D)} {σ : St} {H : Hp} {Q : VK} (hn : ∀ ds st r, m ds st = some r → ds.length = n) (h : tR K (evCall m ta) σ H Q) : tAs K ta σ H fun vs H1 => spF K n m vs H1 Q E := by
  obtain ⟨g, G, φ, s, r, s', hK, R, he, q⟩ := h
  obtain ⟨⟨ds, s1⟩, e1, he⟩ := bind_some_iff he
  obtain ⟨⟨r1, st1⟩, e2, he⟩ := map_some_iff he
  cases he
  refine ⟨g, G, φ, s, ds, s1, hK, R, e1, fun G1 φ1 H1 vs R1 h1 h2 ra => ?_⟩
  refine ⟨G1, φ1, ds, s1.st, r1, st1, R1.sub, ⟨R1.clen, R1.nd, fun k a c a1 a2 => ?_⟩, hK ▸ ra, hn _ _ _ e2, e2, fun G' φ' H' v b1 b2 b3 b4 b4u b5 b6 b7 b8 => ?_⟩
  · obtain ⟨o, c1, c2, c3, _⟩ := R1.cell k a c a1 a2
    exact ⟨o, c1, hK ▸ c2, c3⟩
  have gn : ∀ p, G1 p = none → H1 p ≠ none → G' p = none := fun p x1 x2 => by
    cases z : G' p with
    | none => rfl
    | some u =>
      rcases b5 p u z with z | z
      · rw [x1] at z; cases z
      · exact absurd z x2
  have R' : Rel g G' φ' { s1 with st := st1 } σ H' := by
    refine ⟨b2, R1.g0.trans b1, fun a o e => ?_, fun a o e => ?_, fun a u => b4u a (R1.use a u), fun a z => ⟨gn a (R1.zed a z).1 ?_, (R1.zed a z).2⟩, R1.pre.trans b3, R1.len, fun i d e => ?_, fun i d e => ?_, R1.sep, b7.len, fun k a c a1 a2 => ?_, b7.nd⟩
    · rcases b5 a o e with e | e
      · exact R1.new a o e
      · exact .inr fun u => R1.use a u e
    · refine b4 a o (R1.old a o e) fun hm => ?_
      obtain ⟨k, hk⟩ := List.getElem?_of_mem hm
      have hl : k < s1.st.length := by rw [R1.clen]; exact (List.getElem?_eq_some_iff.mp hk).1
      obtain ⟨_, _, _, _, z, _⟩ := R1.cell k a _ hk (List.getElem?_eq_getElem hl)
      rw [z] at e; cases e
    · intro z'
      cases y : g.F a with
      | none => exact (R1.zed a z).2 y
      | some o => rw [R1.old a o y] at z'; cases z'
    · obtain ⟨v, c1, c2⟩ := R1.fro i d e
      exact ⟨v, c1, c2.mono b1 b3⟩
    · obtain ⟨p, o, c1, c2, c3, c4, c5, c6, c7⟩ := R1.own i d e
      refine ⟨p, o, c1, b4 p o c2 c7, c3.mono b1 b3, gn p c4 (by rw [c2]; simp), c5, c6, fun hm => ?_⟩
      rcases b6 p hm with z | z
      · exact c7 z
      · rw [c2] at z; cases z
    · obtain ⟨o, c1, c2, c3⟩ := b7.at_ k a c a1 a2
      refine ⟨o, c1, hK ▸ c2, c3, ?_⟩
      rcases b6 a (List.mem_of_getElem? a1) with z | z
      · obtain ⟨j, hj⟩ := List.getElem?_of_mem z
        have hl : j < s1.st.length := by rw [R1.clen]; exact (List.getElem?_eq_some_iff.mp hj).1
        obtain ⟨_, _, _, _, y1, y2⟩ := R1.cell j a _ hj (List.getElem?_eq_getElem hl)
        exact ⟨y1, y2⟩
      · exact ⟨R1.old.free z, .inr fun u => R1.use a u z⟩
  refine q G' φ' H' v R' (h1.trans b1) (h2.trans b3) ?_
  cases b8 with
  | fro rp => exact .fro (hK ▸ rp)
  | own c1 c2 c3 c4 c5 =>
    refine .own ⟨c2, hK ▸ c5, c3, R1.old.free c1, fun u => R1.use _ u c1, c4, fun i e x1 x2 => ?_⟩
    obtain ⟨p', o', y1, y2, _⟩ := R1.own i e x1
    rw [x2] at y1
    cases y1
    rw [c1] at y2
    cases y2
theorem sr_call {X : Cx} {k n : Nat} {f : Addr} {fd : FuncData} {ps : List Str} {m : Fm} {x : Str} {p pos : Pos} {e : Expr} {es : List Expr} {ta : Ev (List D)}
    (F : FnG X.prog X.w X.K X.mg X.base CX0 k f fd ps (spF X.K n m)) (hr : RoomG k X.A) (hg : Gl X x) (hm : X.mg x = some (.ref f)) (hk : PySem.W.keepIn X.K (.ref f) = true) (hb : Binds X.K fd ps [])
    (hn : ∀ ds st r, m ds st = some r → ds.length = n) (ha : SA X (e :: es) ta) (hdb : (x == ("__debug__" : Str)) = false := by decide) (he : starEach (e :: es) X.env = (false, eval e X.env) :: starEach es X.env := by rfl) (hpl : (backTo pos (starEach es X.env)).any (·.1) = false := by rfl) :
    SR X (.Call (.Name x p) (e :: es) [] pos) (evCall m ta) := pe_imp (pe_callG F hr hg hm hk hb pass0 ha hdb he hpl) fun _ _ _ h => call_core hn h

def fnM (N P : Nat) (ev : Ev Out) : Fm := fun ds st => if ds.length = P then match ev ⟨ds.map Slot.fro ++ List.replicate (N - ds.length) Slot.non, st⟩ with
    | some (.rt r, s') => some (r, s'.st)
    | some (.nx, s') => some (.fro .non, s'.st)
    | _ => none
  else none
theorem fnM_len {N P : Nat} {ev : Ev Out} {ds : List D} {st : List Cell} {r : RV × List Cell} (h : fnM N P ev ds st = some r) : ds.length = P := by
  unfold fnM at h
  split at h
  · assumption
  · cases h
theorem start_rel {K : PySem.W.Frag} {G : Hp} {φ : List Addr} {st : List Cell} {H : Hp} {N : List Str} {vs : List V} {ds : List D} (sub : Same G H) (C : CellsOk K G φ st H) (ra : RepA K φ G vs ds) :
    Rel ⟨K, fun a => if a ∈ φ then none else H a, fun a => H a ≠ none, fun _ => False, G, φ⟩ G φ ⟨ds.map Slot.fro ++ List.replicate (N.length - ds.length) Slot.non, st⟩ (L2.start N vs) H := by
  have hl := ra.length
  have gf : ∀ {i : Nat} {d : D}, (ds.map Slot.fro ++ List.replicate (N.length - ds.length) Slot.non)[i]? = some (.fro d) → ds[i]? = some d := fun {i d} e => by
    by_cases h : i < ds.length
    · rw [List.getElem?_append_left (by simpa using h), List.getElem?_map, List.getElem?_eq_getElem h] at e
      cases e
      exact List.getElem?_eq_getElem h
    · rw [List.getElem?_append_right (by simpa using h), List.getElem?_replicate] at e
      split at e <;> cases e
  have gown : ∀ {i : Nat} {d : D}, (ds.map Slot.fro ++ List.replicate (N.length - ds.length) Slot.non)[i]? = some (.own d) → False := fun {i d} e => by
    by_cases h : i < ds.length
    · rw [List.getElem?_append_left (by simpa using h), List.getElem?_map, List.getElem?_eq_getElem h] at e
      cases e
    · rw [List.getElem?_append_right (by simpa using h), List.getElem?_replicate] at e
      split at e <;> cases e
  refine ⟨sub, Same.refl _, fun a o e => .inl e, fun a o e => ?_, fun a u => u, fun a z => z.elim, List.prefix_refl _, ?_, fun i d e => ?_, fun i d e => (gown e).elim, fun i j d e p _ h => (gown h).elim, C.len, fun n a c e1 e2 => ?_, C.nd⟩
  · have e : (if a ∈ φ then none else H a) = some o := e
    split at e
    · cases e
    · exact e
  · show (ds.map Slot.fro ++ List.replicate (N.length - ds.length) Slot.non).length = (L2.start N vs).length
    unfold L2.start
    simp only [List.length_append, List.length_map, List.length_replicate, hl]
  · obtain ⟨v, h1, h2⟩ := ra.get (gf e)
    refine ⟨v, ?_, h2⟩
    unfold L2.start
    have hi : i < vs.length := (List.getElem?_eq_some_iff.mp h1).1
    rw [List.getElem?_append_left (by simpa using hi), List.getElem?_map, h1]
    rfl
  · obtain ⟨o, h1, h2, h3⟩ := C.at_ n a c e1 e2
    refine ⟨o, h1, h2, h3, ?_, .inl (List.mem_of_getElem? e1)⟩
    show (if a ∈ φ then none else H a) = none
    rw [if_pos (List.mem_of_getElem? e1)]
theorem end_rel {K : PySem.W.Frag} {G G' : Hp} {φ φ' : List Addr} {st : List Cell} {H H' : Hp} {s' : Sg} {σ' : St} (C : CellsOk K G φ st H) (sub : Same G H)
    (R : Rel ⟨K, fun a => if a ∈ φ then none else H a, fun a => H a ≠ none, fun _ => False, G, φ⟩ G' φ' s' σ' H') :
    Same G' H' ∧ (∀ a o, H a = some o → a ∉ φ → H' a = some o) ∧ (∀ a, H a ≠ none → H' a ≠ none) ∧ (∀ a o, G' a = some o → G a = some o ∨ H a = none) ∧ (∀ a, a ∈ φ' → a ∈ φ ∨ H a = none) ∧ CellsOk K G' φ' s'.st H' := by
  refine ⟨R.sub, fun a o e hn => R.old a o ?_, R.use, fun a o e => ?_, fun a hm => ?_, ⟨R.clen, R.nd, fun n a c e1 e2 => ?_⟩⟩
  · show (if a ∈ φ then none else H a) = some o
    rw [if_neg hn]; exact e
  · rcases R.new a o e with e | e
    · exact .inl e
    · exact .inr (Classical.byContradiction fun z => e z)
  · obtain ⟨n, hn⟩ := List.getElem?_of_mem hm
    have hl : n < s'.st.length := by rw [R.clen]; exact (List.getElem?_eq_some_iff.mp hn).1
    obtain ⟨_, _, _, _, _, z⟩ := R.cell n a _ hn (List.getElem?_eq_getElem hl)
    rcases z with z | z
    · exact .inl z
    · exact .inr (Classical.byContradiction fun y => z y)
  · obtain ⟨o, h1, h2, h3, _⟩ := R.cell n a c e1 e2
    exact ⟨o, h1, h2, h3⟩
/-- THE RULE for a def -/
theorem fn_ok {P : Program} {w : World} {K : PySem.W.Frag} {mg : Str → Option Value} {base : Heap} {x qual : Str} {st : Stmt} {f : Addr} {fd : FuncData} {N ps : List Str} {k : Nat} {ev : Ev Out} (F : Fun K x qual st f fd) (S : FnScope N ps (defScope st))
    (hbody : ∀ (cdv : Value) (A : Around) (outer : List Env) (s : Shared) (H : Hp) (E : XK), RoomG k (A.deeper (PyProof.Rows.envOfC qual (defScope st) s.heap.objs.size f cdv)) →
      SSs (cxOf CX0 P w K mg base N qual (defScope st) f cdv A outer s H E).nox (defBody st) ev) :
    FnG P w K mg base CX0 (k + 1) f fd ps (spF K ps.length (fnM N.length ps.length ev)) := by
  refine FnG.of_body F S (fun vs H Q E h => ?_) fun cdv A outer s H vs Q E hr h => ?_
  · obtain ⟨G, φ, ds, st, r, st', _, _, ra, hl, _⟩ := h
    exact ra.length.trans hl
  · obtain ⟨G, φ, ds, cs, r, st', sub, C, ra, hl, hm, q⟩ := h
    refine ⟨_, hbody cdv A outer s H E hr, ?_⟩
    unfold fnM at hm
    rw [if_pos hl] at hm
    have R := start_rel (N := N) sub C ra
    cases e : ev ⟨ds.map Slot.fro ++ List.replicate (N.length - ds.length) Slot.non, cs⟩ with
    | none => rw [e] at hm; cases hm
    | some y =>
      rw [e] at hm
      obtain ⟨o, s'⟩ := y
      cases o with
      | bk => cases hm
      | ct => cases hm
      | nx =>
        cases hm
        refine ⟨_, G, φ, _, .nx, s', rfl, R, e, fun G' φ' σ' H' R' h1 h2 => ?_⟩
        obtain ⟨a1, a2, a3, a4, a5, a6⟩ := end_rel C sub R'
        exact q G' φ' H' .non h1 a1 h2 a2 a3 a4 a5 a6 (.fro .non)
      | rt r' =>
        cases hm
        refine ⟨_, G, φ, _, .rt _, s', rfl, R, e, fun G' φ' σ' H' v R' h1 h2 x => ?_⟩
        obtain ⟨a1, a2, a3, a4, a5, a6⟩ := end_rel C sub R'
        refine q G' φ' H' v h1 a1 h2 a2 a3 a4 a5 a6 ?_
        cases x with
        | fro rp => exact .fro rp
        | own F =>
          refine .own ?_ F.at_ F.gp F.ph F.own
          exact Classical.byContradiction fun z => F.up z
/-- a promise by any function that agrees where it answers -/
theorem spF_imp {P : Program} {w : World} {K : PySem.W.Frag} {mg : Str → Option Value} {base : Heap} {k n : Nat} {f : Addr} {fd : FuncData} {ps : List Str} {m m' : Fm} (F : FnG P w K mg base CX0 k f fd ps (spF K n m))
    (h : ∀ ds st r, m' ds st = some r → m ds st = some r) : FnG P w K mg base CX0 k f fd ps (spF K n m') :=
  F.imp fun vs H Q E ⟨G, φ, ds, st, r, st', a, b, c, d, e, q⟩ => ⟨G, φ, ds, st, r, st', a, b, c, d, h _ _ _ e, q⟩

/-- the content of an own slot, or of the cell that a slot holds -/
def ownAt (s : Sg) (i : Nat) : Option D := match s.env[i]? with
  | some (.own d) => some d
  | some (.fro (.hd n)) => match s.st[n]? with
    | some (.d d) => some d
    | _ => none
  | _ => none
def setAt (s : Sg) (i : Nat) (d : D) : Sg := match s.env[i]? with
  | some (.own _) => { s with env := s.env.set i (.own d) }
  | some (.fro (.hd n)) => { s with st := s.st.set n (.d d) }
  | _ => s
theorem Rel.ownAt {g : Gh} {G : Hp} {φ : List Addr} {s : Sg} {σ : St} {H : Hp} {i : Nat} {d : D} (R : Rel g G φ s σ H) (h : ownAt s i = some d) :
    ∃ p o, σ[i]? = some (some (V.ref p)) ∧ H p = some o ∧ Own g.K φ G o d ∧ G p = none ∧ ∀ o' d', Own g.K φ G o' d' → Rel g G φ (setAt s i d') σ (upd H p o') := by
  unfold Pv.ownAt at h
  cases e : s.env[i]? with
  | none => rw [e] at h; cases h
  | some sl =>
    rw [e] at h
    cases sl with
    | non => cases h
    | own d0 =>
      cases h
      obtain ⟨p, o, b1, b2, b3, b4, b5, b6, b7⟩ := R.own i d e
      refine ⟨p, o, b1, b2, b3, b4, fun o' d' ow => ?_⟩
      unfold setAt
      rw [e]
      exact R.setOwn e b1 ow
    | fro x =>
      cases x with
      | hd n =>
        obtain ⟨w0, c1, c2⟩ := R.fro i _ e
        cases c2 with
        | hd ha =>
          have h : (match s.st[n]? with
            | some (.d d) => some d
            | _ => none) = some d := h
          cases e2 : s.st[n]? with
          | none => rw [e2] at h; cases h
          | some c =>
            rw [e2] at h
            cases c with
            | obj => cases h
            | d d0 =>
              cases h
              obtain ⟨o, b1, b2, b3, b4, b5⟩ := R.cell n _ _ ha e2
              cases b2 with
              | d b2 =>
                refine ⟨_, o, c1, b1, b2, b3, fun o' d' ow => ?_⟩
                unfold setAt
                rw [e]
                exact R.setCell ha e2 (.d ow)
      | _ => cases h
abbrev Mut1 := D → List D → Option (D × D)
/-- a method that changes its object: the new content, the answer -/
def rMut (K : PySem.W.Frag) (f : Mut1) : V → List V → Hp → VK → Prop := fun x vs H Q => ∃ φ G p o d ds d' r, x = .ref p ∧ H p = some o ∧ Own K φ G o d ∧ G p = none ∧ Same G H ∧ RepA K φ G vs ds ∧ f d ds = some (d', r) ∧
  ∀ o' v, Own K φ G o' d' → Rep K φ G v r → Q v (upd H p o')
def DMut (X : Cx) (id : String) (f : Mut1) : Prop := MtR X id (rMut X.K f)
def tyD (T : String) : D → Bool
  | .lst _ => T == "list"
  | .dct _ _ => T == "dict"
  | _ => false
theorem tyD_V {K : PySem.W.Frag} {φ : List Addr} {G H : Hp} {T : String} {p : Addr} {o : HO} {d : D} (h1 : H p = some o) (h2 : Own K φ G o d) (h : tyD T d = true) : tyV K T (.ref p) H := by
  cases h2 with
  | lst r => exact .inl ⟨by simpa [tyD] using h, _, SqL.of h1⟩
  | dK r => exact .inr (.inr (.inl ⟨by simpa [tyD] using h, .inl ⟨_, h1⟩⟩))
  | dT r => exact .inr (.inr (.inl ⟨by simpa [tyD] using h, .inr ⟨_, h1⟩⟩))
/-- x.m(..) where x is a name: an own slot or a cell -/
def evMut (T : String) (i : Nat) (f : Mut1) (a : Ev (List D)) : Ev RV := fun s => (ownAt s i).bind fun d0 => if tyD T d0 = true then (a s).bind fun p => (ownAt p.2 i).bind fun d => (f d p.1).map fun r => (.fro r.2, setAt p.2 i r.1) else none
theorem mut_core {K : PySem.W.Frag} {T : String} {i : Nat} {f : Mut1} {ta : Ev (List D)} {σ : St} {H : Hp} {Q : VK} (h : tR K (evMut T i f ta) σ H Q) :
    tVar i σ H fun x H1 => tyV K T x H1 ∧ tAs K ta σ H1 fun vs H2 => rMut K f x vs H2 Q := by
  obtain ⟨g, G, φ, s, r, s', hK, R, he, q⟩ := h
  obtain ⟨d0, e0, he⟩ := bind_some_iff he
  split at he
  · rename_i hty
    obtain ⟨⟨ds, s1⟩, e1, he⟩ := bind_some_iff he
    obtain ⟨d, e2, he⟩ := bind_some_iff he
    obtain ⟨⟨d', r'⟩, e3, he⟩ := map_some_iff he
    cases he
    obtain ⟨p, o, a1, a2, a3, _⟩ := R.ownAt e0
    refine ⟨_, a1, tyD_V (φ := φ) (G := G) a2 (hK ▸ a3) hty, g, G, φ, s, ds, s1, hK, R, e1, fun G1 φ1 H1 vs R1 h1 h2 ra => ?_⟩
    obtain ⟨p', o', b1, b2, b3, b4, b5⟩ := R1.ownAt e2
    rw [a1] at b1
    cases b1
    exact ⟨φ1, G1, p, o', d, ds, d', r', rfl, b2, hK ▸ b3, b4, R1.sub, hK ▸ ra, e3, fun o2 w ow rw' => q G1 φ1 _ w (b5 o2 d' (hK ▸ ow)) h1 h2 (.fro (hK ▸ rw'))⟩
  · cases he
section
variable {X : Cx} {i : Nat} {x : Str} {p apos cpos : Pos} {T id : String} {name : Str} {f : Mut1} {e : Expr} {es : List Expr} {ta : Ev (List D)}
theorem sr_mut (pa : PlainAttrs T) (slot : PySem.Slot T name id) (hty : typeOf (.builtin id) = pure (.type "method_descriptor")) (hm : DMut X id f) (ha : SA X (e :: es) ta) (hN : X.N[i]? = some x := by rfl) (hvis : Vis X.env.scope x := by first | exact Or.inl rfl | exact Or.inr (Or.inl rfl) | exact Or.inr (Or.inr rfl)) (hd : (x == ("__debug__" : Str)) = false := by decide) (hcd : (x == ("__classdict__" : Str)) = false := by decide)
    (hbase : attributeBase (.Name x p) name X.env (eval (.Name x p) X.env) = eval (.Name x p) X.env := by rfl)
    (hfew : ((backTo cpos (starEach (e :: es) X.env)).all (fun x => !x.1) && (backToKw cpos (keywordEach [] X.env)).all (fun x => x.1.isSome)
      && decide ((e :: es).length + ([] : List Keyword).length + (if ([] : List Keyword).isEmpty then 0 else 1) < 30)) = true := by rfl)
    (hline : (apos.endLine == cpos.line) = true := by rfl) (hs : starEach (e :: es) X.env = (false, eval e X.env) :: starEach es X.env := by rfl) (hplain : (backTo cpos (starEach es X.env)).any (·.1) = false := by rfl) :
    SR X (.Call (.Attribute (.Name x p) name apos) (e :: es) [] cpos) (evMut T i f ta) := pe_imp (pe_bm pa slot hty hm (pe_var hN hvis hd hcd) ha hbase hfew hline hs hplain) fun _ _ _ h => mut_core h
theorem sr_mut0 (pa : PlainAttrs T) (slot : PySem.Slot T name id) (hty : typeOf (.builtin id) = pure (.type "method_descriptor")) (hm : DMut X id f) (hN : X.N[i]? = some x := by rfl) (hvis : Vis X.env.scope x := by first | exact Or.inl rfl | exact Or.inr (Or.inl rfl) | exact Or.inr (Or.inr rfl)) (hd : (x == ("__debug__" : Str)) = false := by decide) (hcd : (x == ("__classdict__" : Str)) = false := by decide)
    (hbase : attributeBase (.Name x p) name X.env (eval (.Name x p) X.env) = eval (.Name x p) X.env := by rfl) (hline : (apos.endLine == cpos.line) = true := by rfl) :
    SR X (.Call (.Attribute (.Name x p) name apos) [] [] cpos) (evMut T i f evNil) := pe_imp (pe_bm0 pa slot hty hm (pe_var hN hvis hd hcd) hbase hline) fun σ H Q h => by
  obtain ⟨v, h1, h2, h3⟩ := mut_core h
  obtain ⟨g, G, φ, s, r, s', hK, R, he, q⟩ := h3
  cases he
  exact ⟨v, h1, h2, q G φ H [] R (Same.refl _) (List.prefix_refl _) .nil⟩
end
/-- x[i] = v -/
def rSet (K : PySem.W.Frag) (f : D → D → D → Option D) : V → V → V → Hp → (Hp → Prop) → Prop := fun x i v H Q => ∃ φ G p o d di dv d', x = .ref p ∧ H p = some o ∧ Own K φ G o d ∧ G p = none ∧ Same G H ∧ OpRep K φ G H i di ∧ Rep K φ G v dv ∧ f d di dv = some d' ∧
  ∀ o', Own K φ G o' d' → Q (upd H p o')
def DSet (X : Cx) (f : D → D → D → Option D) : Prop := PSet X (rSet X.K f)
def evSetI (i : Nat) (f : D → D → D → Option D) (ti : Ev Bor) (tv : Ev RV) : Ev Out := fun s => (tv s).bind fun p => (evSlot i p.2).bind fun _ => (ti p.2).bind fun q => (fetch q.2 q.1).bind fun di => (ownAt q.2 i).bind fun d => (f d di p.1.d).map fun d' => (.nx, setAt q.2 i d')
theorem ss_setI {X : Cx} {i : Nat} {x : Str} {ei ev : Expr} {f : D → D → D → Option D} {ti : Ev Bor} {tv : Ev RV} {px ps pos : Pos} (hs : DSet X f) (hi : SB X ei ti) (hv : SR X ev tv)
    (hN : X.N[i]? = some x := by rfl) (hvis : Vis X.env.scope x := by first | exact Or.inl rfl | exact Or.inr (Or.inl rfl) | exact Or.inr (Or.inr rfl)) (hd : (x == ("__debug__" : Str)) = false := by decide) (hcd : (x == ("__classdict__" : Str)) = false := by decide)
    (ha : ∀ v, assign (.Subscript (.Name x px) ei ps) X.env v = (do
      let ov ← holding [v] (eval (.Name x px) X.env)
      let iv ← holding [v, ov] (eval ei X.env)
      standAt ps
      holding [v, ov, iv] (setItem ov iv v)
      release [v, ov, iv] []) := by intro _; rfl)
    (h1 : swapsWithSole [.Subscript (.Name x px) ei ps] ev pos.line X.env = pure false := by rfl) (h2 : swappedStores [.Subscript (.Name x px) ei ps] ev X.env = pure none := by rfl) (h3 : (assignEach [.Subscript (.Name x px) ei ps] X.env).map (·.2) = [assign (.Subscript (.Name x px) ei ps) X.env] := by rfl) :
    SS X (.Assign [.Subscript (.Name x px) ei ps] ev pos) (evSetI i f ti tv) := ps_imp (ps_asg hv (pg_sub (pe_var hN hvis hd hcd) hi hs ha) h1 h2 h3) fun E σ H ⟨g, G, φ, s, o, s', hK, R, he, q⟩ => by
  obtain ⟨⟨r1, s1⟩, e1, he⟩ := bind_some_iff he
  obtain ⟨⟨b0, s0⟩, e0, he⟩ := bind_some_iff he
  obtain ⟨⟨b, s2⟩, e2, he⟩ := bind_some_iff he
  obtain ⟨di, e3, he⟩ := bind_some_iff he
  obtain ⟨d, e4, he⟩ := bind_some_iff he
  obtain ⟨d', e5, he⟩ := map_some_iff he
  cases he
  refine ⟨g, G, φ, s, r1, s1, hK, R, e1, fun G1 φ1 H1 v R1' h1 h2 x => ?_⟩
  obtain ⟨G1, R1, hx, rp⟩ := x.froz R1'
  have h1 := h1.trans hx
  have hv : ∃ v, σ[i]? = some (some v) := by
    unfold evSlot at e0
    cases e : s1.env[i]? with
    | none => rw [e] at e0; cases e0
    | some sl =>
      cases sl with
      | non => rw [e] at e0; cases e0
      | fro d => obtain ⟨v, h1, _⟩ := R1.fro i d e; exact ⟨v, h1⟩
      | own d => obtain ⟨p, o, h1, _⟩ := R1.own i d e; exact ⟨_, h1⟩
  obtain ⟨u, hv⟩ := hv
  refine ⟨u, hv, g, G1, φ1, s1, b, s2, hK, R1, e2, fun G2 φ2 H2 w R2 h3 h4 y => ?_⟩
  obtain ⟨p, o, b1, b2, b3, b4, b5⟩ := R2.ownAt e4
  rw [hv] at b1
  cases b1
  exact ⟨φ2, G2, p, o, d, di, r1.d, d', rfl, b2, hK ▸ b3, b4, R2.sub, hK ▸ R2.fetch y e3, hK ▸ rp.mono h3 h4, e5, fun o' ow => q G2 φ2 σ _ (b5 o' d' (hK ▸ ow)) (h1.trans h3) (h2.trans h4)⟩
end Pv

namespace Pv
open PySem PySem.Spec L2

theorem RoomG.hu {k : Nat} {A : Around} (r : RoomG k A) : A.units + 100 < cLine := by have := r.room.un; omega
mutual
def py : D → PyData
  | .non => .none
  | .bl b => .bool b
  | .int i => .int i
  | .str x => .str x
  | .tup xs => .tuple (pyAll xs)
  | .lst xs => .list (pyAll xs)
  | .dct _ _ => .none
  | .hd _ => .none
  | .scr _ => .none
def pyAll : List D → List PyData
  | [] => []
  | x :: xs => py x :: pyAll xs
end
theorem pyAll_map : ∀ xs : List D, pyAll xs = xs.map py
  | [] => rfl
  | x :: xs => by rw [pyAll, pyAll_map xs]; rfl
/-- no dict, no cell, of such a depth -/
def eqOk : Nat → D → Bool
  | _, .non => true
  | _, .bl _ => true
  | _, .int _ => true
  | _, .str x => PyData.strOk x
  | n + 1, .tup xs => xs.all (eqOk n)
  | n + 1, .lst xs => xs.all (eqOk n)
  | _, _ => false
theorem eqOk_py : ∀ (n : Nat) (d : D), eqOk n d = true → (py d).canLay0 = true ∧ (py d).depth ≤ n
  | n, .non, _ => by simp [py, PyData.canLay0, PyData.depth]
  | n, .bl _, _ => by simp [py, PyData.canLay0, PyData.depth]
  | n, .int _, _ => by simp [py, PyData.canLay0, PyData.depth]
  | n, .str x, h => by
    have h : PyData.strOk x = true := by cases n <;> exact h
    simp [py, PyData.canLay0, PyData.depth, h]
  | 0, .tup xs, h => by simp [eqOk] at h
  | 0, .lst xs, h => by simp [eqOk] at h
  | n, .dct _ _, h => by cases n <;> simp [eqOk] at h
  | n, .hd _, h => by cases n <;> simp [eqOk] at h
  | n, .scr _, h => by cases n <;> simp [eqOk] at h
  | n + 1, .tup xs, h => by
    have h : xs.all (eqOk n) = true := h
    have all : ∀ ys : List D, ys.all (eqOk n) = true → PyData.canLayAll0 (pyAll ys) = true ∧ PyData.depthAll (pyAll ys) ≤ n := by
      intro ys
      induction ys with
      | nil => intro _; simp [pyAll, PyData.canLayAll0, PyData.depthAll]
      | cons y ys ih =>
        intro hy
        rw [List.all_cons, Bool.and_eq_true] at hy
        obtain ⟨a1, a2⟩ := eqOk_py n y hy.1
        obtain ⟨b1, b2⟩ := ih hy.2
        simp only [pyAll, PyData.canLayAll0, PyData.depthAll, a1, b1, Bool.and_self, true_and]
        omega
    obtain ⟨a, b⟩ := all xs h
    simp only [py, PyData.canLay0, PyData.depth, a, true_and]
    omega
  | n + 1, .lst xs, h => by
    have h : xs.all (eqOk n) = true := h
    have all : ∀ ys : List D, ys.all (eqOk n) = true → PyData.canLayAll0 (pyAll ys) = true ∧ PyData.depthAll (pyAll ys) ≤ n := by
      intro ys
      induction ys with
      | nil => intro _; simp [pyAll, PyData.canLayAll0, PyData.depthAll]
      | cons y ys ih =>
        intro hy
        rw [List.all_cons, Bool.and_eq_true] at hy
        obtain ⟨a1, a2⟩ := eqOk_py n y hy.1
        obtain ⟨b1, b2⟩ := ih hy.2
        simp only [pyAll, PyData.canLayAll0, PyData.depthAll, a1, b1, Bool.and_self, true_and]
        omega
    obtain ⟨a, b⟩ := all xs h
    simp only [py, PyData.canLay0, PyData.depth, a, true_and]
    omega
theorem eqOk_shaped {n : Nat} {d : D} (h : eqOk n d = true) (hn : n ≤ 64 := by decide) : SeqAt.shaped (py d) = true := by
  obtain ⟨a, b⟩ := eqOk_py n d h
  unfold SeqAt.shaped
  rw [Bool.and_eq_true]
  exact ⟨a, decide_eq_true (by omega)⟩
theorem rep_dp {K : PySem.W.Frag} {φ : List Addr} {G : Hp} (n : Nat) : ∀ {d : D} {v : V}, eqOk n d = true → Rep K φ G v d → Dp K G v (py d) := by
  induction n with
  | zero =>
    intro d v h r
    cases r with
    | non => exact .non
    | bl b => exact .bl b
    | int b => exact .int b
    | str b => exact .str b
    | tup s a => simp [eqOk] at h
    | lst s a => simp [eqOk] at h
    | dK s a => simp [eqOk] at h
    | dT s a => simp [eqOk] at h
    | hd e => simp [eqOk] at h
    | scr e => simp [eqOk] at h
  | succ n ih =>
    have all : ∀ (ds : List D) (vs : List V), ds.all (eqOk n) = true → RepA K φ G vs ds → DpAll K G vs (pyAll ds) := by
      intro ds
      induction ds with
      | nil => intro vs _ r; cases r; exact .nil
      | cons d ds ih2 =>
        intro vs hd r
        rw [List.all_cons, Bool.and_eq_true] at hd
        cases r with
        | cons r rs => exact .cons (ih hd.1 r) (ih2 _ hd.2 rs)
    intro d v h r
    cases r with
    | non => exact .non
    | bl b => exact .bl b
    | int b => exact .int b
    | str b => exact .str b
    | tup s a => exact .tup (SqT.of s) (all _ _ h a)
    | lst s a => exact .lst (SqL.of s) (all _ _ h a)
    | dK s a => simp [eqOk] at h
    | dT s a => simp [eqOk] at h
    | hd e => simp [eqOk] at h
    | scr e => simp [eqOk] at h
def deq (a b : D) : Bool := PyData.eqv (py a) (py b)
def deqAll : List D → List D → Bool
  | [], [] => true
  | x :: xs, y :: ys => deq x y && deqAll xs ys
  | [], _ :: _ => false
  | _ :: _, [] => false
theorem eqvAll_py : ∀ xs ys : List D, PyData.eqvAll (pyAll xs) (pyAll ys) = deqAll xs ys
  | [], [] => by simp [pyAll, PyData.eqvAll, deqAll]
  | x :: xs, [] => by simp [pyAll, PyData.eqvAll, deqAll]
  | [], y :: ys => by simp [pyAll, PyData.eqvAll, deqAll]
  | x :: xs, y :: ys => by rw [pyAll, pyAll, PyData.eqvAll, eqvAll_py xs ys]; rfl
def dEq : Op2 := fun a b => match a, b with
  | .str x, .str y => some (.fro (.bl (decide (x = y))))
  | a, b => if eqOk 50 a && eqOk 50 b then some (.fro (.bl (deq a b))) else none
def dNe : Op2 := fun a b => match a, b with
  | .str x, .str y => some (.fro (.bl (!decide (x = y))))
  | a, b => if eqOk 50 a && eqOk 50 b then some (.fro (.bl (!deq a b))) else none
section
variable {X : Cx}
theorem dop_eq (hu : X.A.units + 100 < cLine) : DOp X (compareOp .Eq) dEq := fun pins s σ H x y v u Q I rx ry ⟨φ, G, dx, dy, r, sub, hx, hy, hf, q⟩ => by
  unfold dEq at hf
  split at hf
  · rename_i a b
    cases hf
    cases hx.str
    cases hy.str
    exact op_eq pins s σ H _ _ v u Q I rx ry ⟨rfl, q G H _ (Grow.refl sub) (.fro (by rw [show decide (V.str a = V.str b) = decide (a = b) from by simp]; exact .bl _))⟩
  split at hf
  · rename_i h
    cases hf
    rw [Bool.and_eq_true] at h
    exact op_eqD (by omega) pins s σ H x y v u Q I rx ry ⟨py dx, py dy, rep_dp 50 h.1 (hx.rep sub), rep_dp 50 h.2 (hy.rep sub), eqOk_shaped h.1, eqOk_shaped h.2, q G H _ (Grow.refl sub) (.fro (.bl _))⟩
  · cases hf
theorem dop_ne (hu : X.A.units + 100 < cLine) : DOp X (compareOp .NotEq) dNe := fun pins s σ H x y v u Q I rx ry ⟨φ, G, dx, dy, r, sub, hx, hy, hf, q⟩ => by
  unfold dNe at hf
  split at hf
  · rename_i a b
    cases hf
    cases hx.str
    cases hy.str
    exact op_ne pins s σ H _ _ v u Q I rx ry ⟨rfl, q G H _ (Grow.refl sub) (.fro (by rw [show decide (V.str a = V.str b) = decide (a = b) from by simp]; exact .bl _))⟩
  split at hf
  · rename_i h
    cases hf
    rw [Bool.and_eq_true] at h
    exact op_neD (by omega) pins s σ H x y v u Q I rx ry ⟨py dx, py dy, rep_dp 50 h.1 (hx.rep sub), rep_dp 50 h.2 (hy.rep sub), eqOk_shaped h.1, eqOk_shaped h.2, q G H _ (Grow.refl sub) (.fro (.bl _))⟩
  · cases hf

theorem OpRep.froT {K : PySem.W.Frag} {φ : List Addr} {G H : Hp} {v : V} {ds : List D} (r : OpRep K φ G H v (.tup ds)) : Rep K φ G v (.tup ds) := by
  cases r with
  | fro r => exact r
  | own e o => cases o
def dAdd : Op2 := fun a b => match a, b with
  | .int a, .int b => some (.fro (.int (a + b)))
  | .lst a, .lst b => if a.length + b.length ≤ 1000000 then some (.own (.lst (a ++ b))) else none
  | .tup a, .tup b => if a.length + b.length ≤ 1000000 then some (.fro (.tup (a ++ b))) else none
  | .str a, .str b => if a.length + b.length ≤ 1000000 then some (.fro (.str (a ++ b))) else none
  | _, _ => none
theorem dop_add : DOp X (binaryOp .Add) dAdd := fun pins s σ H x y v u Q I rx ry ⟨φ, G, dx, dy, r, sub, hx, hy, hf, q⟩ => by
  have mil := million
  unfold dAdd at hf
  split at hf
  · cases hf
    exact op_add pins s σ H x y v u Q I rx ry ⟨_, _, hx.int, hy.int, q G H _ (Grow.refl sub) (.fro (.int _))⟩
  · split at hf
    · rename_i a b hl
      cases hf
      obtain ⟨p, xs, rfl, e1, r1⟩ := hx.lst sub
      obtain ⟨p2, ys, rfl, e2, r2⟩ := hy.lst sub
      have hz : xs.length + ys.length ≤ sizeLine := by rw [r1.length, r2.length]; omega
      exact op_cat pins s σ H _ _ v u Q I rx ry ⟨p, p2, xs, ys, rfl, rfl, e1, e2, hz, fun a ha => q G _ _ (Grow.aside sub ha) (.own ha upd_same (sub.free ha) (.lst (r1.append r2)))⟩
    · cases hf
  · split at hf
    · rename_i a b hl
      cases hf
      obtain ⟨p, xs, rfl, e1, r1⟩ := hx.tup sub
      obtain ⟨p2, ys, rfl, e2, r2⟩ := hy.tup sub
      have hz : xs.length + ys.length ≤ sizeLine := by rw [r1.length, r2.length]; omega
      refine op_catA pins s σ H _ _ v u Q I rx ry ⟨p, p2, xs, ys, rfl, rfl, SqT.of e1, SqT.of e2, hz, fun z => ?_, fun z1 z2 => ?_, fun z1 z2 a ha => ?_⟩
      · subst z
        cases r1
        exact q G H _ (Grow.refl sub) (.fro hy.froT)
      · subst z2
        cases r2
        refine q G H _ (Grow.refl sub) (.fro ?_)
        rw [List.append_nil]
        exact hx.froT
      · have gr := Grow.laid sub (o := .tup (xs ++ ys)) ha
        exact q _ _ _ gr (.fro (.tup upd_same ((r1.append r2).mono gr.gg (List.prefix_refl _))))
    · cases hf
  · split at hf
    · rename_i a b hl
      cases hf
      exact op_add_str pins s σ H x y v u Q I rx ry ⟨_, _, hx.str, hy.str, by omega, q G H _ (Grow.refl sub) (.fro (.str _))⟩
    · cases hf
  · cases hf
def dSub : Op2 := fun a b => match a, b with
  | .int a, .int b => some (.fro (.int (a - b)))
  | _, _ => none
theorem dop_sub : DOp X (binaryOp .Sub) dSub := fun pins s σ H x y v u Q I rx ry ⟨φ, G, dx, dy, r, sub, hx, hy, hf, q⟩ => by
  unfold dSub at hf
  split at hf
  · cases hf
    exact op_sub pins s σ H x y v u Q I rx ry ⟨_, _, hx.int, hy.int, q G H _ (Grow.refl sub) (.fro (.int _))⟩
  · cases hf
def smallI (i : Int) : Bool := decide (-(2 ^ 64) < i) && decide (i < 2 ^ 64)
theorem smallI_ok {i : Int} (h : smallI i = true) : -(2 ^ 64) < i ∧ i < 2 ^ 64 := by
  unfold smallI at h
  rw [Bool.and_eq_true, decide_eq_true_eq, decide_eq_true_eq] at h
  exact h
def dMul : Op2 := fun a b => match a, b with
  | .int a, .int b => if smallI a || smallI b then some (.fro (.int (a * b))) else none
  | .tup a, .int k => if !a.isEmpty && decide (2 ≤ k) && decide (k ≤ 1000) && decide (a.length ≤ 1000) then some (.fro (.tup (List.replicate k.toNat a).flatten)) else none
  | .lst a, .int k => if decide (0 ≤ k) && decide (k ≤ 1000) && decide (a.length ≤ 1000) then some (.own (.lst (List.replicate k.toNat a).flatten)) else none
  | _, _ => none
theorem RepA.rep {K : PySem.W.Frag} {φ : List Addr} {G : Hp} {vs : List V} {ds : List D} (r : RepA K φ G vs ds) : ∀ k : Nat, RepA K φ G (List.replicate k vs).flatten (List.replicate k ds).flatten
  | 0 => .nil
  | k + 1 => by
    rw [List.replicate_succ, List.replicate_succ, List.flatten_cons, List.flatten_cons]
    exact r.append (r.rep k)
theorem dop_mul : DOp X (binaryOp .Mult) dMul := fun pins s σ H x y v u Q I rx ry ⟨φ, G, dx, dy, r, sub, hx, hy, hf, q⟩ => by
  have mil := million
  unfold dMul at hf
  split at hf
  · split at hf
    · rename_i h
      cases hf
      rw [Bool.or_eq_true] at h
      exact op_mul pins s σ H x y v u Q I rx ry ⟨_, _, hx.int, hy.int, h.imp smallI_ok smallI_ok, q G H _ (Grow.refl sub) (.fro (.int _))⟩
    · cases hf
  · split at hf
    · rename_i a k h
      cases hf
      simp only [Bool.and_eq_true, decide_eq_true_eq, Bool.not_eq_true'] at h
      obtain ⟨⟨⟨h1, h2⟩, h3⟩, h4⟩ := h
      obtain ⟨p, xs, rfl, e1, r1⟩ := hx.tup sub
      refine op_repT pins s σ H _ _ v u Q I rx ry ⟨p, k, xs, rfl, hy.int, SqT.of e1, fun z => ?_, h2, h3, by rw [r1.length]; exact h4, fun a ha => ?_⟩
      · subst z; cases r1; cases h1
      · have gr := Grow.laid sub (o := .tup (List.replicate k.toNat xs).flatten) ha
        exact q _ _ _ gr (.fro (.tup upd_same ((r1.rep k.toNat).mono gr.gg (List.prefix_refl _))))
    · cases hf
  · split at hf
    · rename_i a k h
      cases hf
      simp only [Bool.and_eq_true, decide_eq_true_eq] at h
      obtain ⟨⟨h2, h3⟩, h4⟩ := h
      obtain ⟨p, xs, rfl, e1, r1⟩ := hx.lst sub
      have hz : xs.length * k.toNat ≤ sizeLine := by
        have : xs.length * k.toNat ≤ 1000 * 1000 := Nat.mul_le_mul (by rw [r1.length]; exact h4) (by omega)
        omega
      exact op_rep pins s σ H _ _ v u Q I rx ry ⟨_, k, xs, rfl, hy.int, e1, by omega, by omega, hz, fun p hp => q G _ _ (Grow.aside sub hp) (.own hp upd_same (sub.free hp) (.lst (r1.rep k.toNat)))⟩
    · cases hf
  · cases hf
def dMod : Op2 := fun a b => match a, b with
  | .int a, .int b => if 0 < b then some (.fro (.int (a % b))) else none
  | _, _ => none
theorem dop_mod : DOp X (binaryOp .Mod) dMod := fun pins s σ H x y v u Q I rx ry ⟨φ, G, dx, dy, r, sub, hx, hy, hf, q⟩ => by
  unfold dMod at hf
  split at hf
  · split at hf
    · rename_i h
      cases hf
      exact op_mod pins s σ H x y v u Q I rx ry ⟨_, _, hx.int, hy.int, h, q G H _ (Grow.refl sub) (.fro (.int _))⟩
    · cases hf
  · cases hf
def dFdiv : Op2 := fun a b => match a, b with
  | .int a, .int b => if 0 < b ∧ b < 2 ^ 64 then some (.fro (.int (a / b))) else none
  | _, _ => none
theorem dop_fdiv : DOp X (binaryOp .FloorDiv) dFdiv := fun pins s σ H x y v u Q I rx ry ⟨φ, G, dx, dy, r, sub, hx, hy, hf, q⟩ => by
  unfold dFdiv at hf
  split at hf
  · split at hf
    · rename_i h
      cases hf
      exact op_fdivW pins s σ H x y v u Q I rx ry ⟨_, _, hx.int, hy.int, wide_div (b := 64) h.1 (by omega) (by decide) (by decide), q G H _ (Grow.refl sub) (.fro (.int _))⟩
    · cases hf
  · cases hf
def dPow : Op2 := fun a b => match a, b with
  | .int a, .int b => if smallI a && decide (0 ≤ b) && decide (b ≤ 1000) then some (.fro (.int (a ^ b.toNat))) else none
  | _, _ => none
theorem dop_pow : DOp X (binaryOp .Pow) dPow := fun pins s σ H x y v u Q I rx ry ⟨φ, G, dx, dy, r, sub, hx, hy, hf, q⟩ => by
  unfold dPow at hf
  split at hf
  · split at hf
    · rename_i h
      cases hf
      simp only [Bool.and_eq_true, decide_eq_true_eq] at h
      obtain ⟨⟨h1, h2⟩, h3⟩ := h
      have h1 := smallI_ok h1
      exact op_pow pins s σ H x y v u Q I rx ry ⟨_, _, hx.int, hy.int, ⟨h2, by omega, by omega⟩, q G H _ (Grow.refl sub) (.fro (.int _))⟩
    · cases hf
  · cases hf
end
end Pv

namespace Pv
open PySem PySem.Spec L2
section
variable {X : Cx}
def cmpI (p : Int → Int → Bool) : Op2 := fun a b => match a, b with
  | .int a, .int b => some (.fro (.bl (p a b)))
  | _, _ => none
theorem dop_cmpI {op : CmpOp} {p : Int → Int → Bool} (h : OpR X (compareOp op) (rI0 fun i j => .bl (p i j))) : DOp X (compareOp op) (cmpI p) := fun pins s σ H x y v u Q I rx ry ⟨φ, G, dx, dy, r, sub, hx, hy, hf, q⟩ => by
  unfold cmpI at hf
  split at hf
  · cases hf
    exact h pins s σ H x y v u Q I rx ry ⟨_, _, hx.int, hy.int, q G H _ (Grow.refl sub) (.fro (.bl _))⟩
  · cases hf
/-- the ints of a tuple -/
def intsOf : List D → Option (List Int)
  | [] => some []
  | .int i :: ds => (intsOf ds).map fun r => i :: r
  | _ => none
theorem RepA.ints {K : PySem.W.Frag} {φ : List Addr} {G : Hp} : ∀ {vs : List V} {ds : List D} {ns : List Int}, RepA K φ G vs ds → intsOf ds = some ns → vs = ns.map V.int
  | _, _, _, .nil, h => by cases h; rfl
  | _, _, _, .cons (d := d) (ds := ds) r rs, h => by
    cases d with
    | int i =>
      obtain ⟨m, e, h⟩ := map_some_iff (show (intsOf ds).map (fun r => i :: r) = some _ from h)
      subst h
      cases r
      rw [RepA.ints rs e]
      rfl
    | _ => cases h
def dLt : Op2 := fun a b => match a, b with
  | .tup xs, .tup ys => match intsOf xs, intsOf ys with
    | some ns, some ms => some (.fro (.bl (HT.lexLt ns ms)))
    | _, _ => none
  | a, b => cmpI (fun i j => decide (i < j)) a b
theorem dop_lt (hu : X.A.units + 100 < cLine) : DOp X (compareOp .Lt) dLt := fun pins s σ H x y v u Q I rx ry ⟨φ, G, dx, dy, r, sub, hx, hy, hf, q⟩ => by
  unfold dLt at hf
  split at hf
  · split at hf
    · rename_i e1 e2
      cases hf
      obtain ⟨a, vs, rfl, s1, r1⟩ := hx.tup sub
      obtain ⟨b, ws, rfl, s2, r2⟩ := hy.tup sub
      have h1 := r1.ints e1
      have h2 := r2.ints e2
      subst h1 h2
      exact op_ltT (by omega) pins s σ H _ _ v u Q I rx ry ⟨a, b, _, _, rfl, rfl, SqT.of s1, SqT.of s2, q G H _ (Grow.refl sub) (.fro (.bl _))⟩
    · cases hf
  · exact dop_cmpI op_lt pins s σ H x y v u Q I rx ry ⟨φ, G, _, _, r, sub, hx, hy, hf, q⟩
abbrev dLe : Op2 := cmpI fun i j => decide (i ≤ j)
abbrev dGt : Op2 := cmpI fun i j => decide (j < i)
abbrev dGe : Op2 := cmpI fun i j => decide (j ≤ i)
theorem dop_le : DOp X (compareOp .LtE) dLe := dop_cmpI op_le
theorem dop_gt : DOp X (compareOp .Gt) dGt := dop_cmpI op_gt
theorem dop_ge : DOp X (compareOp .GtE) dGe := dop_cmpI op_ge
def isNon : D → Bool
  | .non => true
  | _ => false
def dIs : Op2 := fun a b => match a, b with
  | a, .non => some (.fro (.bl (isNon a)))
  | .bl a, .bl b => some (.fro (.bl (decide (a = b))))
  | _, _ => none
def dIsNot : Op2 := fun a b => match a, b with
  | a, .non => some (.fro (.bl (!isNon a)))
  | .bl a, .bl b => some (.fro (.bl (!decide (a = b))))
  | _, _ => none
theorem isNon_V {K : PySem.W.Frag} {φ : List Addr} {G H : Hp} {v : V} {d : D} (r : OpRep K φ G H v d) : decide (v = .non) = isNon d := by
  cases r with
  | fro r => cases r <;> rfl
  | own e o => cases o <;> rfl
theorem dop_is : DOp X (compareOp .Is) dIs := fun pins s σ H x y v u Q I rx ry ⟨φ, G, dx, dy, r, sub, hx, hy, hf, q⟩ => by
  unfold dIs at hf
  split at hf
  · cases hf
    exact op_isN pins s σ H x y v u Q I rx ry ⟨hy.non, by rw [isNon_V hx]; exact q G H _ (Grow.refl sub) (.fro (.bl _))⟩
  · cases hf
    exact op_is_bl pins s σ H x y v u Q I rx ry ⟨_, _, hx.bl, hy.bl, q G H _ (Grow.refl sub) (.fro (.bl _))⟩
  · cases hf
theorem dop_isnot : DOp X (compareOp .IsNot) dIsNot := fun pins s σ H x y v u Q I rx ry ⟨φ, G, dx, dy, r, sub, hx, hy, hf, q⟩ => by
  unfold dIsNot at hf
  split at hf
  · cases hf
    exact op_notN pins s σ H x y v u Q I rx ry ⟨hy.non, by rw [isNon_V hx]; exact q G H _ (Grow.refl sub) (.fro (.bl _))⟩
  · cases hf
    exact op_isnot_bl pins s σ H x y v u Q I rx ry ⟨_, _, hx.bl, hy.bl, q G H _ (Grow.refl sub) (.fro (.bl _))⟩
  · cases hf
def toKey : D → Option Key
  | .int i => some (.inl i)
  | .str x => some (.inr x)
  | _ => none
def toKeys : List D → Option (List Key)
  | [] => some []
  | d :: ds => (toKey d).bind fun k => (toKeys ds).map fun r => k :: r
/-- what a dict has at a key -/
def lookK (kvs : List (D × D)) (k : Key) : Option D := (kvs.find? fun p => decide (toKey p.1 = some k)).map (·.2)
def tupKeys : D → Option (List Key)
  | .tup ds => toKeys ds
  | _ => none
def lookT (kvs : List (D × D)) (k : List Key) : Option D := (kvs.find? fun p => decide (tupKeys p.1 = some k)).map (·.2)
/-- .. by any key of the dict's kind; none: the key is of another kind -/
def dLook (t : Bool) (kvs : List (D × D)) (d : D) : Option (Option D) := if t then (tupKeys d).map fun k => lookT kvs k else (toKey d).map fun k => lookK kvs k
theorem toKey_kD (k : Key) : toKey (kD k) = some k := by cases k <;> rfl
theorem toKeys_kD : ∀ ks : List Key, toKeys (ks.map kD) = some ks
  | [] => rfl
  | k :: ks => by
    show (toKey (kD k)).bind _ = _
    rw [toKey_kD, Option.bind_some, toKeys_kD ks]
    rfl
theorem toKey_V {K : PySem.W.Frag} {φ : List Addr} {G : Hp} {v : V} {d : D} {k : Key} (r : Rep K φ G v d) (h : toKey d = some k) : v = kV k := by
  cases r <;> cases h <;> rfl
theorem toKeys_V {K : PySem.W.Frag} {φ : List Addr} {G : Hp} : ∀ {vs : List V} {ds : List D} {ks : List Key}, RepA K φ G vs ds → toKeys ds = some ks → vs = ks.map kV
  | _, _, _, .nil, h => by cases h; rfl
  | _, _, _, .cons r rs, h => by
    obtain ⟨k, e1, h⟩ := bind_some_iff h
    obtain ⟨m, e2, h⟩ := map_some_iff h
    subst h
    rw [toKey_V r e1, toKeys_V rs e2]
    rfl
inductive OptRep (K : PySem.W.Frag) (φ : List Addr) (G : Hp) : Option V → Option D → Prop
  | none : OptRep K φ G none none
  | some {v d} : Rep K φ G v d → OptRep K φ G (some v) (some d)
theorem lookK_V {K : PySem.W.Frag} {φ : List Addr} {G : Hp} {k : Key} : ∀ {kvs : List (Key × V)} {ds : List (D × D)}, RepK K φ G kvs ds → OptRep K φ G (valV kvs k) (lookK ds k)
  | _, _, .nil => .none
  | _, _, .cons (k := j) (v := v) (vs := vs) (d := d) (ds := ds) r rs => by
    by_cases e : j = k
    · subst e
      have : lookK ((kD j, d) :: ds) j = some d := by simp [lookK, List.find?_cons, toKey_kD]
      rw [this, valV_pos (p := (j, v)) rfl]
      exact .some r
    · have : lookK ((kD j, d) :: ds) k = lookK ds k := by simp [lookK, List.find?_cons, toKey_kD, e]
      rw [this, valV_neg (p := (j, v)) e]
      exact lookK_V rs
theorem lookT_V {K : PySem.W.Frag} {φ : List Addr} {G : Hp} {k : List Key} : ∀ {kvs : List (List Key × V)} {ds : List (D × D)}, RepT K φ G kvs ds → OptRep K φ G (valV kvs k) (lookT ds k)
  | _, _, .nil => .none
  | _, _, .cons (k := j) (v := v) (vs := vs) (d := d) (ds := ds) r rs => by
    by_cases e : j = k
    · subst e
      have : lookT ((.tup (j.map kD), d) :: ds) j = some d := by simp [lookT, List.find?_cons, tupKeys, toKeys_kD]
      rw [this, valV_pos (p := (j, v)) rfl]
      exact .some r
    · have : lookT ((.tup (j.map kD), d) :: ds) k = lookT ds k := by simp [lookT, List.find?_cons, tupKeys, toKeys_kD, e]
      rw [this, valV_neg (p := (j, v)) e]
      exact lookT_V rs
theorem OpRep.dctK {K : PySem.W.Frag} {φ : List Addr} {G H : Hp} {v : V} {ds : List (D × D)} (h : Same G H) (r : OpRep K φ G H v (.dct false ds)) : ∃ a kvs, v = .ref a ∧ Rd H a (.dK kvs) ∧ RepK K φ G kvs ds := by
  cases r with
  | fro r => cases r with | dK s a => exact ⟨_, _, rfl, rd_mono h s, a⟩
  | own e o => cases o with | dK a => exact ⟨_, _, rfl, .inl e, a⟩
theorem OpRep.dctT {K : PySem.W.Frag} {φ : List Addr} {G H : Hp} {v : V} {ds : List (D × D)} (h : Same G H) (r : OpRep K φ G H v (.dct true ds)) : ∃ a kvs, v = .ref a ∧ Rd H a (.dT kvs) ∧ RepT K φ G kvs ds := by
  cases r with
  | fro r => cases r with | dT s a => exact ⟨_, _, rfl, rd_mono h s, a⟩
  | own e o => cases o with | dT a => exact ⟨_, _, rfl, .inl e, a⟩
/-- a look-up by trees is one in the heap -/
theorem dLook_V {K : PySem.W.Frag} {φ : List Addr} {G H : Hp} {v w : V} {t : Bool} {kvs : List (D × D)} {d : D} {o : Option D} (sub : Same G H) (hc : OpRep K φ G H v (.dct t kvs)) (hk : OpRep K φ G H w d) (e : dLook t kvs d = some o) :
    ∃ a ov, v = .ref a ∧ DGet H a w ov ∧ OptRep K φ G ov o := by
  unfold dLook at e
  cases t with
  | false =>
    rw [if_neg Bool.false_ne_true] at e
    obtain ⟨k, e1, e2⟩ := map_some_iff e
    rw [← e2]
    obtain ⟨a, kv, rfl, rd, rk⟩ := hc.dctK sub
    have hw : w = kV k := by
      cases hk with
      | fro r => exact toKey_V r e1
      | own _ q => cases q <;> cases e1
    subst hw
    exact ⟨a, valV kv k, rfl, .inl ⟨kv, k, rd, rfl, rfl⟩, lookK_V rk⟩
  | true =>
    rw [if_pos rfl] at e
    obtain ⟨k, e1, e2⟩ := map_some_iff e
    rw [← e2]
    obtain ⟨a, kv, rfl, rd, rk⟩ := hc.dctT sub
    cases d with
    | tup ds =>
      have rt := hk.froT
      cases rt with
      | tup st ra =>
        have hv := toKeys_V ra e1
        subst hv
        exact ⟨a, valV kv k, rfl, .inr ⟨kv, k, _, rd, rfl, sub _ _ st, rfl⟩, lookT_V rk⟩
    | _ => cases e1
def isIn (c x : D) : Option Bool := match c with
  | .lst ds => if eqOk 49 x && ds.all (eqOk 49) then some (ds.any fun z => deq z x) else none
  | .tup ds => if eqOk 49 x && ds.all (eqOk 49) then some (ds.any fun z => deq z x) else none
  | .dct t kvs => (dLook t kvs x).map Option.isSome
  | _ => none
def dIn : Op2 := fun x c => (isIn c x).map fun b => .fro (.bl b)
def dNotIn : Op2 := fun x c => (isIn c x).map fun b => .fro (.bl (!b))
theorem any_py (x : D) : ∀ ds : List D, (pyAll ds).any (fun z => PyData.eqv z (py x)) = ds.any fun z => deq z x
  | [] => rfl
  | d :: ds => by rw [pyAll, List.any_cons, List.any_cons, any_py x ds]; rfl
theorem eqOk_lst {n : Nat} {ds : List D} (h : ds.all (eqOk n) = true) : eqOk (n + 1) (.lst ds) = true := h
theorem eqOk_tup {n : Nat} {ds : List D} (h : ds.all (eqOk n) = true) : eqOk (n + 1) (.tup ds) = true := h
theorem in_tupD (hu : X.A.units + 100 < cLine) {pins : List (Addr × Obj)} {s : Shared} {σ : L2.St} {H : Hp} {v u : Value} {E : Value → Shared → Prop} {Q : Value → Shared → Prop} {x y : V} {a : D} {ds : List D} (I : Inv X pins σ H s) (rx : RelV x v) (ry : RelV y u) (h1 : Dp X.K H x (py a)) (h2 : Dp X.K H y (.tuple (pyAll ds)))
    (h : (eqOk 49 a && ds.all (eqOk 49)) = true) (neg : Bool) (q : Q (.bool (cond neg (!ds.any fun z => deq z a) (ds.any fun z => deq z a))) s) : wpAny (model X.prog X.w) X.A (compareOp (cond neg .NotIn .In) v u) Q E s := by
  rw [Bool.and_eq_true] at h
  obtain ⟨as, r1⟩ := Dp.reads I _ x v h1 rx
  obtain ⟨bs, r2⟩ := Dp.reads I _ y u h2 ry
  have s1 := (eqOk_py 49 a h.1).1
  have s2 := eqOk_py 50 (.tup ds) (eqOk_tup h.2)
  have s2a : PyData.canLayAll0 (pyAll ds) = true := by
    have := s2.1
    simp only [py, PyData.canLay0] at this
    exact this
  have room : X.A.units + 1 + min (PyData.depthAll (pyAll ds)) (py a).depth < cLine := by
    have := (eqOk_py 49 a h.1).2
    omega
  cases neg with
  | false => exact SeqAt.in_tuple_reads r2 r1 s2a s1 room (by rw [any_py]; exact q)
  | true => exact SeqAt.notIn_tuple_reads r2 r1 s2a s1 room (by rw [any_py]; exact q)
theorem dop_in (hu : X.A.units + 100 < cLine) : DOp X (compareOp .In) dIn := fun pins s σ H x y v u Q I rx ry ⟨φ, G, dx, dy, r, sub, hx, hy, hf, q⟩ => by
  obtain ⟨b, e, hf⟩ := map_some_iff hf
  subst hf
  cases dy with
  | lst ds =>
    have e : (if eqOk 49 dx && ds.all (eqOk 49) then _ else _) = _ := e
    split at e
    · rename_i h
      cases e
      rw [Bool.and_eq_true] at h
      refine op_inD (by omega) pins s σ H x y v u Q I rx ry ⟨py dx, pyAll ds, rep_dp 49 h.1 (hx.rep sub), rep_dp 50 (eqOk_lst h.2) (hy.rep sub), eqOk_shaped h.1, eqOk_shaped (eqOk_lst h.2), ?_⟩
      rw [any_py]
      exact q G H _ (Grow.refl sub) (.fro (.bl _))
    · cases e
  | tup ds =>
    have e : (if eqOk 49 dx && ds.all (eqOk 49) then _ else _) = _ := e
    split at e
    · rename_i h
      cases e
      have h' := h
      rw [Bool.and_eq_true] at h'
      exact in_tupD hu I rx ry (rep_dp 49 h'.1 (hx.rep sub)) (rep_dp 50 (eqOk_tup h'.2) (hy.rep sub)) h false ⟨.bl _, H, I, rfl, q G H _ (Grow.refl sub) (.fro (.bl _))⟩
    · cases e
  | dct t kvs =>
    obtain ⟨o, e1, e2⟩ := map_some_iff e
    subst e2
    obtain ⟨a, ov, rfl, dg, ro⟩ := dLook_V sub hy hx e1
    cases ry
    refine d_in (by omega) I dg rx fun s' I' => ⟨.bl _, H, I', rfl, ?_⟩
    cases ro with
    | none => exact q G H _ (Grow.refl sub) (.fro (.bl _))
    | some r => exact q G H _ (Grow.refl sub) (.fro (.bl _))
  | _ => cases e
theorem dop_notin (hu : X.A.units + 100 < cLine) : DOp X (compareOp .NotIn) dNotIn := fun pins s σ H x y v u Q I rx ry ⟨φ, G, dx, dy, r, sub, hx, hy, hf, q⟩ => by
  obtain ⟨b, e, hf⟩ := map_some_iff hf
  subst hf
  cases dy with
  | lst ds =>
    have e : (if eqOk 49 dx && ds.all (eqOk 49) then _ else _) = _ := e
    split at e
    · rename_i h
      cases e
      rw [Bool.and_eq_true] at h
      refine op_notInD (by omega) pins s σ H x y v u Q I rx ry ⟨py dx, pyAll ds, rep_dp 49 h.1 (hx.rep sub), rep_dp 50 (eqOk_lst h.2) (hy.rep sub), eqOk_shaped h.1, eqOk_shaped (eqOk_lst h.2), ?_⟩
      rw [any_py]
      exact q G H _ (Grow.refl sub) (.fro (.bl _))
    · cases e
  | tup ds =>
    have e : (if eqOk 49 dx && ds.all (eqOk 49) then _ else _) = _ := e
    split at e
    · rename_i h
      cases e
      have h' := h
      rw [Bool.and_eq_true] at h'
      exact in_tupD hu I rx ry (rep_dp 49 h'.1 (hx.rep sub)) (rep_dp 50 (eqOk_tup h'.2) (hy.rep sub)) h true ⟨.bl _, H, I, rfl, q G H _ (Grow.refl sub) (.fro (.bl _))⟩
    · cases e
  | dct t kvs =>
    obtain ⟨o, e1, e2⟩ := map_some_iff e
    subst e2
    obtain ⟨a, ov, rfl, dg, ro⟩ := dLook_V sub hy hx e1
    cases ry
    refine d_notIn (by omega) I dg rx fun s' I' => ⟨.bl _, H, I', rfl, ?_⟩
    cases ro with
    | none => exact q G H _ (Grow.refl sub) (.fro (.bl _))
    | some r => exact q G H _ (Grow.refl sub) (.fro (.bl _))
  | _ => cases e

theorem RepA.at {K : PySem.W.Frag} {φ : List Addr} {G : Hp} {vs : List V} {ds : List D} {i : Int} {d : D} (r : RepA K φ G vs ds) (h : atI ds i = some d) : ∃ v, atI vs i = some v ∧ Rep K φ G v d := by
  unfold atI at h ⊢
  rw [r.length]
  obtain ⟨j, e1, e2⟩ := bind_some_iff h
  obtain ⟨v, e3, e4⟩ := r.get e2
  exact ⟨v, by rw [e1]; exact e3, e4⟩
/-- o[i] by what getItem does -/
theorem tail_get {prog : Program} {w : World} {A : Around} {E Q : Value → Shared → Prop} {s : Shared} {value slice : Expr} {o i : Value} {T id : String} (ty : s.TypeIs o T) (look : typeLookup (.type T) "__getitem__" = pure (some (.builtin id)))
    (got : wpAny (model prog w) A (getItem o i) Q E s) (plain : subscripted slice false o i = operate [o, i] (getItem o i)) : wpAny (model prog w) A (PyProof.Rows.subscriptTail value slice o i) Q E s := by
  have out : wpAny (model prog w) A (subscripted slice false o i) (fun r s' => wpAny (model prog w) A (letTemporaryGo value o r >>= fun _ => pure r) Q E s') E s :=
    plain ▸ wpAny_operating (wpAny_mono got (fun _ _ q => wpAny_bind (wpAny_letTemporaryGo (wpAny_pure q))) fun _ _ q => q)
  unfold PyProof.Rows.subscriptTail
  rw [getitemInPython_of_ne ty.not_modules]
  refine wpAny_bind (wpAny_bind (wpAny_specialOf ty look ?_))
  first
    | exact wpAny_bind out
    | exact wpAny_pure (wpAny_bind out)
    | exact wpAny_bind (wpAny_pure (wpAny_bind out))
def dIx : Op2 := fun c k => match c with
  | .lst ds => match k with
    | .int i => (atI ds i).map .fro
    | _ => none
  | .tup ds => match k with
    | .int i => (atI ds i).map .fro
    | _ => none
  | .dct t kvs => (dLook t kvs k).bind fun o => o.map .fro
  | _ => none
theorem dix (hu : X.A.units + 100 < cLine) : DIx X dIx := fun value slice pins s σ H x y v u Q I rx ry ⟨φ, G, dx, dy, r, sub, hx, hy, hf, q⟩ hs => by
  cases dx with
  | lst ds =>
    cases dy with
    | int i =>
      obtain ⟨d, e, hf⟩ := map_some_iff (show (atI ds i).map RV.fro = some r from hf)
      subst hf
      obtain ⟨a, vs, rfl, s1, r1⟩ := hx.lst sub
      obtain ⟨w, e2, e3⟩ := r1.at e
      exact ix_list value slice pins s σ H _ _ v u Q I rx ry ⟨a, vs, i, w, rfl, hy.int, SqL.of s1, e2, q G H _ (Grow.refl sub) (.fro e3)⟩ hs
    | _ => cases hf
  | tup ds =>
    cases dy with
    | int i =>
      obtain ⟨d, e, hf⟩ := map_some_iff (show (atI ds i).map RV.fro = some r from hf)
      subst hf
      obtain ⟨a, vs, rfl, s1, r1⟩ := hx.tup sub
      obtain ⟨w, e2, e3⟩ := r1.at e
      exact ix_tup value slice pins s σ H _ _ v u Q I rx ry ⟨a, vs, i, w, rfl, hy.int, SqT.of s1, e2, q G H _ (Grow.refl sub) (.fro e3)⟩ hs
    | _ => cases hf
  | dct t kvs =>
    obtain ⟨o, e1, e2⟩ := bind_some_iff (show (dLook t kvs dy).bind (fun o => o.map RV.fro) = some r from hf)
    obtain ⟨a, ov, rfl, dg, ro⟩ := dLook_V sub hx hy e1
    cases ro with
    | none => cases e2
    | some rp =>
      cases e2
      cases rx
      exact tail_get (dict_typeIs I dg) PySem.F.slot_dict_getitem.lookup (d_getItem (by omega) I dg ry fun w' s' I' rw' => ⟨_, H, I', rw', q G H _ (Grow.refl sub) (.fro rp)⟩) hs
  | _ => cases hf
end
end Pv

namespace Pv
open PySem PySem.Spec L2
section
variable {X : Cx}
def cutL {α : Type} (xs : List α) (lo hi : Option Int) : List α := (xs.drop (HT.sIx xs.length 0 lo)).take (HT.sIx xs.length xs.length hi - HT.sIx xs.length 0 lo)
theorem RepA.drop {K : PySem.W.Frag} {φ : List Addr} {G : Hp} : ∀ {vs ds} (n : Nat), RepA K φ G vs ds → RepA K φ G (vs.drop n) (ds.drop n)
  | _, _, 0, r => r
  | _, _, _ + 1, .nil => .nil
  | _, _, n + 1, .cons _ r => r.drop n
theorem RepA.take {K : PySem.W.Frag} {φ : List Addr} {G : Hp} : ∀ {vs ds} (n : Nat), RepA K φ G vs ds → RepA K φ G (vs.take n) (ds.take n)
  | _, _, 0, r => .nil
  | _, _, _ + 1, .nil => .nil
  | _, _, n + 1, .cons a r => .cons a (r.take n)
theorem RepA.cut {K : PySem.W.Frag} {φ : List Addr} {G : Hp} {vs : List V} {ds : List D} (r : RepA K φ G vs ds) (lo hi : Option Int) : RepA K φ G (cutV vs lo hi) (cutL ds lo hi) := by
  unfold cutV cutL
  rw [r.length]
  exact (r.drop _).take _
theorem RepA.ofInts {K : PySem.W.Frag} {φ : List Addr} {G : Hp} : ∀ ns : List Int, RepA K φ G (ns.map V.int) (ns.map D.int)
  | [] => .nil
  | n :: ns => .cons (.int n) (RepA.ofInts ns)
abbrev Sl := D → Option Int → Option Int → Option RV
def dSl : Sl := fun c lo hi => match c with
  | .lst ds => some (.own (.lst (cutL ds lo hi)))
  | .tup ds => some (.fro (.tup (cutL ds lo hi)))
  | .scr ns => some (.own (.lst (cutL (ns.map .int) lo hi)))
  | _ => none
def rVS (K : PySem.W.Frag) (f : Sl) : V → Option Int → Option Int → Hp → VK → Prop := fun x lo hi H Q => ∃ φ G dx r, Same G H ∧ OpRep K φ G H x dx ∧ f dx lo hi = some r ∧ OkRes K φ G H r Q
theorem cut_whole {α : Type} {xs : List α} {lo hi : Option Int} (h : HT.sIx xs.length 0 lo = 0 ∧ HT.sIx xs.length xs.length hi = xs.length) : cutL xs lo hi = xs := by
  unfold cutL
  rw [h.1, h.2]
  simp
theorem dsl : SlR X (rVS X.K dSl) := fun pins s σ H x v vl vu lo hi sl Q I rx hs pl pu ⟨φ, G, dx, r, sub, hx, hf, q⟩ => by
  cases dx with
  | lst ds =>
    cases hf
    obtain ⟨a, vs, rfl, s1, r1⟩ := hx.lst sub
    exact sl_list pins s σ H _ v vl vu lo hi sl Q I rx hs pl pu ⟨a, vs, rfl, SqL.of s1, fun p hp => q G _ _ (Grow.aside sub hp) (.own hp upd_same (sub.free hp) (.lst (r1.cut lo hi)))⟩
  | tup ds =>
    cases hf
    obtain ⟨a, vs, rfl, s1, r1⟩ := hx.tup sub
    refine sl_tupA pins s σ H _ v vl vu lo hi sl Q I rx hs pl pu ⟨a, vs, rfl, SqT.of s1, fun w => ?_, fun _ p hp => ?_⟩
    · rw [r1.length] at w
      rw [cut_whole w] at q
      exact q G H _ (Grow.refl sub) (.fro hx.froT)
    · have gr := Grow.laid sub (o := .tup (cutV vs lo hi)) hp
      exact q _ _ _ gr (.fro (.tup upd_same ((r1.cut lo hi).mono gr.gg (List.prefix_refl _))))
  | scr ns =>
    cases hf
    cases hx with
    | own e o => cases o
    | fro rp =>
      cases rp with
      | scr st =>
        exact sl_list pins s σ H _ v vl vu lo hi sl Q I rx hs pl pu ⟨_, _, rfl, sqL_mono sub st, fun p hp => q G _ _ (Grow.aside sub hp) (.own hp upd_same (sub.free hp) (.lst ((RepA.ofInts ns).cut lo hi)))⟩
  | _ => cases hf
/-- a part of a slice -/
def tPt (K : PySem.W.Frag) (ev : Ev (Option Int)) : TO := fun σ H Q => ∃ g G φ s r s', g.K = K ∧ Rel g G φ s σ H ∧ ev s = some (r, s') ∧
  ∀ G' φ' H', Rel g G' φ' s' σ H' → Same G G' → φ <+: φ' → Q r H'
def SP (X : Cx) (e : Option Expr) (ev : Ev (Option Int)) : Prop := PO X e (tPt X.K ev)
theorem po_imp {X : Cx} {e : Option Expr} {t t' : TO} (h : PO X e t) (f : ∀ σ H Q, t' σ H Q → t σ H Q) : PO X e t' := ⟨fun pins s σ H Q I q => h.run pins s σ H Q I (f _ _ _ q)⟩
def evNo : Ev (Option Int) := fun s => some (none, s)
def evPt (a : Ev Bor) : Ev (Option Int) := fun s => (a s).bind fun p => match fetch p.2 p.1 with
  | some (.int i) => some (some i, p.2)
  | _ => none
theorem sp_none : SP X none evNo := po_imp po_none fun σ H Q ⟨g, G, φ, s, r, s', hK, R, he, q⟩ => by
  cases he
  exact q G φ H R (Same.refl _) (List.prefix_refl _)
theorem sp_some {e : Expr} {a : Ev Bor} (h : SB X e a) : SP X (some e) (evPt a) := po_imp (po_some h) fun σ H Q ⟨g, G, φ, s, r, s', hK, R, he, q⟩ => by
  obtain ⟨⟨b, s1⟩, e1, he⟩ := bind_some_iff he
  cases e2 : fetch s1 b with
  | none => rw [e2] at he; cases he
  | some d =>
    rw [e2] at he
    cases d with
    | int i =>
      cases he
      refine ⟨g, G, φ, s, b, _, hK, R, e1, fun G1 φ1 H1 v R1 h1 h2 x => ⟨i, (R1.fetch x e2).int, q G1 φ1 H1 R1 h1 h2⟩⟩
    | _ => cases he
def evSl (f : Sl) (a : Ev Bor) (l h : Ev (Option Int)) : Ev RV := fun s => (a s).bind fun p => (l p.2).bind fun x => (h x.2).bind fun y => (fetch y.2 p.1).bind fun d => (f d x.1 y.1).map fun r => (r, y.2)
theorem sr_slice {e : Expr} {lo hi : Option Expr} {a : Ev Bor} {l h : Ev (Option Int)} {p2 pos : Pos} (he : SB X e a) (hl : SP X lo l) (hh : SP X hi h) : SR X (.Subscript e (.Slice lo hi none p2) pos) (evSl dSl a l h) :=
  pe_imp (pe_slice dsl he hl hh) fun σ H Q ⟨g, G, φ, s, r, s', hK, R, he, q⟩ => by
    obtain ⟨⟨b, s1⟩, e1, he⟩ := bind_some_iff he
    obtain ⟨⟨x, s2⟩, e2, he⟩ := bind_some_iff he
    obtain ⟨⟨y, s3⟩, e3, he⟩ := bind_some_iff he
    obtain ⟨d, e4, he⟩ := bind_some_iff he
    obtain ⟨r', e5, he⟩ := map_some_iff he
    cases he
    refine ⟨g, G, φ, s, b, s1, hK, R, e1, fun G1 φ1 H1 v R1 h1 h2 z => ?_⟩
    refine ⟨g, G1, φ1, s1, x, s2, hK, R1, e2, fun G2 φ2 H2 R2 h3 h4 => ?_⟩
    refine ⟨g, G2, φ2, s2, y, s3, hK, R2, e3, fun G3 φ3 H3 R3 h5 h6 => ?_⟩
    refine ⟨φ3, G3, d, r, R3.sub, hK ▸ R3.fetch ((z.mono h3 h4).mono h5 h6) e4, e5, fun G4 H4 w gr o => ?_⟩
    exact q G4 φ3 H4 w (R3.grow gr) (((h1.trans h3).trans h5).trans gr.gg) ((h2.trans h4).trans h6) (ORes.res R3 gr (hK ▸ o))
/-- -a -/
def evNeg (a : Ev Bor) : Ev RV := fun s => (a s).bind fun p => match fetch p.2 p.1 with
  | some (.int i) => some (.fro (.int (-i)), p.2)
  | _ => none
theorem sr_neg {e : Expr} {a : Ev Bor} {pos : Pos} (h : SB X e a) : SR X (.UnaryOp .USub e pos) (evNeg a) := pe_imp (pe_un un_neg h) fun σ H Q ⟨g, G, φ, s, r, s', hK, R, he, q⟩ => by
  obtain ⟨⟨b, s1⟩, e1, he⟩ := bind_some_iff he
  cases e2 : fetch s1 b with
  | none => rw [e2] at he; cases he
  | some d =>
    rw [e2] at he
    cases d with
    | int i =>
      cases he
      refine ⟨g, G, φ, s, b, _, hK, R, e1, fun G1 φ1 H1 v R1 h1 h2 x => ⟨i, (R1.fetch x e2).int, q G1 φ1 H1 _ R1 h1 h2 (.fro (.int _))⟩⟩
    | _ => cases he

theorem OpAll.one {K : PySem.W.Frag} {φ : List Addr} {G H : Hp} {vs : List V} {d : D} (h : OpAll K φ G H vs [d]) : ∃ v, vs = [v] ∧ OpRep K φ G H v d := by
  cases h with
  | cons r rs => cases rs; exact ⟨_, rfl, r⟩
theorem OpAll.two {K : PySem.W.Frag} {φ : List Addr} {G H : Hp} {vs : List V} {d e : D} (h : OpAll K φ G H vs [d, e]) : ∃ v w, vs = [v, w] ∧ OpRep K φ G H v d ∧ OpRep K φ G H w e := by
  cases h with
  | cons r rs =>
    obtain ⟨w, rfl, r2⟩ := rs.one
    exact ⟨_, w, rfl, r, r2⟩
def dLen : OpN := fun xs => match xs with
  | [.lst ds] => some (.fro (.int ds.length))
  | [.tup ds] => some (.fro (.int ds.length))
  | [.dct false ds] => some (.fro (.int ds.length))
  | [.scr ns] => some (.fro (.int ns.length))
  | [.str x] => if x.length ≤ 1000000 then some (.fro (.int x.length)) else none
  | _ => none
theorem RepK.length {K : PySem.W.Frag} {φ : List Addr} {G : Hp} : ∀ {vs ds}, RepK K φ G vs ds → vs.length = ds.length
  | _, _, .nil => rfl
  | _, _, .cons _ r => congrArg Nat.succ r.length
theorem dcall_len : DCall X (.builtin "len") dLen := fun pins s σ H xs us Q I rx ⟨φ, G, ds, r, sub, hx, hf, q⟩ => by
  unfold dLen at hf
  split at hf
  · cases hf
    obtain ⟨v, rfl, o⟩ := hx.one
    obtain ⟨a, vs, rfl, s1, r1⟩ := o.lst sub
    exact call_len_seq pins s σ H _ us Q I rx ⟨a, vs, rfl, .inl (SqL.of s1), by rw [r1.length]; exact q G H _ (Grow.refl sub) (.fro (.int _))⟩
  · cases hf
    obtain ⟨v, rfl, o⟩ := hx.one
    obtain ⟨a, vs, rfl, s1, r1⟩ := o.tup sub
    exact call_len_seq pins s σ H _ us Q I rx ⟨a, vs, rfl, .inr (SqT.of s1), by rw [r1.length]; exact q G H _ (Grow.refl sub) (.fro (.int _))⟩
  · cases hf
    obtain ⟨v, rfl, o⟩ := hx.one
    obtain ⟨a, kvs, rfl, s1, r1⟩ := o.dctK sub
    obtain ⟨u, rfl, ru⟩ := rx.one
    cases ru
    exact d_len I s1 fun t s' I' => ⟨.int _, H, I', ⟨t, rfl⟩, by rw [r1.length]; exact q G H _ (Grow.refl sub) (.fro (.int _))⟩
  · cases hf
    obtain ⟨v, rfl, o⟩ := hx.one
    cases o with
    | own e z => cases z
    | fro rp =>
      cases rp with
      | scr st =>
        refine call_len_seq pins s σ H _ us Q I rx ⟨_, _, rfl, .inl (sqL_mono sub st), ?_⟩
        rw [List.length_map]
        exact q G H _ (Grow.refl sub) (.fro (.int _))
  · split at hf
    · rename_i hl
      cases hf
      obtain ⟨v, rfl, o⟩ := hx.one
      cases o.str
      have := million
      exact call_len_str pins s σ H _ us Q I rx ⟨_, rfl, by omega, q G H _ (Grow.refl sub) (.fro (.int _))⟩
    · cases hf
  · cases hf
def dList : OpN := fun xs => match xs with
  | [.lst ds] => some (.own (.lst ds))
  | [.tup ds] => some (.own (.lst ds))
  | _ => none
theorem dcall_list : DCall X (.type "list") dList := fun pins s σ H xs us Q I rx ⟨φ, G, ds, r, sub, hx, hf, q⟩ => by
  unfold dList at hf
  split at hf
  · cases hf
    obtain ⟨v, rfl, o⟩ := hx.one
    obtain ⟨a, vs, rfl, s1, r1⟩ := o.lst sub
    exact call_list_of pins s σ H _ us Q I rx ⟨a, vs, rfl, .inl (SqL.of s1), fun p hp => q G _ _ (Grow.aside sub hp) (.own hp upd_same (sub.free hp) (.lst r1))⟩
  · cases hf
    obtain ⟨v, rfl, o⟩ := hx.one
    obtain ⟨a, vs, rfl, s1, r1⟩ := o.tup sub
    exact call_list_of pins s σ H _ us Q I rx ⟨a, vs, rfl, .inr (SqT.of s1), fun p hp => q G _ _ (Grow.aside sub hp) (.own hp upd_same (sub.free hp) (.lst r1))⟩
  · cases hf
def dTuple : OpN := fun xs => match xs with
  | [.lst ds] => some (.fro (.tup ds))
  | [.tup ds] => some (.fro (.tup ds))
  | _ => none
theorem dcall_tuple : DCall X (.type "tuple") dTuple := fun pins s σ H xs us Q I rx ⟨φ, G, ds, r, sub, hx, hf, q⟩ => by
  unfold dTuple at hf
  split at hf
  · cases hf
    obtain ⟨v, rfl, o⟩ := hx.one
    obtain ⟨a, vs, rfl, s1, r1⟩ := o.lst sub
    refine call_tuple_of pins s σ H _ us Q I rx ⟨a, vs, rfl, .inl ⟨SqL.of s1, fun p hp => ?_⟩⟩
    have gr := Grow.laid sub (o := .tup vs) hp
    exact q _ _ _ gr (.fro (.tup upd_same (r1.mono gr.gg (List.prefix_refl _))))
  · cases hf
    obtain ⟨v, rfl, o⟩ := hx.one
    obtain ⟨a, vs, rfl, s1, r1⟩ := o.tup sub
    exact call_tuple_of pins s σ H _ us Q I rx ⟨a, vs, rfl, .inr ⟨SqT.of s1, q G H _ (Grow.refl sub) (.fro o.froT)⟩⟩
  · cases hf
def dSum : OpN := fun xs => match xs with
  | [.lst ds] => (intsOf ds).map fun ns => .fro (.int ns.sum)
  | _ => none
theorem dcall_sum (hc : X.calm = true) : DCall X (.builtin "sum") dSum := fun pins s σ H xs us Q I rx ⟨φ, G, ds, r, sub, hx, hf, q⟩ => by
  unfold dSum at hf
  split at hf
  · obtain ⟨ns, e, hf⟩ := map_some_iff hf
    subst hf
    obtain ⟨v, rfl, o⟩ := hx.one
    obtain ⟨a, vs, rfl, s1, r1⟩ := o.lst sub
    have := r1.ints e
    subst this
    exact cr_sum hc pins s σ H _ us Q I rx ⟨a, ns, rfl, SqL.of s1, q G H _ (Grow.refl sub) (.fro (.int _))⟩
  · cases hf
def lMax : List Int → Int
  | [] => 0
  | [x] => x
  | x :: xs => max x (lMax xs)
def lMin : List Int → Int
  | [] => 0
  | [x] => x
  | x :: xs => min x (lMin xs)
theorem lMax_is : ∀ {ns : List Int} {m : Int}, m ∈ ns → (∀ y ∈ ns, y ≤ m) → lMax ns = m
  | [x], m, h, _ => by simp at h; subst h; rfl
  | x :: y :: r, m, h, k => by
    show max x (lMax (y :: r)) = m
    by_cases hm : m ∈ y :: r
    · rw [lMax_is hm fun z hz => k z (List.mem_cons_of_mem _ hz)]
      have := k x List.mem_cons_self
      omega
    · have e : m = x := by
        rcases List.mem_cons.mp h with e | e
        · exact e
        · exact absurd e hm
      subst e
      have all : ∀ {zs : List Int}, zs ≠ [] → (∀ z ∈ zs, z ≤ m) → lMax zs ≤ m := by
        intro zs
        induction zs with
        | nil => intro h; exact absurd rfl h
        | cons z zs ih =>
          intro _ hz
          cases zs with
          | nil => exact hz z List.mem_cons_self
          | cons z2 zs =>
            have h1 := hz z List.mem_cons_self
            have h2 := ih (by simp) fun w hw => hz w (List.mem_cons_of_mem _ hw)
            show max z (lMax (z2 :: zs)) ≤ m
            omega
      have := all (zs := y :: r) (by simp) fun z hz => k z (List.mem_cons_of_mem _ hz)
      omega
theorem lMin_is : ∀ {ns : List Int} {m : Int}, m ∈ ns → (∀ y ∈ ns, m ≤ y) → lMin ns = m
  | [x], m, h, _ => by simp at h; subst h; rfl
  | x :: y :: r, m, h, k => by
    show min x (lMin (y :: r)) = m
    by_cases hm : m ∈ y :: r
    · rw [lMin_is hm fun z hz => k z (List.mem_cons_of_mem _ hz)]
      have := k x List.mem_cons_self
      omega
    · have e : m = x := by
        rcases List.mem_cons.mp h with e | e
        · exact e
        · exact absurd e hm
      subst e
      have all : ∀ {zs : List Int}, zs ≠ [] → (∀ z ∈ zs, m ≤ z) → m ≤ lMin zs := by
        intro zs
        induction zs with
        | nil => intro h; exact absurd rfl h
        | cons z zs ih =>
          intro _ hz
          cases zs with
          | nil => exact hz z List.mem_cons_self
          | cons z2 zs =>
            have h1 := hz z List.mem_cons_self
            have h2 := ih (by simp) fun w hw => hz w (List.mem_cons_of_mem _ hw)
            show m ≤ min z (lMin (z2 :: zs))
            omega
      have := all (zs := y :: r) (by simp) fun z hz => k z (List.mem_cons_of_mem _ hz)
      omega
def dMax : OpN := fun xs => match xs with
  | [.lst ds] => (intsOf ds).bind fun ns => if ns.isEmpty then none else some (.fro (.int (lMax ns)))
  | [.int i, .int j] => some (.fro (.int (max i j)))
  | _ => none
def dMin : OpN := fun xs => match xs with
  | [.lst ds] => (intsOf ds).bind fun ns => if ns.isEmpty then none else some (.fro (.int (lMin ns)))
  | [.int i, .int j] => some (.fro (.int (min i j)))
  | _ => none
theorem dcall_max (hc : X.calm = true) : DCall X (.builtin "max") dMax := fun pins s σ H xs us Q I rx ⟨φ, G, ds, r, sub, hx, hf, q⟩ => by
  unfold dMax at hf
  split at hf
  · obtain ⟨ns, e, hf⟩ := bind_some_iff hf
    split at hf
    · cases hf
    · rename_i hne
      cases hf
      obtain ⟨v, rfl, o⟩ := hx.one
      obtain ⟨a, vs, rfl, s1, r1⟩ := o.lst sub
      have := r1.ints e
      subst this
      refine cr_max hc pins s σ H _ us Q I rx ⟨a, ns, rfl, SqL.of s1, ?_, fun m h1 h2 => ?_⟩
      · cases ns with
        | nil => exact absurd rfl hne
        | cons => exact Nat.succ_pos _
      · rw [← lMax_is h1 h2]
        exact q G H _ (Grow.refl sub) (.fro (.int _))
  · rename_i i j
    cases hf
    obtain ⟨v, w, rfl, o1, o2⟩ := hx.two
    cases o1.int
    cases o2.int
    refine call_max2 hc pins s σ H _ us Q I rx ⟨i, j, rfl, ?_⟩
    rw [show (if j > i then j else i) = max i j by split <;> omega]
    exact q G H _ (Grow.refl sub) (.fro (.int _))
  · cases hf
theorem dcall_min (hc : X.calm = true) : DCall X (.builtin "min") dMin := fun pins s σ H xs us Q I rx ⟨φ, G, ds, r, sub, hx, hf, q⟩ => by
  unfold dMin at hf
  split at hf
  · obtain ⟨ns, e, hf⟩ := bind_some_iff hf
    split at hf
    · cases hf
    · rename_i hne
      cases hf
      obtain ⟨v, rfl, o⟩ := hx.one
      obtain ⟨a, vs, rfl, s1, r1⟩ := o.lst sub
      have := r1.ints e
      subst this
      refine cr_min hc pins s σ H _ us Q I rx ⟨a, ns, rfl, SqL.of s1, ?_, fun m h1 h2 => ?_⟩
      · cases ns with
        | nil => exact absurd rfl hne
        | cons => exact Nat.succ_pos _
      · rw [← lMin_is h1 h2]
        exact q G H _ (Grow.refl sub) (.fro (.int _))
  · rename_i i j
    cases hf
    obtain ⟨v, w, rfl, o1, o2⟩ := hx.two
    cases o1.int
    cases o2.int
    refine call_min2 hc pins s σ H _ us Q I rx ⟨i, j, rfl, ?_⟩
    rw [show (if j < i then j else i) = min i j by split <;> omega]
    exact q G H _ (Grow.refl sub) (.fro (.int _))
  · cases hf
def blsOf : List D → Option (List Bool)
  | [] => some []
  | .bl i :: ds => (blsOf ds).map fun r => i :: r
  | _ => none
theorem RepA.bls {K : PySem.W.Frag} {φ : List Addr} {G : Hp} : ∀ {vs : List V} {ds : List D} {ns : List Bool}, RepA K φ G vs ds → blsOf ds = some ns → vs = ns.map V.bl
  | _, _, _, .nil, h => by cases h; rfl
  | _, _, _, .cons (d := d) (ds := ds) r rs, h => by
    cases d with
    | bl i =>
      obtain ⟨m, e, h⟩ := map_some_iff (show (blsOf ds).map (fun r => i :: r) = some _ from h)
      subst h
      cases r
      rw [RepA.bls rs e]
      rfl
    | _ => cases h
def dAll : OpN := fun xs => match xs with
  | [.lst ds] => (blsOf ds).map fun ns => .fro (.bl (ns.all id))
  | _ => none
def dAny : OpN := fun xs => match xs with
  | [.lst ds] => (blsOf ds).map fun ns => .fro (.bl (ns.any id))
  | _ => none
theorem dcall_all (hc : X.calm = true) : DCall X (.builtin "all") dAll := fun pins s σ H xs us Q I rx ⟨φ, G, ds, r, sub, hx, hf, q⟩ => by
  unfold dAll at hf
  split at hf
  · obtain ⟨ns, e, hf⟩ := map_some_iff hf
    subst hf
    obtain ⟨v, rfl, o⟩ := hx.one
    obtain ⟨a, vs, rfl, s1, r1⟩ := o.lst sub
    have := r1.bls e
    subst this
    exact cr_all hc pins s σ H _ us Q I rx ⟨a, ns, rfl, SqL.of s1, q G H _ (Grow.refl sub) (.fro (.bl _))⟩
  · cases hf
theorem dcall_any (hc : X.calm = true) : DCall X (.builtin "any") dAny := fun pins s σ H xs us Q I rx ⟨φ, G, ds, r, sub, hx, hf, q⟩ => by
  unfold dAny at hf
  split at hf
  · obtain ⟨ns, e, hf⟩ := map_some_iff hf
    subst hf
    obtain ⟨v, rfl, o⟩ := hx.one
    obtain ⟨a, vs, rfl, s1, r1⟩ := o.lst sub
    have := r1.bls e
    subst this
    exact cr_any hc pins s σ H _ us Q I rx ⟨a, ns, rfl, SqL.of s1, q G H _ (Grow.refl sub) (.fro (.bl _))⟩
  · cases hf
def dInt : OpN := fun xs => match xs with
  | [.int i] => some (.fro (.int i))
  | [.bl b] => some (.fro (.int (if b then 1 else 0)))
  | _ => none
theorem dcall_int : DCall X (.type "int") dInt := fun pins s σ H xs us Q I rx ⟨φ, G, ds, r, sub, hx, hf, q⟩ => by
  unfold dInt at hf
  split at hf
  · cases hf
    obtain ⟨v, rfl, o⟩ := hx.one
    cases o.int
    exact call_int1 pins s σ H _ us Q I rx (.inl ⟨_, rfl, q G H _ (Grow.refl sub) (.fro (.int _))⟩)
  · cases hf
    obtain ⟨v, rfl, o⟩ := hx.one
    cases o.bl
    exact call_int1 pins s σ H _ us Q I rx (.inr ⟨_, rfl, q G H _ (Grow.refl sub) (.fro (.int _))⟩)
  · cases hf
def tyOf : D → Option String
  | .non => some "NoneType"
  | .bl _ => some "bool"
  | .int _ => some "int"
  | .str _ => some "str"
  | .tup _ => some "tuple"
  | .lst _ => some "list"
  | .dct false _ => some "dict"
  | .dct true _ => some "dict"
  | _ => none
/-- what isinstance asks of a value -/
theorem kit_D {φ : List Addr} {G H : Hp} {pins : List (Addr × Obj)} {σ : L2.St} {s : Shared} {v : V} {u : Value} {d : D} {t : String} (I : Inv X pins σ H s) (rv : RelV v u) (sub : Same G H) (r : OpRep X.K φ G H v d) (e : tyOf d = some t) :
    ∃ P : Heap → Prop, PySem.W.KitX X.K u (.type t) P ∧ P s.heap ∧ u ≠ .builtin "__main__.__loader__#opaque" := by
  cases d with
  | non => cases r.non; cases e; exact kit_of I rv (.base .non)
  | bl b => cases r.bl; cases e; exact kit_of I rv (.base (.bl b))
  | int b => cases r.int; cases e; exact kit_of I rv (.base (.int b))
  | str b => cases r.str; cases e; exact kit_of I rv (.base (.str b))
  | tup ds => cases e; obtain ⟨a, vs, rfl, s1, _⟩ := r.tup sub; exact kit_of I rv (.base (.tup s1))
  | lst ds => cases e; obtain ⟨a, vs, rfl, s1, _⟩ := r.lst sub; exact kit_of I rv (.base (.lst s1))
  | dct b ds =>
    cases b with
    | false =>
      cases e
      obtain ⟨a, kvs, rfl, s1, _⟩ := r.dctK sub
      rcases s1 with s1 | ⟨o, s1⟩
      · exact kit_of I rv (.base (.dK s1))
      · exact kit_of I rv (.fDict s1)
    | true =>
      cases e
      obtain ⟨a, kvs, rfl, s1, _⟩ := r.dctT sub
      cases rv
      obtain ⟨_, _, _, _, o, es, ep, h1, h2, _⟩ := (show ObjOk X.prog X.w H s.heap a (.dT kvs) from s1.ok I.hok)
      exact ⟨_, PySem.W.kitx_dict, ⟨o, h1, h2.1⟩, fun z => nomatch z⟩
  | hd n => cases e
  | scr n => cases e
def isiB (T : String) : D → Option RV := fun d => (tyOf d).bind fun t => (kitB t T).map fun b => .fro (.bl b)
def evIsi (T : String) (a : Ev Bor) : Ev RV := fun s => (a s).bind fun p => (fetch p.2 p.1).bind fun d => (isiB T d).map fun r => (r, p.2)
/-- isinstance(e, T) -/
theorem sr_isi {T : Str} {Tn : String} {e : Expr} {a : Ev Bor} {p p2 pos : Pos} (hg : Gl X "isinstance") (hm : X.mg "isinstance" = none) (hgT : Gl X T) (hmT : X.mg T = none) (hvT : bootBuiltins T = some (.type Tn)) (ha : SB X e a)
    (hnT : T ≠ "__name__" := by decide) (hdT : (T == ("__debug__" : Str)) = false := by decide) (h1 : starEach [e, .Name T p2] X.env = (false, eval e X.env) :: starEach [.Name T p2] X.env := by rfl) (h2 : starEach [.Name T p2] X.env = (false, eval (.Name T p2) X.env) :: starEach [] X.env := by rfl) (hpl : (backTo pos (starEach [.Name T p2] X.env)).any (·.1) = false := by rfl) :
    SR X (.Call (.Name "isinstance" p) [e, .Name T p2] [] pos) (evIsi Tn a) := by
  have hc : CallR X (.builtin "isinstance") (fun xs H Q => ∃ φ G v d r, xs = [v, .ty Tn] ∧ Same G H ∧ OpRep X.K φ G H v d ∧ isiB Tn d = some r ∧ OkRes X.K φ G H r Q) := fun pins s σ H xs us Q I rx ⟨φ, G, v, d, r, ex, sub, o, hr, q⟩ => by
    subst ex
    obtain ⟨u1, u2, rfl, r1, r2⟩ := rx.two
    cases (show u2 = Value.type Tn from r2)
    obtain ⟨t, e1, hr⟩ := bind_some_iff hr
    obtain ⟨b, e2, hr⟩ := map_some_iff hr
    subst hr
    obtain ⟨P, Z, pz, hx⟩ := kit_D I r1 sub o e1
    exact PySem.W.kia_one Z I.kIn pz (kit_ty e2) hx fun tk => ⟨.bl b, H, I.tok tk, rfl, q G H _ (Grow.refl sub) (.fro (.bl b))⟩
  refine pe_imp (pe_callB hc hg hm (by decide +kernel) (pa_cons ha (pa_cons (pe_bltn (v := .ty Tn) hgT hmT hvT rfl hnT hdT) pa_nil h2) h1) (by decide) (by decide) h1 hpl) fun σ H Q ⟨g, G, φ, s, r, s', hK, R, he, q⟩ => ?_
  obtain ⟨⟨b, s1⟩, e1, he⟩ := bind_some_iff he
  obtain ⟨d, e2, he⟩ := bind_some_iff he
  obtain ⟨r', e3, he⟩ := map_some_iff he
  cases he
  refine ⟨g, G, φ, s, b, s1, hK, R, e1, fun G1 φ1 H1 v R1 h1 h2 x => ?_⟩
  exact ⟨φ1, G1, v, d, r, rfl, R1.sub, hK ▸ R1.fetch x e2, e3, fun G3 H3 w gr o => q G3 φ1 H3 w (R1.grow gr) (h1.trans gr.gg) h2 (ORes.res R1 gr (hK ▸ o))⟩

def mAppend : Mut1 := fun d xs => match d, xs with
  | .lst ds, [x] => if ds.length < 1000000 then some (.lst (ds ++ [x]), .non) else none
  | _, _ => none
theorem RepA.one {K : PySem.W.Frag} {φ : List Addr} {G : Hp} {vs : List V} {d : D} (h : RepA K φ G vs [d]) : ∃ v, vs = [v] ∧ Rep K φ G v d := by
  cases h with
  | cons r rs => cases rs; exact ⟨_, rfl, r⟩
theorem RepA.two {K : PySem.W.Frag} {φ : List Addr} {G : Hp} {vs : List V} {d e : D} (h : RepA K φ G vs [d, e]) : ∃ v w, vs = [v, w] ∧ Rep K φ G v d ∧ Rep K φ G w e := by
  cases h with
  | cons r rs =>
    obtain ⟨w, rfl, r2⟩ := rs.one
    exact ⟨_, w, rfl, r, r2⟩
theorem dm_append : DMut X "list.append" mAppend := fun pins s σ H x xs v us Q I rx rxs ⟨φ, G, p, o, d, ds, d', r, ex, hp, ow, gp, sub, ra, hf, q⟩ => by
  unfold mAppend at hf
  split at hf
  · split at hf
    · rename_i hl
      cases hf
      obtain ⟨y, rfl, ry⟩ := ra.one
      cases ow with
      | lst r1 =>
        have := million
        exact mt_append pins s σ H x _ v us Q I rx rxs ⟨p, _, y, ex, rfl, hp, by rw [r1.length]; omega, q _ _ (.lst (r1.append (.cons ry .nil))) .non⟩
    · cases hf
  · cases hf
def mExtend : Mut1 := fun d xs => match d, xs with
  | .lst ds, [.lst es] => if ds.length + es.length ≤ 1000000 then some (.lst (ds ++ es), .non) else none
  | _, _ => none
theorem dm_extend : DMut X "list.extend" mExtend := fun pins s σ H x xs v us Q I rx rxs ⟨φ, G, p, o, d, ds, d', r, ex, hp, ow, gp, sub, ra, hf, q⟩ => by
  unfold mExtend at hf
  split at hf
  · split at hf
    · rename_i hl
      cases hf
      obtain ⟨y, rfl, ry⟩ := ra.one
      cases ry with
      | lst s2 r2 =>
        cases ow with
        | lst r1 =>
          have := million
          exact mt_extend pins s σ H x _ v us Q I rx rxs ⟨p, _, _, _, ex, rfl, hp, sub _ _ s2, by rw [r1.length, r2.length]; omega, q _ _ (.lst (r1.append r2)) .non⟩
    · cases hf
  · cases hf
def mInsert : Mut1 := fun d xs => match d, xs with
  | .lst ds, [.int i, x] => if ds.length < 1000000 ∧ 0 ≤ i ∧ i < 1000000 then some (.lst (ds.take i.toNat ++ [x] ++ ds.drop i.toNat), .non) else none
  | _, _ => none
theorem dm_insert : DMut X "list.insert" mInsert := fun pins s σ H x xs v us Q I rx rxs ⟨φ, G, p, o, d, ds, d', r, ex, hp, ow, gp, sub, ra, hf, q⟩ => by
  unfold mInsert at hf
  split at hf
  · split at hf
    · rename_i hl
      cases hf
      obtain ⟨y, z, rfl, ry, rz⟩ := ra.two
      cases ry
      cases ow with
      | lst r1 =>
        have := million
        exact mt_insert pins s σ H x _ v us Q I rx rxs ⟨p, _, _, z, ex, rfl, hp, by rw [r1.length]; omega, hl.2.1, by omega, q _ _ (.lst (((r1.take _).append (.cons rz .nil)).append (r1.drop _))) .non⟩
    · cases hf
  · cases hf
def mPop : Mut1 := fun d xs => match d, xs with
  | .lst ds, [] => (ds[ds.length - 1]?).map fun y => (.lst ds.dropLast, y)
  | .lst ds, [.int i] => if -1000000 ≤ i ∧ i < 1000000 then (seqIndex? i ds.length).bind fun k => (ds[k]?).map fun y => (.lst (ds.eraseIdx k), y) else none
  | _, _ => none
theorem RepA.dropLast {K : PySem.W.Frag} {φ : List Addr} {G : Hp} {vs : List V} {ds : List D} (r : RepA K φ G vs ds) : RepA K φ G vs.dropLast ds.dropLast := by
  rw [List.dropLast_eq_take, List.dropLast_eq_take, r.length]
  exact r.take _
theorem RepA.eraseIdx {K : PySem.W.Frag} {φ : List Addr} {G : Hp} : ∀ {vs ds} (n : Nat), RepA K φ G vs ds → RepA K φ G (vs.eraseIdx n) (ds.eraseIdx n)
  | _, _, n, .nil => by simp; exact .nil
  | _, _, 0, .cons _ r => r
  | _, _, n + 1, .cons a r => .cons a (r.eraseIdx n)
theorem dm_pop : DMut X "list.pop" mPop := fun pins s σ H x xs v us Q I rx rxs ⟨φ, G, p, o, d, ds, d', r, ex, hp, ow, gp, sub, ra, hf, q⟩ => by
  unfold mPop at hf
  split at hf
  · obtain ⟨y, e, hf⟩ := map_some_iff hf
    cases hf
    cases ra
    cases ow with
    | lst r1 =>
      obtain ⟨w, e1, rw'⟩ := r1.get e
      rw [← r1.length] at e1
      exact mt_pop pins s σ H x _ v us Q I rx rxs ⟨p, _, w, ex, rfl, hp, e1, q _ _ (.lst r1.dropLast) rw'⟩
  · split at hf
    · rename_i hl
      obtain ⟨k, e1, hf⟩ := bind_some_iff hf
      obtain ⟨y, e, hf⟩ := map_some_iff hf
      cases hf
      obtain ⟨z, rfl, rz⟩ := ra.one
      cases rz
      cases ow with
      | lst r1 =>
        obtain ⟨w, e2, rw'⟩ := r1.get e
        rw [← r1.length] at e1
        exact mt_popAt pins s σ H x _ v us Q I rx rxs ⟨p, _, _, k, w, ex, rfl, hp, by omega, by omega, e1, e2, q _ _ (.lst (r1.eraseIdx k)) rw'⟩
    · cases hf
  · cases hf
def mClear : Mut1 := fun d xs => match d, xs with
  | .lst _, [] => some (.lst [], .non)
  | _, _ => none
theorem dm_clear : DMut X "list.clear" mClear := fun pins s σ H x xs v us Q I rx rxs ⟨φ, G, p, o, d, ds, d', r, ex, hp, ow, gp, sub, ra, hf, q⟩ => by
  unfold mClear at hf
  split at hf
  · cases hf
    cases ra
    cases ow with
    | lst r1 => exact mt_clear pins s σ H x _ v us Q I rx rxs ⟨p, _, ex, rfl, hp, q _ _ (.lst .nil) .non⟩
  · cases hf
def putD (kvs : List (D × D)) (k : Key) (v : D) : List (D × D) := if (lookK kvs k).isSome then kvs.map (fun p => if toKey p.1 = some k then (p.1, v) else p) else kvs ++ [(kD k, v)]
def putT (kvs : List (D × D)) (k : List Key) (v : D) : List (D × D) := if (lookT kvs k).isSome then kvs.map (fun p => if tupKeys p.1 = some k then (p.1, v) else p) else kvs ++ [(.tup (k.map kD), v)]
theorem OptRep.isSome {K : PySem.W.Frag} {φ : List Addr} {G : Hp} {a : Option V} {b : Option D} (h : OptRep K φ G a b) : a.isSome = b.isSome := by cases h <;> rfl
theorem RepK.append {K : PySem.W.Frag} {φ : List Addr} {G : Hp} : ∀ {vs ds ws es}, RepK K φ G vs ds → RepK K φ G ws es → RepK K φ G (vs ++ ws) (ds ++ es)
  | _, _, _, _, .nil, r => r
  | _, _, _, _, .cons a b, r => .cons a (b.append r)
theorem RepT.append {K : PySem.W.Frag} {φ : List Addr} {G : Hp} : ∀ {vs ds ws es}, RepT K φ G vs ds → RepT K φ G ws es → RepT K φ G (vs ++ ws) (ds ++ es)
  | _, _, _, _, .nil, r => r
  | _, _, _, _, .cons a b, r => .cons a (b.append r)
theorem RepK.put {K : PySem.W.Frag} {φ : List Addr} {G : Hp} {kvs : List (Key × V)} {ds : List (D × D)} {k : Key} {v : V} {d : D} (r : RepK K φ G kvs ds) (rv : Rep K φ G v d) : RepK K φ G (putK kvs k v) (putD ds k d) := by
  unfold putK putD
  rw [valV_any, (lookK_V r).isSome]
  cases (lookK ds k).isSome with
  | false => rw [if_neg Bool.false_ne_true, if_neg Bool.false_ne_true]; exact r.append (.cons rv .nil)
  | true =>
    rw [if_pos rfl, if_pos rfl]
    have all : ∀ {kvs : List (Key × V)} {ds : List (D × D)}, RepK K φ G kvs ds → RepK K φ G (kvs.map fun kv => if kv.1 = k then (kv.1, v) else kv) (ds.map fun p => if toKey p.1 = some k then (p.1, d) else p) := by
      intro kvs ds r
      induction kvs generalizing ds with
      | nil => cases r; exact .nil
      | cons p kvs ih =>
        cases r with
        | cons ra rs =>
          rename_i j w d0 ds0
          simp only [List.map_cons, toKey_kD]
          by_cases e : j = k
          · subst e
            rw [if_pos rfl, if_pos rfl]
            exact .cons rv (ih rs)
          · rw [if_neg e, if_neg (fun z => e (Option.some.inj z))]
            exact .cons ra (ih rs)
    exact all r
theorem RepT.put {K : PySem.W.Frag} {φ : List Addr} {G : Hp} {kvs : List (List Key × V)} {ds : List (D × D)} {k : List Key} {v : V} {d : D} (r : RepT K φ G kvs ds) (rv : Rep K φ G v d) : RepT K φ G (putK kvs k v) (putT ds k d) := by
  unfold putK putT
  rw [valV_any, (lookT_V r).isSome]
  cases (lookT ds k).isSome with
  | false => rw [if_neg Bool.false_ne_true, if_neg Bool.false_ne_true]; exact r.append (.cons rv .nil)
  | true =>
    rw [if_pos rfl, if_pos rfl]
    have all : ∀ {kvs : List (List Key × V)} {ds : List (D × D)}, RepT K φ G kvs ds → RepT K φ G (kvs.map fun kv => if kv.1 = k then (kv.1, v) else kv) (ds.map fun p => if tupKeys p.1 = some k then (p.1, d) else p) := by
      intro kvs ds r
      induction kvs generalizing ds with
      | nil => cases r; exact .nil
      | cons p kvs ih =>
        cases r with
        | cons ra rs =>
          rename_i j w d0 ds0
          simp only [List.map_cons, tupKeys, toKeys_kD]
          by_cases e : j = k
          · subst e
            rw [if_pos rfl, if_pos rfl]
            exact .cons rv (ih rs)
          · rw [if_neg e, if_neg (fun z => e (Option.some.inj z))]
            exact .cons ra (ih rs)
    exact all r
theorem RepT.length {K : PySem.W.Frag} {φ : List Addr} {G : Hp} : ∀ {vs ds}, RepT K φ G vs ds → vs.length = ds.length
  | _, _, .nil => rfl
  | _, _, .cons _ r => congrArg Nat.succ r.length
theorem RepA.set {K : PySem.W.Frag} {φ : List Addr} {G : Hp} {v : V} {d : D} (rv : Rep K φ G v d) : ∀ {vs ds} (n : Nat), RepA K φ G vs ds → RepA K φ G (vs.set n v) (ds.set n d)
  | _, _, _, .nil => .nil
  | _, _, 0, .cons _ r => .cons rv r
  | _, _, n + 1, .cons a r => .cons a (RepA.set rv n r)
def dSet : D → D → D → Option D := fun c k v => match c with
  | .lst ds => match k with
    | .int i => (ixN ds.length i).map fun j => .lst (ds.set j v)
    | _ => none
  | .dct false kvs => if kvs.length < 1000000 then (toKey k).map fun k => .dct false (putD kvs k v) else none
  | .dct true kvs => if kvs.length < 1000000 then (tupKeys k).map fun k => .dct true (putT kvs k v) else none
  | _ => none
theorem dset (hu : X.A.units + 100 < cLine) : DSet X dSet := fun pins s σ H o i v ov iv u Q I ro ri rv ⟨φ, G, p, ho, d, di, dv, d', ex, hp, ow, gp, sub, oi, rp, hf, q⟩ => by
  have mil := million
  subst ex
  cases ow with
  | lst r1 =>
    cases di with
    | int k =>
      obtain ⟨j, e, hf⟩ := map_some_iff (show (ixN _ k).map _ = some d' from hf)
      subst hf
      cases oi.int
      rw [← r1.length] at e
      exact set_list pins s σ H _ _ v ov iv u Q I ro ri rv ⟨p, _, k, j, rfl, rfl, hp, e, q _ (.lst (RepA.set rp j r1))⟩
    | _ => cases hf
  | dK r1 =>
    have hf : (if _ then _ else _) = some d' := hf
    split at hf
    · rename_i hl
      obtain ⟨k, e, hf⟩ := map_some_iff hf
      subst hf
      have hi : i = kV k := by
        cases oi with
        | fro r => exact toKey_V r e
        | own _ z => cases z <;> cases e
      exact set_dict (by omega) pins s σ H _ _ v ov iv u Q I ro ri rv ⟨p, _, rfl, .inl ⟨_, k, hp, hi, by rw [r1.length]; omega, rfl⟩, q _ (.dK (r1.put rp))⟩
    · cases hf
  | dT r1 =>
    have hf : (if _ then _ else _) = some d' := hf
    split at hf
    · rename_i hl
      obtain ⟨k, e, hf⟩ := map_some_iff hf
      subst hf
      cases di with
      | tup ks =>
        have rt := oi.froT
        cases rt with
        | tup st ra =>
          have := toKeys_V ra e
          subst this
          exact set_dict (by omega) pins s σ H _ _ v ov iv u Q I ro ri rv ⟨p, _, rfl, .inr ⟨_, k, _, hp, rfl, sub _ _ st, by rw [r1.length]; omega, rfl⟩, q _ (.dT (r1.put rp))⟩
      | _ => cases e
    · cases hf
/-- {} -/
def evDNew (t : Bool) : Ev RV := fun s => some (.own (.dct t []), s)
theorem sr_dnewK {pos : Pos} : SR X (.Dict [] [] pos) (evDNew false) := pe_imp pe_dnewK fun σ H Q ⟨g, G, φ, s, r, s', hK, R, he, q⟩ => by
  cases he
  intro p hp
  have gr := Grow.aside R.sub (o := .dK []) hp
  exact q G φ _ _ (R.grow gr) (Same.refl _) (List.prefix_refl _) (.own (Fresh.of_new R gr hp upd_same (R.sub.free hp) (.dK .nil)))
theorem sr_dnewT {pos : Pos} : SR X (.Dict [] [] pos) (evDNew true) := pe_imp pe_dnewT fun σ H Q ⟨g, G, φ, s, r, s', hK, R, he, q⟩ => by
  cases he
  intro p hp
  have gr := Grow.aside R.sub (o := .dT []) hp
  exact q G φ _ _ (R.grow gr) (Same.refl _) (List.prefix_refl _) (.own (Fresh.of_new R gr hp upd_same (R.sub.free hp) (.dT .nil)))
end
end Pv

namespace Pv
open PySem PySem.Spec L2
section
variable {X : Cx}
def dle (a b : D) : Bool := PySem.W.dataLe false py a b
def isNeTup : D → Bool
  | .tup (_ :: _) => true
  | _ => false
def noTup : D → Bool
  | .tup _ => false
  | .non => false
  | .dct _ _ => false
  | .hd _ => false
  | .scr _ => false
  | _ => true
def sortOk (ds : List D) : Bool := decide (ds.length ≤ 1000000) && ds.all (eqOk 40) && ds.all (fun a => ds.all fun b => PySem.W.alike (py a) (py b)) && (ds.all isNeTup || ds.all noTup)
def dSorted : OpN := fun xs => match xs with
  | [.lst ds] => if sortOk ds then some (.own (.lst (ds.mergeSort dle))) else none
  | [.tup ds] => if sortOk ds then some (.own (.lst (ds.mergeSort dle))) else none
  | _ => none
theorem each_zip : ∀ {vs : List V} {its : List Value} {ds : List D}, Vals vs its → vs.length = ds.length → PySem.W.EachIs (fun (u : Value) (b : V × D) => RelV b.1 u) its (vs.zip ds)
  | _, _, [], .nil, _ => .nil
  | _, _, _ :: _, .nil, h => by cases h
  | _, _, [], .cons _ _, h => by cases h
  | _, _, _ :: _, .cons r rs, h => .cons r (each_zip rs (Nat.succ.inj h))
theorem each_reads {K : PySem.W.Frag} {φ : List Addr} {G H : Hp} {pins : List (Addr × Obj)} {σ : L2.St} {s : Shared} (I : Inv X pins σ H s) : ∀ {vs : List V} {its : List Value} {ds : List D}, Vals vs its → RepA X.K φ H vs ds → ds.all (eqOk 40) = true →
    PySem.W.EachIs (fun (u : Value) (b : V × D) => ∃ as, Reads s.heap u (py b.2) as) its (vs.zip ds)
  | _, _, _, .nil, .nil, _ => .nil
  | _, _, _, .cons r rs, .cons p ps, h => by
    rw [List.all_cons, Bool.and_eq_true] at h
    exact .cons (Dp.reads I _ _ _ (rep_dp 40 h.1 p) r) (each_reads (K := K) (G := G) I rs ps h.2)
theorem each_vals : ∀ {out : List Value} {bs : List (V × D)}, PySem.W.EachIs (fun (u : Value) (b : V × D) => RelV b.1 u) out bs → Vals (bs.map (·.1)) out
  | _, _, .nil => .nil
  | _, _, .cons r rs => .cons r (each_vals rs)
theorem repA_pairs {K : PySem.W.Frag} {φ : List Addr} {G : Hp} : ∀ {bs : List (V × D)}, (∀ b ∈ bs, Rep K φ G b.1 b.2) → RepA K φ G (bs.map (·.1)) (bs.map (·.2))
  | [], _ => .nil
  | b :: bs, h => .cons (h b List.mem_cons_self) (repA_pairs fun c hc => h c (List.mem_cons_of_mem _ hc))
theorem RepA.zip {K : PySem.W.Frag} {φ : List Addr} {G : Hp} : ∀ {vs : List V} {ds : List D}, RepA K φ G vs ds → ∀ b ∈ vs.zip ds, Rep K φ G b.1 b.2
  | _, _, .nil, _, h => by simp at h
  | _, _, .cons r rs, b, h => by
    rw [List.zip_cons_cons] at h
    rcases List.mem_cons.mp h with e | e
    · subst e; exact r
    · exact rs.zip b e
theorem py_tup_cons {d : D} (h : isNeTup d = true) : ∃ x r, py d = .tuple (x :: r) := by
  cases d with
  | tup xs =>
    cases xs with
    | nil => cases h
    | cons x r => exact ⟨py x, pyAll r, by rw [py, pyAll]⟩
  | _ => cases h
theorem py_noTup {d : D} (h : noTup d = true) : py d ≠ .none ∧ ∀ xs, py d ≠ .tuple xs := by
  cases d with
  | bl b => rw [py]; exact ⟨by simp, by simp⟩
  | int b => rw [py]; exact ⟨by simp, by simp⟩
  | str b => rw [py]; exact ⟨by simp, by simp⟩
  | lst b => rw [py]; exact ⟨by simp, by simp⟩
  | _ => cases h
section
open PyProof.Rows PySem.Calls PySem.W
variable {pr : Program} {wd : World} {B : Around} {Er : Value → Shared → Prop} {t : Shared}
/-- the items of a tuple, laid into a list -/
theorem collect_tup {c : Addr} {us : List Value} {R : List Value → Shared → Prop} (hc : IsTup t.heap c us.toArray) (hz : us.length ≤ sizeLine)
    (k : R us { t with heap := (t.heap.push (seqObj "list" #[] 0)).update t.heap.objs.size (Obj.mapSeq (· ++ us.toArray)) }) : wpAny (model pr wd) B (collect (.ref c)) R Er t := by
  obtain ⟨ob, h1, h2, n, h3⟩ := id hc
  have fresh0 := Heap.get?_push_size t.heap (o := seqObj "list" #[] 0) rfl
  have old0 : (t.heap.push (seqObj "list" #[] 0)).get? c = some ob := Heap.get?_push_of_some _ h1
  have e0 : ((#[] : Array Value) ++ us.toArray).toList = us := by simp
  unfold collect
  refine wpAny_bind (wpAny_runValue (codeAny_builtin entry_proto_collect' (show wpAny _ _ (newList [] >>= fun z => again (.builtin "list.__iadd__" ⟨[z, .ref c], []⟩)) _ _ t from ?_)))
  refine wpAny_bind (wpAny_newList (wpAny_pure ⟨Code.quiet_builtin _ (by decide +kernel), codeAny_builtin entry_list_iadd' ?_⟩))
  show wpAny _ _ (Builtin.List.listExtendWith _ (.ref c) _) _ _ { t with heap := t.heap.push (seqObj "list" #[] 0) }
  unfold Builtin.List.listExtendWith
  refine wpAny_bind (wpAny_typeOf (T := "tuple") ⟨ob, old0, h2⟩ ?_)
  rw [if_pos (by simp)]
  refine wpAny_bind (listItems_at old0 h3 (wpAny_bind (listItems_at (xs := #[]) (n := 0) fresh0 rfl ?_)))
  rw [if_neg (by simp)]
  have z2 : ((#[] : Array Value) ++ us.toArray).size ≤ sizeLine + 1 := by rw [Array.size_append, List.size_toArray]; simp; omega
  refine wpAny_bind (listUpdate_at (xs := #[]) (n := 0) fresh0 rfl (wpAny_pure ?_) (Nat.zero_le _) z2)
  show wpAny (model pr wd) B (load t.heap.objs.size >>= fun ob => match ob.data with
      | .seq ys _ => pure ys.toList
      | _ => unsupported "internal:collect") R Er _
  refine wpAny_bind (wpAny_load (get?_update_seq fresh0 _) ?_)
  show wpAny _ _ (pure ((#[] : Array Value) ++ us.toArray).toList) R Er _
  rw [e0]
  exact wpAny_pure k
theorem sorted_tupD {c : Addr} {β : Type} {us : List Value} {bs : List β} {enc : β → PyData} {R : Value → β → Prop} {Q : Value → Shared → Prop} (hc : IsTup t.heap c us.toArray) (e : PySem.W.EachIs R us bs) (er : PySem.W.EachIs (fun u b => ∃ as, Reads t.heap u (enc b) as) us bs)
    (hal : PySem.W.AllAlike (bs.map enc)) (hk : PySem.W.Sortable (bs.map enc)) (hL : bs.length ≤ sizeLine) (hu : ∀ b ∈ bs, B.units + 2 + (enc b).depth < cLine)
    (k : ∀ out : List Value, out.length = bs.length → PySem.W.EachIs R out (bs.mergeSort (PySem.W.dataLe false enc)) → Q (.ref (t.heap.objs.size + 1)) { t with heap := sortedAll t.heap us out.toArray }) :
    wpAny (model pr wd) B (PySem.call (.builtin "sorted") [.ref c]) Q Er t := by
  have hl : us.length ≤ sizeLine := by rw [e.length]; exact hL
  have er' : PySem.W.EachIs (fun u b => ∃ as, Reads (sortingHeap (copyHeap t.heap us) (t.heap.objs.size + 1) us) u (enc b) as) us bs := er.mono fun _ _ ⟨as, r⟩ => ⟨as, PyProof.Rows.Reads.keeps (fun _ _ => sorting_copy_old) r⟩
  have S := PySem.W.SortsAt.data (prog := pr) (w := wd) (A := B.in1.in1) (s := { t with heap := sortingHeap (copyHeap t.heap us) (t.heap.objs.size + 1) us }) (PySem.W.each_map (R := fun u d => ∃ as, Reads (sortingHeap (copyHeap t.heap us) (t.heap.objs.size + 1) us) u d as) enc er') hal hk (PySem.W.bound_map (A := B.in1.in1) hu)
  have fin := k _ (by rw [PySem.W.sortVals_length false rfl]; exact e.length) (PySem.W.sortVals_data false e er' hal)
  refine call_function_entry_kw kind_sorted plain_sorted entry_sorted (args_sorted1 _) ?_
  unfold Builtin.«sorted»
  refine wpAny_bind (m := checkCount "sorted" 1 1 _) (wpAny_pure (wpAny_bind (collect_tup hc hl (wpAny_bind (wpAny_newList ?_ hl)))))
  have sz : ((t.heap.push (seqObj "list" #[] 0)).update t.heap.objs.size (Obj.mapSeq (· ++ us.toArray))).objs.size = t.heap.objs.size + 1 := by rw [Heap.size_update, size_push']
  show wpAny _ B.in1 _ _ _ { t with heap := copyHeap t.heap us }
  rw [sz]
  refine wpAny_bind (wpAny_holding (wpAny_call_entry_kw slot_list_sort ⟨_, copyHeap_at t.heap us, rfl⟩ entry_list_sort ?go (args_list_sort _)))
  case go =>
    refine wpAny_mono (PySem.W.list_sort_vals (s := { t with heap := copyHeap t.heap us }) (P := fun f s' => f = .done (.ret .none) ∧ Q (.ref (t.heap.objs.size + 1)) s') (copyHeap_at t.heap us) S hl ⟨rfl, fin⟩) (fun f s' hf => ?_) fun _ _ z => z
    obtain ⟨rfl, hq⟩ := hf
    exact ⟨_, rfl, wpAny_pure ⟨_, rfl, hq⟩⟩
end
theorem sorted_core (hu : X.A.units + 100 < cLine) {φ : List Addr} {G H : Hp} {pins : List (Addr × Obj)} {σ : L2.St} {s : Shared} {Q : VK} {a : Addr} {vs : List V} {ds : List D} (I : Inv X pins σ H s) (sub : Same G H) (s1 : H a = some (.lst vs) ∨ H a = some (.tup vs)) (r1 : RepA X.K φ G vs ds) (hk : sortOk ds = true)
    (q : OkRes X.K φ G H (.own (.lst (ds.mergeSort dle))) Q) : wpAny (model X.prog X.w) X.A (PySem.call (.builtin "sorted") [.ref a]) (EP X pins σ Q) X.xe s := by
  have mil := million
  unfold sortOk at hk
  simp only [Bool.and_eq_true, decide_eq_true_eq] at hk
  obtain ⟨⟨⟨h1, h2⟩, h3⟩, h4⟩ := hk
  obtain ⟨its, rv, pl⟩ : ∃ its : List Value, Vals vs its ∧ (s.heap.IsList a its.toArray ∨ PyProof.Rows.IsTup s.heap a its.toArray) := by
    rcases s1 with s1 | s1
    · obtain ⟨its, rv, pl, hz⟩ := I.list (SqL.of s1)
      exact ⟨its, rv, .inl pl.isList⟩
    · obtain ⟨its, rv, pl, hz⟩ := I.tuple (SqT.of s1)
      exact ⟨its, rv, .inr pl⟩
  have hlen := r1.length
  have hsnd : (vs.zip ds).map (fun b => b.2) = ds := List.map_snd_zip (by omega)
  have hmap : (vs.zip ds).map (fun b => py b.2) = ds.map py := by
    have := congrArg (List.map py) hsnd
    rw [List.map_map] at this
    exact this
  have al : PySem.W.AllAlike ((vs.zip ds).map fun b => py b.2) := by
    rw [hmap]
    intro d hd d' hd'
    obtain ⟨x, hx, rfl⟩ := List.mem_map.mp hd
    obtain ⟨y, hy, rfl⟩ := List.mem_map.mp hd'
    exact List.all_eq_true.mp (List.all_eq_true.mp h3 x hx) y hy
  have so : PySem.W.Sortable ((vs.zip ds).map fun b => py b.2) := by
    rw [hmap]
    rw [Bool.or_eq_true] at h4
    rcases h4 with h4 | h4
    · refine .inl fun d hd => ?_
      obtain ⟨x, hx, rfl⟩ := List.mem_map.mp hd
      exact py_tup_cons (List.all_eq_true.mp h4 x hx)
    · refine .inr fun d hd => ?_
      obtain ⟨x, hx, rfl⟩ := List.mem_map.mp hd
      exact py_noTup (List.all_eq_true.mp h4 x hx)
  have hlz : (vs.zip ds).length = ds.length := by rw [List.length_zip]; omega
  have bd : ∀ b ∈ vs.zip ds, X.A.units + 2 + (py b.2).depth < cLine := fun b hb => by
    have hm : b.2 ∈ ds := (List.of_mem_zip hb).2
    have := (eqOk_py 40 b.2 (List.all_eq_true.mp h2 _ hm)).2
    omega
  suffices fin : ∀ out : List Value, out.length = (vs.zip ds).length → PySem.W.EachIs (fun (u : Value) (b : V × D) => RelV b.1 u) out ((vs.zip ds).mergeSort (PySem.W.dataLe false fun b => py b.2)) →
      EP X pins σ Q (.ref (s.heap.objs.size + 1)) { s with heap := PyProof.Rows.sortedAll s.heap its out.toArray } by
    rcases pl with pl | pl
    · exact PySem.W.sorted_data (β := V × D) (enc := fun b => py b.2) (R := fun (u : Value) (b : V × D) => RelV b.1 u) (bs := vs.zip ds) (vs := its) pl (each_zip rv hlen) (each_reads (K := X.K) (G := G) (φ := φ) I rv (r1.mono sub (List.prefix_refl _)) h2) al so (by omega) bd fin
    · exact sorted_tupD (β := V × D) (enc := fun b => py b.2) (R := fun (u : Value) (b : V × D) => RelV b.1 u) (bs := vs.zip ds) pl (each_zip rv hlen) (each_reads (K := X.K) (G := G) (φ := φ) I rv (r1.mono sub (List.prefix_refl _)) h2) al so (by omega) bd fin
  intro out ho he
  · have hsort : ((vs.zip ds).mergeSort (PySem.W.dataLe false fun b => py b.2)).map (fun b => b.2) = ds.mergeSort dle := by
      have := PySem.W.sort_maps (r := PySem.W.dataLe false fun b : V × D => py b.2) (s := dle) (fun b : V × D => b.2) (l := vs.zip ds) (fun _ _ _ _ => rfl)
      rw [this, hsnd]
    have ra : RepA X.K φ G (((vs.zip ds).mergeSort (PySem.W.dataLe false fun b => py b.2)).map (·.1)) (ds.mergeSort dle) := by
      rw [← hsort]
      exact repA_pairs fun b hb => r1.zip b (List.mem_mergeSort.mp hb)
    obtain ⟨ep, he'⟩ := PyProof.Rows.sortedAll_at s.heap its out.toArray
    have fr : H (s.heap.objs.size + 1) = none := I.hok.fresh (Nat.le_succ _)
    refine ⟨.ref _, upd H (s.heap.objs.size + 1) (.lst _), I.laid (t' := s.toks) (fun _ _ => PyProof.Rows.sortedAll_old) (Nat.le_succ _) ⟨?_, out, ep, each_vals he, he'⟩, rfl, q _ _ _ (Grow.aside sub fr) (.own fr upd_same (sub.free fr) (.lst ra))⟩
    rw [ra.length, List.length_mergeSort]
    omega
theorem dcall_sorted (hu : X.A.units + 100 < cLine) : DCall X (.builtin "sorted") dSorted := fun pins s σ H xs us Q I rx ⟨φ, G, ds, r, sub, hx, hf, q⟩ => by
  unfold dSorted at hf
  split at hf
  · split at hf
    · rename_i hk
      cases hf
      obtain ⟨v, rfl, o⟩ := hx.one
      obtain ⟨a, vs, rfl, s1, r1⟩ := o.lst sub
      obtain ⟨u, rfl, ru⟩ := rx.one
      cases ru
      exact sorted_core hu I sub (.inl s1) r1 hk q
    · cases hf
  · split at hf
    · rename_i hk
      cases hf
      obtain ⟨v, rfl, o⟩ := hx.one
      obtain ⟨a, vs, rfl, s1, r1⟩ := o.tup sub
      obtain ⟨u, rfl, ru⟩ := rx.one
      cases ru
      exact sorted_core hu I sub (.inr s1) r1 hk q
    · cases hf
  · cases hf
mutual
/-- how long a text may come of it -/
def szB : D → Nat
  | .int i => (toString i).length
  | .str x => (reprText x).length
  | .tup xs => 4 + szBs xs
  | .lst xs => 4 + szBs xs
  | _ => 5
def szBs : List D → Nat
  | [] => 0
  | x :: xs => szB x + 2 + szBs xs
end
def reprD (d : D) : Str := (py d).shown
def rpOk (d : D) : Bool := eqOk 40 d && (py d).showable && decide ((py d).shown.length ≤ 1000000)
def dRepr : OpN := fun xs => match xs with
  | [d] => if rpOk d then some (.fro (.str (reprD d))) else none
  | _ => none
theorem dcall_repr (hu : X.A.units + 100 < cLine) (hg : X.A.guards = some []) : DCall X (.builtin "repr") dRepr := fun pins s σ H xs us Q I rx ⟨φ, G, ds, r, sub, hx, hf, q⟩ => by
  have mil := million
  unfold dRepr at hf
  split at hf
  · split at hf
    · rename_i d hk
      cases hf
      unfold rpOk at hk
      simp only [Bool.and_eq_true, decide_eq_true_eq] at hk
      obtain ⟨⟨h1, h2⟩, h3⟩ := hk
      obtain ⟨v, rfl, o⟩ := hx.one
      obtain ⟨u, rfl, ru⟩ := rx.one
      obtain ⟨as, rd⟩ := Dp.reads I _ _ _ (rep_dp 40 h1 (o.rep sub)) ru
      obtain ⟨hl, hd⟩ := eqOk_py 40 d h1
      have hz : (py d).shown.length ≤ sizeLine := by omega
      have qq : ∀ (h' : Heap) (u : Tok) (tk : Nat), (∀ b o, s.heap.get? b = some o → h'.get? b = some o) → EP X pins σ Q (.str (py d).shown u) { s with heap := h', toks := tk } := fun h' u tk hk =>
        ⟨.str _, H, I.kept hk, ⟨u, rfl⟩, q G H _ (Grow.refl sub) (.fro (.str _))⟩
      have same : EP X pins σ Q (.str (py d).shown s.toks) { s with toks := s.toks + 1 } := qq s.heap _ _ fun _ _ e => e
      cases d with
      | non => cases rd; exact PySem.P.repr_of_none same
      | bl b => cases rd; exact PySem.P.repr_of_bool same
      | int i =>
        cases rd
        exact PySem.P.repr_of_int (by simpa [py, PyData.showable] using h2) same
      | str x => cases rd; exact PySem.P.repr_of_str same hz
      | tup ds =>
        obtain ⟨a, vs, rfl, s1, r1⟩ := o.tup sub
        cases ru
        exact repr_of_reads' rd h2 (PyData.noDict_hsm (PyData.hasDict_of_canLay _ hl)) hg (by omega) (fun _ _ e => e) qq hz
      | lst ds =>
        obtain ⟨a, vs, rfl, s1, r1⟩ := o.lst sub
        cases ru
        exact repr_of_reads' rd h2 (PyData.noDict_hsm (PyData.hasDict_of_canLay _ hl)) hg (by omega) (fun _ _ e => e) qq hz
      | dct t k => simp [eqOk] at h1
      | hd n => simp [eqOk] at h1
      | scr n => simp [eqOk] at h1
    · cases hf
  · cases hf

def dSeq : D → Option (List D)
  | .lst ds => some ds
  | .tup ds => some ds
  | _ => none
def evItS (a : Ev RV) : Ev (List D) := fun s => (a s).bind fun p => (dSeq p.1.d).map fun ds => (ds, p.2)
theorem si_seq {tg e : Expr} {a : Ev RV} (h : SR X e a) : SI X tg e (evItS a) := ⟨fun pins s σ H R' I ⟨g, G, φ, s0, ds, s', hK, R, he, q⟩ => by
  obtain ⟨⟨p1, p2⟩, e1, he⟩ := bind_some_iff he
  obtain ⟨ds', e2, he⟩ := map_some_iff he
  cases he
  let Q : VK := fun v H1 => ∃ G1 φ1, Rel g G1 φ1 p2 σ H1 ∧ Same G G1 ∧ φ <+: φ1 ∧ Rep g.K φ1 G1 v p1.d
  refine thn (h.run pins s σ H Q I ⟨g, G, φ, s0, p1, p2, hK, R, e1, fun G1 φ1 H1 v R1 h1 h2 x => ?_⟩) fun v s1 ⟨x, H1, I1, rv, G1, φ1, R1, h1, h2, rp⟩ => ?_
  · obtain ⟨G2, R2, h3, rp⟩ := x.froz R1
    exact ⟨G2, φ1, R2, h1.trans h3, h2, rp⟩
  · have free : ∀ b ∈ [s1.heap.objs.size], FpOk X pins H1 b := fun b hb => by
      rw [List.mem_singleton.mp hb]
      exact I1.fpOk (Nat.le_refl _) I1.fresh
    cases hd : p1.d with
    | lst ds0 =>
      rw [hd] at rp e2
      cases e2
      cases rp with
      | lst st ra =>
        cases rv
        have sq : SqL X.K H1 _ _ := SqL.of (R1.sub _ _ st)
        obtain ⟨its, _, pl, _⟩ := I1.list sq
        refine wpAny_pyIter_list pl.isList ⟨_, [s1.heap.objs.size], _, Itl X.K _, H1, rfl, I1.kept (t' := s1.toks) (fun b o z => Heap.get?_push_of_some _ z), turn_list _ _, ⟨_, Heap.get?_push_size _ rfl, rfl, rfl⟩, free, ?_⟩
        exact q _ G1 φ1 H1 R1 h1 h2 (hK ▸ itOk_list (SqL.of st) (hK ▸ ra))
    | tup ds0 =>
      rw [hd] at rp e2
      cases e2
      cases rp with
      | tup st ra =>
        cases rv
        have sq : SqT X.K H1 _ _ := SqT.of (R1.sub _ _ st)
        obtain ⟨its, _, pl, _⟩ := I1.tuple sq
        refine wpAny_pyIter_tuple (show s1.heap.IsTuple _ its.toArray from pl) ⟨_, [s1.heap.objs.size], _, Itt X.K _, H1, rfl, I1.kept (t' := s1.toks) (fun b o z => Heap.get?_push_of_some _ z), turn_tuple _ _, ⟨_, Heap.get?_push_size _ rfl, rfl, rfl⟩, free, ?_⟩
        exact q _ G1 φ1 H1 R1 h1 h2 (hK ▸ itOk_tup (SqT.of st) (hK ▸ ra))
    | _ => rw [hd] at e2; cases e2⟩
/-- pairs, each a new tuple -/
def pairUp : List D → List D → List D
  | x :: xs, y :: ys => .tup [x, y] :: pairUp xs ys
  | _, _ => []
theorem pairUp_get : ∀ {xs ys : List D} {i : Nat} {d : D}, (pairUp xs ys)[i]? = some d → ∃ x y, xs[i]? = some x ∧ ys[i]? = some y ∧ d = .tup [x, y]
  | [], _, i, d, h => by simp [pairUp] at h
  | _ :: _, [], i, d, h => by simp [pairUp] at h
  | x :: xs, y :: ys, 0, d, h => by simp [pairUp] at h; exact ⟨x, y, rfl, rfl, h.symm⟩
  | x :: xs, y :: ys, i + 1, d, h => by
    obtain ⟨a, b, e1, e2, e3⟩ := pairUp_get (xs := xs) (ys := ys) (i := i) (by simpa [pairUp] using h)
    exact ⟨a, b, by simpa using e1, by simpa using e2, e3⟩
theorem pairUp_len : ∀ xs ys : List D, (pairUp xs ys).length = min xs.length ys.length
  | [], ys => by simp [pairUp]
  | _ :: _, [] => by simp [pairUp]
  | x :: xs, y :: ys => by
    rw [pairUp, List.length_cons, pairUp_len xs ys, List.length_cons, List.length_cons]
    omega
/-- a walk that yields new pairs -/
theorem itOk_pairs {K : PySem.W.Frag} {φ : List Addr} {G : Hp} {J : It} {Gd : Hp → Prop} {xs ys : List V} {ds es : List D} (w : L2.Walk J (pairUp ds es).length Gd (YPair (fun i => xs[i]?) fun i => ys[i]?)) (gd : ∀ Gc Hc, Same G Gc → Same Gc Hc → Gd Hc) (r1 : RepA K φ G xs ds) (r2 : RepA K φ G ys es) : ItOk K φ G J (pairUp ds es) := by
  refine ⟨fun Gc φc Hc h1 h2 h3 i hi => w.goes i Hc hi (gd Gc Hc h1 h3), fun Gc φc Hc h1 h2 h3 => w.stops Hc (gd Gc Hc h1 h3), fun Gc φc Hc h1 h2 h3 i d x H' hd hy => ?_⟩
  have hi := (List.getElem?_eq_some_iff.mp hd).1
  obtain ⟨T, a, b, rfl, nT, rfl, e1, e2⟩ := w.yields i Hc x H' hi (gd Gc Hc h1 h3) hy
  obtain ⟨p, q, f1, f2, rfl⟩ := pairUp_get hd
  obtain ⟨a', g1, ra⟩ := r1.get f1
  obtain ⟨b', g2, rb⟩ := r2.get f2
  have g1 : some a' = some a := g1.symm.trans e1
  have g2 : some b' = some b := g2.symm.trans e2
  cases g1
  cases g2
  have gr := Grow.laid h3 (o := .tup [a, b]) nT
  exact ⟨_, gr, .tup upd_same (.cons (ra.mono (h1.trans gr.gg) h2) (.cons (rb.mono (h1.trans gr.gg) h2) .nil))⟩
def dZip : List D → Option (List D)
  | [.lst xs, .lst ys] => some (pairUp xs ys)
  | [.tup xs, .tup ys] => some (pairUp xs ys)
  | _ => none
def evArgs (f : List D → Option (List D)) (a : Ev (List D)) : Ev (List D) := fun s => (a s).bind fun p => (f p.1).map fun ds => (ds, p.2)
theorem si_zip {a b : Expr} {ta : Ev (List D)} {p pos tpos : Pos} {elts : List Expr} {kk : Nat} (hg : Gl X "zip") (hm : X.mg "zip" = none) (ha : SA X [a, b] ta) (hs : starEach [a, b] X.env = (false, eval a X.env) :: starEach [b] X.env := by rfl) (hpl : (backTo pos (starEach [b] X.env)).any (·.1) = false := by rfl) :
    SI X (.Tuple elts kk tpos) (.Call (.Name "zip" p) [a, b] [] pos) (evArgs dZip ta) := pi_imp (RZ.pi_zipA hg hm ha hs hpl) fun σ H R' ⟨g, G, φ, s, ds, s', hK, R, he, q⟩ => by
  obtain ⟨⟨as, s1⟩, e1, he⟩ := bind_some_iff he
  obtain ⟨ds2, e2, he⟩ := map_some_iff he
  cases he
  refine ⟨g, G, φ, s, as, s1, hK, R, e1, fun G1 φ1 H1 vs R1 h1 h2 ra => ?_⟩
  have e2 : dZip as = some _ := e2
  unfold dZip at e2
  split at e2
  · cases e2
    obtain ⟨v, w, rfl, r1, r2⟩ := ra.two
    cases r1 with
    | lst s1' a1 =>
      cases r2 with
      | lst s2' a2 =>
        refine ⟨_, _, _, _, rfl, .inl ⟨SqL.of (R1.sub _ _ s1'), SqL.of (R1.sub _ _ s2'), q _ G1 φ1 H1 R1 h1 h2 ?_⟩⟩
        exact itOk_pairs (Gd := fun H => SqL X.K H _ _ ∧ SqL X.K H _ _) (walk_zip (by rw [pairUp_len, a1.length, a2.length])) (fun Gc Hc g1 g2 => ⟨SqL.of (g2 _ _ (g1 _ _ s1')), SqL.of (g2 _ _ (g1 _ _ s2'))⟩) a1 a2
  · cases e2
    obtain ⟨v, w, rfl, r1, r2⟩ := ra.two
    cases r1 with
    | tup s1' a1 =>
      cases r2 with
      | tup s2' a2 =>
        refine ⟨_, _, _, _, rfl, .inr ⟨SqT.of (R1.sub _ _ s1'), SqT.of (R1.sub _ _ s2'), q _ G1 φ1 H1 R1 h1 h2 ?_⟩⟩
        refine itOk_pairs (Gd := fun H => SqT X.K H _ _ ∧ SqT X.K H _ _) ⟨fun i H hi q => ?_, fun H q => ⟨_, _, q.1, q.2, ?_⟩, fun i H v H' hi q y => ?_⟩ (fun Gc Hc g1 g2 => ⟨SqT.of (g2 _ _ (g1 _ _ s1')), SqT.of (g2 _ _ (g1 _ _ s2'))⟩) a1 a2
        · rw [pairUp_len, ← a1.length, ← a2.length] at hi
          exact ⟨_, _, _, _, q.1, q.2, List.getElem?_eq_getElem (by omega), List.getElem?_eq_getElem (by omega)⟩
        · rw [pairUp_len, ← a1.length, ← a2.length]; omega
        · obtain ⟨T, x, z, g1, g2, g3, g4, g5⟩ := y
          exact ⟨T, x, z, g1, g2, g3, g4 _ q.1, g5 _ q.2⟩
  · cases e2
def dEnum : List D → Option (List D)
  | [.lst xs] => some (pairUp (upTo 0 xs.length) xs)
  | _ => none
theorem repA_upTo {K : PySem.W.Frag} {φ : List Addr} {G : Hp} (n : Nat) : RepA K φ G ((List.range n).map fun i => V.int (0 + (i : Nat))) (upTo 0 n) := by
  unfold upTo
  have : ∀ l : List Nat, RepA K φ G (l.map fun i => V.int (0 + (i : Nat))) (l.map fun i => D.int (0 + (i : Nat))) := by
    intro l
    induction l with
    | nil => exact .nil
    | cons x l ih => exact .cons (.int _) ih
  exact this _
theorem dEnum_some {as r : List D} (h : dEnum as = some r) : ∃ xs, as = [.lst xs] ∧ r = pairUp (upTo 0 xs.length) xs := by
  unfold dEnum at h
  split at h
  · cases h; exact ⟨_, rfl, rfl⟩
  · cases h
theorem si_enum {a : Expr} {ta : Ev (List D)} {p pos tpos : Pos} {elts : List Expr} {kk : Nat} (hg : Gl X "enumerate") (hm : X.mg "enumerate" = none) (ha : SA X [a] ta) (hs : starEach [a] X.env = [(false, eval a X.env)] := by rfl) :
    SI X (.Tuple elts kk tpos) (.Call (.Name "enumerate" p) [a] [] pos) (evArgs dEnum ta) := pi_imp (pi_enum hg hm ha hs) fun σ H R' ⟨g, G, φ, s, ds, s', hK, R, he, q⟩ => by
  obtain ⟨⟨as, s1⟩, e1, he⟩ := bind_some_iff he
  obtain ⟨ds2, e2, he⟩ := map_some_iff he
  cases he
  refine ⟨g, G, φ, s, as, s1, hK, R, e1, fun G1 φ1 H1 vs R1 h1 h2 ra => ?_⟩
  obtain ⟨xs', rfl, rfl⟩ := dEnum_some (show dEnum as = some _ from e2)
  obtain ⟨v, rfl, r1⟩ := ra.one
  cases r1 with
  | lst s1' a1 =>
    rename_i vs0
    refine ⟨_, _, rfl, SqL.of (R1.sub _ _ s1'), q _ G1 φ1 H1 R1 h1 h2 ?_⟩
    have hl : (pairUp (upTo 0 xs'.length) xs').length = xs'.length := by rw [pairUp_len]; unfold upTo; simp
    refine itOk_pairs (Gd := fun H => SqL X.K H _ vs0) ⟨fun i H hi q => ?_, fun H q => ?_, fun i H v H' hi q y => ?_⟩ (fun Gc Hc g1 g2 => SqL.of (g2 _ _ (g1 _ _ s1'))) (repA_upTo xs'.length) a1
    · rw [hl, ← a1.length] at hi
      exact ⟨_, _, q, List.getElem?_eq_getElem hi⟩
    · exact ⟨_, q, by rw [hl, a1.length]; exact Nat.le_refl _⟩
    · obtain ⟨T, x, g1, g2, g3, g4⟩ := y
      refine ⟨T, _, x, g1, g2, g3, ?_, g4 _ q⟩
      rw [hl] at hi
      show ((List.range xs'.length).map fun i => V.int (0 + (i : Nat)))[i]? = _
      rw [List.getElem?_map, List.getElem?_range hi]
      simp
end
end Pv

namespace Pv
open PySem PySem.Spec L2
theorem bb_len : bootBuiltins "len" = some (.builtin "len") := by decide +kernel
theorem bb_sum : bootBuiltins "sum" = some (.builtin "sum") := by decide +kernel
theorem bb_max : bootBuiltins "max" = some (.builtin "max") := by decide +kernel
theorem bb_min : bootBuiltins "min" = some (.builtin "min") := by decide +kernel
theorem bb_all : bootBuiltins "all" = some (.builtin "all") := by decide +kernel
theorem bb_any : bootBuiltins "any" = some (.builtin "any") := by decide +kernel
theorem bb_sorted : bootBuiltins "sorted" = some (.builtin "sorted") := by decide +kernel
theorem bb_repr : bootBuiltins "repr" = some (.builtin "repr") := by decide +kernel
theorem bb_list : bootBuiltins "list" = some (.type "list") := by decide +kernel
theorem bb_tuple : bootBuiltins "tuple" = some (.type "tuple") := by decide +kernel
theorem bb_int : bootBuiltins "int" = some (.type "int") := by decide +kernel
theorem bb_bool : bootBuiltins "bool" = some (.type "bool") := by decide +kernel
theorem bb_str : bootBuiltins "str" = some (.type "str") := by decide +kernel
theorem bb_dict : bootBuiltins "dict" = some (.type "dict") := by decide +kernel
/-- nothing is promised -/
theorem fn_void {P : Program} {w : World} {K : PySem.W.Frag} {mg : Str → Option Value} {base : Heap} {k n : Nat} {f : Addr} {fd : FuncData} {ps : List Str} : FnG P w K mg base CX0 k f fd ps (spF K n fun _ _ => none) :=
  ⟨fun vs H Q E h => (by obtain ⟨_, _, _, _, _, _, _, _, _, _, h, _⟩ := h; cases h), fun A outer s H args us vs Q E _ _ _ _ h => (by obtain ⟨_, _, _, _, _, _, _, _, _, _, h, _⟩ := h; cases h)⟩
end Pv

namespace Pv
open PySem PySem.Spec L2
section
variable {g : Gh} {G : Hp} {φ : List Addr} {s : Sg} {σ : St} {H : Hp}
/-- a fresh thing becomes a cell -/
theorem Rel.promote {p : Addr} {o : HO} {d : D} (R : Rel g G φ s σ H) (F : Fresh g G φ s σ H p o d) : Rel g G (φ ++ [p]) { s with st := s.st ++ [.d d] } σ H ∧ Rep g.K (φ ++ [p]) G (.ref p) (.hd s.st.length) := by
  have pf : φ <+: φ ++ [p] := List.prefix_append _ _
  refine ⟨⟨R.sub, R.g0, R.new, R.old, R.use, R.zed, R.pre.trans pf, R.len, fun i x e => ?_, fun i x e => ?_, R.sep, by simp [R.clen], fun n a c a1 a2 => ?_, ?_⟩, .hd (by rw [R.clen, List.getElem?_append_right (Nat.le_refl _)]; simp)⟩
  · obtain ⟨v, h1, h2⟩ := R.fro i x e
    exact ⟨v, h1, h2.mono (Same.refl _) pf⟩
  · obtain ⟨q, u, b1, b2, b3, b4, b5, b6, b7⟩ := R.own i x e
    refine ⟨q, u, b1, b2, b3.mono (Same.refl _) pf, b4, b5, b6, fun hm => ?_⟩
    rcases List.mem_append.mp hm with hm | hm
    · exact b7 hm
    · rw [List.mem_singleton] at hm
      subst hm
      exact F.sl i x e b1
  · by_cases hn : n < φ.length
    · rw [List.getElem?_append_left hn] at a1
      rw [List.getElem?_append_left (by rw [R.clen]; exact hn)] at a2
      obtain ⟨u, b1, b2, b3, b4, b5⟩ := R.cell n a c a1 a2
      exact ⟨u, b1, b2.mono (Same.refl _) pf, b3, b4, b5⟩
    · have hl : n = φ.length := by
        have := (List.getElem?_eq_some_iff.mp a1).1
        simp at this
        omega
      subst hl
      rw [List.getElem?_append_right (Nat.le_refl _)] at a1
      rw [← R.clen, List.getElem?_append_right (Nat.le_refl _)] at a2
      simp at a1 a2
      subst a1 a2
      exact ⟨o, F.at_, .d (F.own.mono (Same.refl _) pf), F.gp, F.fp, .inr F.up⟩
  · refine List.nodup_append.mpr ⟨R.nd, by simp, fun a h1 b h2 e => ?_⟩
    rw [List.mem_singleton] at h2
    subst h2 e
    exact F.ph h1
end
def evSetC (i : Nat) (a : Ev RV) : Ev Out := fun s => (a s).bind fun p => match p.1 with
  | .own d => some (.nx, ⟨p.2.env.set i (.fro (.hd p.2.st.length)), p.2.st ++ [.d d]⟩)
  | .fro _ => none
theorem setC_core {K : PySem.W.Frag} {i : Nat} {va : Ev RV} {E : Ends} {σ : St} {H : Hp} (h : tS K (evSetC i va) E σ H) : tAsg (tR K va) (gName i) E σ H := by
  obtain ⟨g, G, φ, s, o, s', hK, R, he, q⟩ := h
  obtain ⟨⟨r, s1⟩, e1, he⟩ := bind_some_iff he
  cases r with
  | fro => cases he
  | own d =>
    cases he
    refine ⟨g, G, φ, s, .own d, s1, hK, R, e1, fun G' φ' H' v R' h1 h2 x => ?_⟩
    cases x with
    | own F =>
      obtain ⟨R2, rp⟩ := R'.promote F
      exact q G' _ _ H' (R2.store i (.fro rp)) h1 (h2.trans (List.prefix_append _ _))
/-- x = e, where x is to be changed by others -/
theorem ss_setC {X : Cx} {i : Nat} {x : Str} {e : Expr} {va : Ev RV} {pos pos' : Pos} (hN : X.N.Nodup) (h : SR X e va) (hi : X.N[i]? = some x := by rfl) (hx : Loc X.env.scope x := by first | exact Or.inl rfl | exact Or.inr rfl) (hs : swapsWith e (some (.Name x pos')) pos.line X.env = pure false := by rfl)
    (hf : X.fn x = true ∨ X.env.scope.names.lookup x = some .local := by first | exact .inl rfl | exact .inr rfl) : SS X (.Assign [.Name x pos'] e pos) (evSetC i va) :=
  ps_imp (ps_set hN hi hx h hs hf) fun _ _ _ h => setC_core h
def isiAny (Ts : List String) (t : String) : Option Bool := match Ts with
  | [] => some false
  | T :: Ts => (kitB t T).bind fun b => if b = true then some true else isiAny Ts t
theorem kitAny_of {K : PySem.W.Frag} {t : String} : ∀ {Ts : List String} {b : Bool}, isiAny Ts t = some b → PySem.W.kitAny K (.type t) (Ts.map Value.type) = some b
  | [], b, h => by cases h; exact kitAny_nil
  | T :: Ts, b, h => by
    unfold isiAny at h
    obtain ⟨c, e1, h⟩ := bind_some_iff h
    refine kitAny_cons (kit_ty e1) (fun hc => ?_) fun hc => ?_
    · subst hc; exact kitAny_of h
    · subst hc; cases h; rfl
def isiBs (Ts : List String) : D → Option RV := fun d => (tyOf d).bind fun t => (isiAny Ts t).map fun b => .fro (.bl b)
def evIsis (Ts : List String) (a : Ev Bor) : Ev RV := fun s => (a s).bind fun p => (fetch p.2 p.1).bind fun d => (isiBs Ts d).map fun r => (r, p.2)
section
variable {X : Cx}
theorem sr_isi2 {T1 T2 : Str} {n1 n2 : String} {e : Expr} {a : Ev Bor} {x1} {p p1 p2 p3 pos : Pos} (hg : Gl X "isinstance") (hm : X.mg "isinstance" = none) (hg1 : Gl X T1) (hm1 : X.mg T1 = none) (hv1 : bootBuiltins T1 = some (.type n1))
    (hg2 : Gl X T2) (hm2 : X.mg T2 = none) (hv2 : bootBuiltins T2 = some (.type n2)) (ha : SB X e a)
    (hn1 : T1 ≠ "__name__" := by decide) (hd1 : (T1 == ("__debug__" : Str)) = false := by decide) (hn2 : T2 ≠ "__name__" := by decide) (hd2 : (T2 == ("__debug__" : Str)) = false := by decide)
    (k1 : starEach [e, .Tuple [.Name T1 p1, .Name T2 p2] x1 p3] X.env = (false, eval e X.env) :: starEach [.Tuple [.Name T1 p1, .Name T2 p2] x1 p3] X.env := by rfl)
    (k2 : starEach [.Tuple [.Name T1 p1, .Name T2 p2] x1 p3] X.env = (false, eval (.Tuple [.Name T1 p1, .Name T2 p2] x1 p3) X.env) :: starEach [] X.env := by rfl)
    (k3 : starEach [.Name T1 p1, .Name T2 p2] X.env = (false, eval (.Name T1 p1) X.env) :: starEach [.Name T2 p2] X.env := by rfl) (k4 : starEach [.Name T2 p2] X.env = (false, eval (.Name T2 p2) X.env) :: starEach [] X.env := by rfl)
    (hpl : (backTo pos (starEach [.Tuple [.Name T1 p1, .Name T2 p2] x1 p3] X.env)).any (·.1) = false := by rfl) :
    SR X (.Call (.Name "isinstance" p) [e, .Tuple [.Name T1 p1, .Name T2 p2] x1 p3] [] pos) (evIsis [n1, n2] a) := by
  have hc : CallR X (.builtin "isinstance") (fun xs H Q => ∃ φ G v d r tp, xs = [v, .ref tp] ∧ H tp = some (.tup [.ty n1, .ty n2]) ∧ Same G H ∧ OpRep X.K φ G H v d ∧ isiBs [n1, n2] d = some r ∧ OkRes X.K φ G H r Q) := fun pins s σ H xs us Q I rx ⟨φ, G, v, d, r, tp, ex, ht, sub, o, hr, q⟩ => by
    subst ex
    obtain ⟨u1, u2, rfl, r1, r2⟩ := rx.two
    cases (show u2 = Value.ref tp from r2)
    obtain ⟨t, e1, hr⟩ := bind_some_iff hr
    obtain ⟨b, e2, hr⟩ := map_some_iff hr
    subst hr
    obtain ⟨P, Z, pz, hx⟩ := kit_D I r1 sub o e1
    obtain ⟨_, its, rv, o', h1, h2, n, h3⟩ := (show ObjOk X.prog X.w H s.heap tp (.tup [.ty n1, .ty n2]) from I.hok tp _ ht)
    obtain ⟨w1, w2, rfl, q1, q2⟩ := rv.two
    cases (show w1 = Value.type n1 from q1)
    cases (show w2 = Value.type n2 from q2)
    obtain ⟨oc, od, dt, sl⟩ := o'
    simp only at h2 h3
    subst h2 h3
    exact PySem.W.kia_tup Z I.kIn pz h1 (kitAny_of (Ts := [n1, n2]) e2) hx fun tk => ⟨.bl b, H, I.tok tk, rfl, q G H _ (Grow.refl sub) (.fro (.bl b))⟩
  refine pe_imp (pe_callB hc hg hm (by decide +kernel) (pa_cons ha (pa_cons (pe_tup (pa_cons (pe_bltn (v := .ty n1) hg1 hm1 hv1 rfl hn1 hd1) (pa_cons (pe_bltn (v := .ty n2) hg2 hm2 hv2 rfl hn2 hd2) pa_nil k4) k3)) pa_nil k2) k1) (by decide) (by decide) k1 hpl) fun σ H Q ⟨g, G, φ, s, r, s', hK, R, he, q⟩ => ?_
  obtain ⟨⟨b, s1⟩, e1, he⟩ := bind_some_iff he
  obtain ⟨d, e2, he⟩ := bind_some_iff he
  obtain ⟨r', e3, he⟩ := map_some_iff he
  cases he
  refine ⟨g, G, φ, s, b, s1, hK, R, e1, fun G1 φ1 H1 v R1 h1 h2 x => ?_⟩
  refine ⟨by simp [sizeLine], fun tp ht => ?_⟩
  have R2 := R1.grow (Grow.aside R1.sub (o := .tup [.ty n1, .ty n2]) ht)
  exact ⟨φ1, G1, v, d, r, tp, rfl, upd_same, R2.sub, hK ▸ R2.fetch x e2, e3, fun G3 H3 w gr o => q G3 φ1 H3 w (R2.grow gr) (h1.trans gr.gg) h2 (ORes.res R2 gr (hK ▸ o))⟩
end
end Pv

namespace Pv
open PySem PySem.Spec L2
/-- what is to be shown of a law's reading -/
def Keeps (m : Fm) : Prop := ∀ ns : List Int, ns.length ≤ 63 → (∀ z ∈ ns, Builtin.Int.intBits z ≤ 1048576) → ∃ st, m [.scr ns] [] = some (.fro (.bl true), st)
theorem walk_end {l : PySem.W.OpenLaw} {k : Nat} {q : Program} {loose : List Str} {XP : (Str → Option Value) → Heap → Prop} {YP : World → Heap → Prop} {d : DefRec} {K : Params → PySem.W.Frag} {m : Fm} {x : Str}
    (hn : l.most = some 63) (hdf : d.params.defaults = []) (hk : k ≤ 60) (hY : ∀ (w : World) (h : Heap), YP w h → (K w.params).In h)
    (F : ∀ (w : World) (mg : Str → Option Value) (fa : Addr) (h : Heap), (K w.params).In h → h.Ns mainGlobals mg → mg d.name = some (.ref fa) →
      ∃ fd : FuncData, (∀ (s : Shared) (u : Value), BindsTo s fd ⟨[u], []⟩ [(x, u)]) ∧ ∀ base : Heap, FnG l.prog w (K w.params) mg base CX0 k fa fd [x] (spF (K w.params) 1 m))
    (hm : Keeps m) : PySem.W.WalkO q loose XP YP l.row.toRowW d [] (fun f vs => PySem.call f vs) :=
  walk_ofG (n := 63) (k := k) (x := x) (sp := fun w => spF (K w.params) 1 m) hn (by decide) hdf ⟨(⟨rfl, by decide, by decide⟩ : Room 60 callerA).mono hk, rfl⟩ hY (fun w mg fa h a b c => by
    obtain ⟨fd, h1, h2⟩ := F w mg fa h a b c
    exact ⟨fd, h1, fun base _ _ => h2 base⟩) fun w H a ns hl hb hs => by
    obtain ⟨st, e⟩ := hm ns hl hb
    exact ⟨H, [], [.scr ns], [], .fro (.bl true), st, Same.refl _, ⟨rfl, List.nodup_nil, fun n a c e => by simp at e⟩, .cons (.scr hs) .nil, rfl, e, fun G' φ' H' v _ _ _ _ _ _ _ _ x => by
      cases x with
      | fro r => cases r; rfl⟩
end Pv

namespace Pv
open PySem PySem.Spec L2
@[simp] theorem deq_int (i j : Int) : deq (.int i) (.int j) = decide (i = j) := by simp [deq, py, PyData.eqv]; rfl
@[simp] theorem deq_bl (i j : Bool) : deq (.bl i) (.bl j) = decide (i = j) := by cases i <;> cases j <;> rfl
@[simp] theorem deq_tup (xs ys : List D) : deq (.tup xs) (.tup ys) = deqAll xs ys := by
  rw [← eqvAll_py]; simp [deq, py, PyData.eqv]
@[simp] theorem deq_lst (xs ys : List D) : deq (.lst xs) (.lst ys) = deqAll xs ys := by
  rw [← eqvAll_py]; simp [deq, py, PyData.eqv]
@[simp] theorem deq_non_int (i : Int) : deq .non (.int i) = false := by simp [deq, py, PyData.eqv]
@[simp] theorem deq_int_non (i : Int) : deq (.int i) .non = false := by simp [deq, py, PyData.eqv]
@[simp] theorem deq_non_tup (i : List D) : deq .non (.tup i) = false := by simp [deq, py, PyData.eqv]
@[simp] theorem deq_tup_non (i : List D) : deq (.tup i) .non = false := by simp [deq, py, PyData.eqv]
@[simp] theorem deq_non_lst (i : List D) : deq .non (.lst i) = false := by simp [deq, py, PyData.eqv]
@[simp] theorem deq_lst_non (i : List D) : deq (.lst i) .non = false := by simp [deq, py, PyData.eqv]
@[simp] theorem deq_non : deq .non .non = true := by simp [deq, py, PyData.eqv]
theorem deqAll_ints : ∀ xs ys : List Int, deqAll (xs.map D.int) (ys.map D.int) = decide (xs = ys)
  | [], [] => rfl
  | x :: xs, [] => by simp [deqAll]
  | [], y :: ys => by simp [deqAll]
  | x :: xs, y :: ys => by simp [deqAll, deqAll_ints xs ys]
/-- no cell, no dict, no script, of depth n -/
def good : Nat → D → Bool := eqOk
mutual
theorem deq_self : ∀ (n : Nat) (d : D), eqOk n d = true → deq d d = true
  | n, .non, _ => by simp
  | n, .bl b, _ => by simp
  | n, .int b, _ => by simp
  | n, .str x, _ => by simp [deq, py, PyData.eqv]
  | 0, .tup xs, h => by simp [eqOk] at h
  | 0, .lst xs, h => by simp [eqOk] at h
  | n + 1, .tup xs, h => by rw [deq_tup]; exact deqAll_self n xs h
  | n + 1, .lst xs, h => by rw [deq_lst]; exact deqAll_self n xs h
  | n, .dct _ _, h => by cases n <;> simp [eqOk] at h
  | n, .hd _, h => by cases n <;> simp [eqOk] at h
  | n, .scr _, h => by cases n <;> simp [eqOk] at h
theorem deqAll_self : ∀ (n : Nat) (ds : List D), ds.all (eqOk n) = true → deqAll ds ds = true
  | n, [], _ => rfl
  | n, d :: ds, h => by
    rw [List.all_cons, Bool.and_eq_true] at h
    rw [deqAll, deq_self n d h.1, deqAll_self n ds h.2]
    rfl
end
theorem eqOk_ints (n : Nat) (xs : List Int) : (xs.map D.int).all (eqOk n) = true := by
  rw [List.all_eq_true]
  intro d hd
  obtain ⟨i, _, rfl⟩ := List.mem_map.mp hd
  cases n <;> rfl
theorem any_int (x : Int) (ys : List Int) : (ys.map D.int).any (fun z => deq z (.int x)) = decide (x ∈ ys) := by
  rw [Bool.eq_iff_iff]; simp [List.any_eq_true, List.mem_map]
/-- x in ints -/
theorem dIn_ints (x : Int) (ys : List Int) : dIn (.int x) (.tup (ys.map D.int)) = some (.fro (.bl (decide (x ∈ ys)))) := by
  have : eqOk 49 (.int x) = true := rfl
  simp only [dIn, isIn, eqOk_ints, this, any_int, Bool.and_self, if_true, Option.map_some]
theorem dIn_intsL (x : Int) (ys : List Int) : dIn (.int x) (.lst (ys.map D.int)) = some (.fro (.bl (decide (x ∈ ys)))) := by
  have : eqOk 49 (.int x) = true := rfl
  simp only [dIn, isIn, eqOk_ints, this, any_int, Bool.and_self, if_true, Option.map_some]
theorem dNotIn_ints (x : Int) (ys : List Int) : dNotIn (.int x) (.tup (ys.map D.int)) = some (.fro (.bl (!decide (x ∈ ys)))) := by
  have : eqOk 49 (.int x) = true := rfl
  simp only [dNotIn, isIn, eqOk_ints, this, any_int, Bool.and_self, if_true, Option.map_some]
theorem dNotIn_intsL (x : Int) (ys : List Int) : dNotIn (.int x) (.lst (ys.map D.int)) = some (.fro (.bl (!decide (x ∈ ys)))) := by
  have : eqOk 49 (.int x) = true := rfl
  simp only [dNotIn, isIn, eqOk_ints, this, any_int, Bool.and_self, if_true, Option.map_some]
@[simp] theorem dEq_int (i j : Int) : dEq (.int i) (.int j) = some (.fro (.bl (decide (i = j)))) := by
  have h : ∀ i, eqOk 50 (.int i) = true := fun i => rfl
  simp [dEq, h]
@[simp] theorem dNe_int (i j : Int) : dNe (.int i) (.int j) = some (.fro (.bl (!decide (i = j)))) := by
  have h : ∀ i, eqOk 50 (.int i) = true := fun i => rfl
  simp [dNe, h]
@[simp] theorem dEq_bl (i j : Bool) : dEq (.bl i) (.bl j) = some (.fro (.bl (decide (i = j)))) := by
  have h : ∀ i, eqOk 50 (.bl i) = true := fun i => rfl
  simp [dEq, h]
@[simp] theorem dNe_bl (i j : Bool) : dNe (.bl i) (.bl j) = some (.fro (.bl (!decide (i = j)))) := by
  have h : ∀ i, eqOk 50 (.bl i) = true := fun i => rfl
  simp [dNe, h]
theorem dIx_tup {ds : List D} {i : Nat} {d : D} (h : ds[i]? = some d) : dIx (.tup ds) (.int (i : Int)) = some (.fro d) := by
  have hl : i < ds.length := (List.getElem?_eq_some_iff.mp h).1
  have : ixN ds.length (i : Int) = some i := by
    unfold ixN
    rw [if_pos (by omega), if_pos (by omega), Int.toNat_natCast]
  simp only [dIx, atI, this, Option.bind_some, h, Option.map_some]
theorem dIx_lst {ds : List D} {i : Nat} {d : D} (h : ds[i]? = some d) : dIx (.lst ds) (.int (i : Int)) = some (.fro d) := dIx_tup h
theorem keyToksAll_ints : ∀ xs ys : List Int, PySem.W.keyToksAll (pyAll (xs.map D.int)) = PySem.W.keyToksAll (pyAll (ys.map D.int)) → xs = ys
  | [], [], _ => rfl
  | x :: xs, [], h => by simp [pyAll, py, PySem.W.keyToksAll] at h
  | [], y :: ys, h => by simp [pyAll, py, PySem.W.keyToksAll] at h
  | x :: xs, y :: ys, h => by
    simp [pyAll, py, PySem.W.keyToksAll, PySem.W.keyToks] at h
    rw [h.1, keyToksAll_ints xs ys h.2]
def tN (xs : List Int) : D := .tup (xs.map D.int)
theorem dle_total : PySem.W.TotalLe dle := PySem.W.sortLe_total (PyProof.Rows.listOrd PyProof.Rows.itemOrd) false fun b => PySem.W.keyToks (py b)
theorem dle_anti {xs ys : List Int} (h1 : dle (tN xs) (tN ys) = true) (h2 : dle (tN ys) (tN xs) = true) : xs = ys := by
  have e1 : dle (tN xs) (tN ys) = !(PyProof.Rows.listOrd PyProof.Rows.itemOrd).blt (PySem.W.keyToks (py (tN ys))) (PySem.W.keyToks (py (tN xs))) := rfl
  have e2 : dle (tN ys) (tN xs) = !(PyProof.Rows.listOrd PyProof.Rows.itemOrd).blt (PySem.W.keyToks (py (tN xs))) (PySem.W.keyToks (py (tN ys))) := rfl
  rw [e1, Bool.not_eq_true'] at h1
  rw [e2, Bool.not_eq_true'] at h2
  have := (PyProof.Rows.listOrd PyProof.Rows.itemOrd).total _ _ h2 h1
  exact keyToksAll_ints xs ys (by simpa [tN, py, PySem.W.keyToks] using this)
theorem sort_eq {xs ys : List (List Int)} (h : xs.Perm ys) : (xs.map tN).mergeSort dle = (ys.map tN).mergeSort dle := by
  have tr : ∀ a b c : D, dle a b = true → dle b c = true → dle a c = true := fun a b c => dle_total.trans a b c
  have to : ∀ a b : D, (dle a b || dle b a) = true := fun a b => by
    rw [Bool.or_eq_true]; exact dle_total.total a b
  refine List.Perm.eq_of_pairwise (le := fun a b => dle a b = true) (fun a b ha hb h1 h2 => ?_) (List.pairwise_mergeSort tr to _) (List.pairwise_mergeSort tr to _) (((List.mergeSort_perm _ _).trans (h.map _)).trans (List.mergeSort_perm _ _).symm)
  rw [List.mem_mergeSort] at ha hb
  obtain ⟨x, _, rfl⟩ := List.mem_map.mp ha
  obtain ⟨y, _, rfl⟩ := List.mem_map.mp hb
  rw [dle_anti h1 h2]
theorem isNeTup_tN {x : List Int} (h : x ≠ []) : isNeTup (tN x) = true := by
  cases x with
  | nil => exact absurd rfl h
  | cons => rfl
theorem alike_ints : ∀ xs ys : List Int, PySem.W.alikeAll (pyAll (xs.map D.int)) (pyAll (ys.map D.int)) = true
  | [], _ => by simp [pyAll, PySem.W.alikeAll]
  | _ :: _, [] => by simp [pyAll, PySem.W.alikeAll]
  | x :: xs, y :: ys => by simp [pyAll, py, PySem.W.alikeAll, PySem.W.alike, alike_ints xs ys]
theorem sortOk_tN {xs : List (List Int)} (hl : xs.length ≤ 1000000) (h : ∀ x ∈ xs, x ≠ []) : sortOk (xs.map tN) = true := by
  unfold sortOk
  simp only [Bool.and_eq_true, Bool.or_eq_true, decide_eq_true_eq, List.length_map, List.all_eq_true, List.mem_map]
  refine ⟨⟨⟨hl, ?_⟩, ?_⟩, .inl ?_⟩
  · rintro _ ⟨x, _, rfl⟩
    exact eqOk_ints 39 x
  · rintro _ ⟨x, _, rfl⟩ _ ⟨y, _, rfl⟩
    simp [tN, py, PySem.W.alike, alike_ints]
  · rintro _ ⟨x, hx, rfl⟩
    exact isNeTup_tN (h x hx)
theorem dSorted_tN {xs : List (List Int)} (hl : xs.length ≤ 1000000) (h : ∀ x ∈ xs, x ≠ []) : dSorted [.lst (xs.map tN)] = some (.own (.lst ((xs.map tN).mergeSort dle))) := by
  simp only [dSorted, sortOk_tN hl h, if_true]
theorem lcGo_map {α : Type} (inj : α → D) (p : α → Bool) (v : α → D) {t : Tgt} {c : Ev Bool} {e : Ev RV} {env : List Slot} {st : List Cell} : ∀ xs : List α,
    (∀ x ∈ xs, ∃ s1 s2, t (inj x) ⟨env, st⟩ = some s1 ∧ c s1 = some (p x, s2) ∧ s2.st = st ∧ (p x = true → ∃ r s3, e s2 = some (r, s3) ∧ r.d = v x ∧ s3.st = st)) →
    evLcGo t c e env (xs.map inj) st = some ((xs.filter p).map v, st)
  | [], _ => rfl
  | x :: xs, h => by
    obtain ⟨s1, s2, h1, h2, h3, h4⟩ := h x (.head _)
    have ih := lcGo_map inj p v xs fun y hy => h y (.tail _ hy)
    show (t (inj x) ⟨env, st⟩).bind _ = _
    rw [h1, Option.bind_some, h2, Option.bind_some]
    cases hp : p x with
    | false =>
      rw [if_neg (by simp), h3, ih, List.filter_cons_of_neg (by simp [hp])]
    | true =>
      obtain ⟨r, s3, h5, h6, h7⟩ := h4 hp
      rw [if_pos rfl, h5, Option.bind_some, h7, ih, List.filter_cons_of_pos (by simp [hp])]
      simp [h6]
/-- a comprehension whose parts change no cell -/
theorem lc_map {α : Type} (inj : α → D) (p : α → Bool) (v : α → D) (xs : List α) {it : Ev (List D)} {cap vs : List Nat} {t : Tgt} {c : Ev Bool} {e : Ev RV} {s s' : Sg}
    (hi : it s = some (xs.map inj, s')) (hl : xs.length ≤ 1000000)
    (h : ∀ x ∈ xs, ∃ s1 s2, t (inj x) ⟨blkEnv vs (freezeCap cap s').env, s'.st⟩ = some s1 ∧ c s1 = some (p x, s2) ∧ s2.st = s'.st ∧ (p x = true → ∃ r s3, e s2 = some (r, s3) ∧ r.d = v x ∧ s3.st = s'.st)) :
    evLc it cap vs t c e s = some (.own (.lst ((xs.filter p).map v)), ⟨(freezeCap cap s').env, s'.st⟩) := by
  unfold evLc
  rw [hi, Option.bind_some, if_pos (by simpa using hl), lcGo_map inj p v xs h]
  rfl
/-- a comprehension whose parts change the cells -/
theorem lcGo_st {α β : Type} (inj : α → D) (out : β → D) (R : α → β → Prop) (J : Nat → List Cell → Prop) {t : Tgt} {c : Ev Bool} {e : Ev RV} {env : List Slot} : ∀ (xs : List α) (k : Nat) (st : List Cell), J k st →
    (∀ (i : Nat) (x : α) st, xs[i]? = some x → J (k + i) st → ∃ s1 s2 r s3 y, t (inj x) ⟨env, st⟩ = some s1 ∧ c s1 = some (true, s2) ∧ e s2 = some (r, s3) ∧ r.d = out y ∧ R x y ∧ J (k + i + 1) s3.st) →
    ∃ (ys : List β) (st' : List Cell), evLcGo t c e env (xs.map inj) st = some (ys.map out, st') ∧ ys.length = xs.length ∧ (∀ (i : Nat) (x : α) (y : β), xs[i]? = some x → ys[i]? = some y → R x y) ∧ J (k + xs.length) st'
  | [], k, st, h0, _ => ⟨[], st, rfl, rfl, fun i x y h => by simp at h, h0⟩
  | x :: xs, k, st, h0, h => by
    obtain ⟨s1, s2, r, s3, y, h1, h2, h3, h4, h5, h6⟩ := h 0 x st rfl h0
    obtain ⟨ys, st', g1, g2, g3, g4⟩ := lcGo_st inj out R J xs (k + 1) s3.st h6 fun i z st hz hj => by
      rw [show k + 1 + i = k + (i + 1) by omega] at hj ⊢
      exact h (i + 1) z st hz hj
    refine ⟨y :: ys, st', ?_, by simp [g2], fun i a b ha hb => ?_, by rw [List.length_cons, show k + (xs.length + 1) = k + 1 + xs.length by omega]; exact g4⟩
    · show (t (inj x) ⟨env, st⟩).bind _ = _
      rw [h1, Option.bind_some, h2, Option.bind_some, if_pos rfl, h3, Option.bind_some, g1]
      simp [h4]
    · cases i with
      | zero => simp at ha hb; subst ha hb; exact h5
      | succ i => exact g3 i a b (by simpa using ha) (by simpa using hb)
theorem lc_st {α β : Type} (inj : α → D) (out : β → D) (R : α → β → Prop) (J : Nat → List Cell → Prop) (xs : List α) {it : Ev (List D)} {cap vs : List Nat} {t : Tgt} {c : Ev Bool} {e : Ev RV} {s s' : Sg}
    (hi : it s = some (xs.map inj, s')) (hl : xs.length ≤ 1000000) (h0 : J 0 s'.st)
    (h : ∀ (i : Nat) (x : α) st, xs[i]? = some x → J i st → ∃ s1 s2 r s3 y, t (inj x) ⟨blkEnv vs (freezeCap cap s').env, st⟩ = some s1 ∧ c s1 = some (true, s2) ∧ e s2 = some (r, s3) ∧ r.d = out y ∧ R x y ∧ J (i + 1) s3.st) :
    ∃ (ys : List β) (st' : List Cell), evLc it cap vs t c e s = some (.own (.lst (ys.map out)), ⟨(freezeCap cap s').env, st'⟩) ∧ ys.length = xs.length ∧ (∀ (i : Nat) (x : α) (y : β), xs[i]? = some x → ys[i]? = some y → R x y) ∧ J xs.length st' := by
  obtain ⟨ys, st', g1, g2, g3, g4⟩ := lcGo_st inj out R J xs 0 s'.st h0 fun i x st hx hj => by
    rw [Nat.zero_add] at hj ⊢
    exact h i x st hx hj
  refine ⟨ys, st', ?_, g2, g3, by simpa using g4⟩
  unfold evLc
  rw [hi, Option.bind_some, if_pos (by simpa using hl), g1]
  rfl
/-- a loop that runs through -/
theorem for_inv {t : Tgt} {b : Ev Out} (I : Nat → Sg → Prop) (ds : List D) : ∀ (k : Nat) (es : List D) (s : Sg), ds.drop k = es → I k s →
    (∀ i d s, ds[i]? = some d → I i s → ∃ s1 o s2, t d s = some s1 ∧ b s1 = some (o, s2) ∧ (o = .nx ∨ o = .ct) ∧ I (i + 1) s2) → ∃ s', evFor t b es s = some (.nx, s') ∧ I (k + es.length) s'
  | k, [], s, hd, h0, hs => ⟨s, rfl, h0⟩
  | k, e :: es, s, hd, h0, hs => by
    have hk : ds[k]? = some e := by
      rw [← List.head?_drop, hd]; rfl
    obtain ⟨s1, o, s2, h1, h2, h3, h4⟩ := hs k e s hk h0
    have hd' : ds.drop (k + 1) = es := by rw [← List.tail_drop, hd]; rfl
    obtain ⟨s', h5, h6⟩ := for_inv I ds (k + 1) es s2 hd' h4 hs
    refine ⟨s', ?_, by rw [List.length_cons]; rw [show k + (es.length + 1) = k + 1 + es.length by omega]; exact h6⟩
    show (t e s).bind _ = _
    rw [h1, Option.bind_some, h2, Option.bind_some]
    rcases h3 with rfl | rfl <;> exact h5
theorem forS_inv {it : Ev (List D)} {t : Tgt} {b : Ev Out} (I : Nat → Sg → Prop) {ds : List D} {s s0 : Sg} (hi : it s = some (ds, s0)) (h0 : I 0 s0)
    (hs : ∀ i d s, ds[i]? = some d → I i s → ∃ s1 o s2, t d s = some s1 ∧ b s1 = some (o, s2) ∧ (o = .nx ∨ o = .ct) ∧ I (i + 1) s2) : ∃ s', evForS it t b s = some (.nx, s') ∧ I ds.length s' := by
  obtain ⟨s', h1, h2⟩ := for_inv I ds 0 ds s0 rfl h0 hs
  refine ⟨s', ?_, by simpa using h2⟩
  unfold evForS
  rw [hi, Option.bind_some]
  exact h1
end Pv

namespace Pv
open PySem PySem.Spec L2
def kPair {α : Type} (s : Sg) (x : α) : α × Sg := (x, s)
@[simp] theorem kPair_ap {α : Type} (s : Sg) (x : α) : kPair s x = (x, s) := rfl
def kVal (p : RV × Sg) : Bor × Sg := (.val p.1.d, p.2)
@[simp] theorem kVal_fro (d : D) (s : Sg) : kVal (.fro d, s) = (.val d, s) := rfl
@[simp] theorem kVal_own (d : D) (s : Sg) : kVal (.own d, s) = (.val d, s) := rfl
@[simp] theorem evV_ap (a : Ev RV) (s : Sg) : evV a s = (a s).map kVal := rfl
@[simp] theorem evC_ap (d : D) (s : Sg) : evC d s = some (.fro d, s) := rfl
def kSlot (i : Nat) (s : Sg) : Option Slot → Option (Bor × Sg)
  | some .non => none
  | some _ => some (.slot i, s)
  | none => none
@[simp] theorem kSlot_fro (i : Nat) (s : Sg) (d : D) : kSlot i s (some (.fro d)) = some (.slot i, s) := rfl
@[simp] theorem kSlot_own (i : Nat) (s : Sg) (d : D) : kSlot i s (some (.own d)) = some (.slot i, s) := rfl
@[simp] theorem evSlot_ap (i : Nat) (s : Sg) : evSlot i s = kSlot i s (s.env[i]?) := rfl
def kName (i : Nat) (s : Sg) : Option Slot → Option (RV × Sg)
  | some (.fro d) => some (.fro d, s)
  | some (.own d) => some (.fro d, { s with env := s.env.set i (.fro d) })
  | _ => none
@[simp] theorem kName_fro (i : Nat) (s : Sg) (d : D) : kName i s (some (.fro d)) = some (.fro d, s) := rfl
@[simp] theorem kName_own (i : Nat) (s : Sg) (d : D) : kName i s (some (.own d)) = some (.fro d, { s with env := s.env.set i (.fro d) }) := rfl
@[simp] theorem evName_ap (i : Nat) (s : Sg) : evName i s = kName i s (s.env[i]?) := rfl
def kRetOwn (i : Nat) (s : Sg) : Option Slot → Option (Out × Sg)
  | some (.own d) => some (.rt (.own d), { s with env := s.env.set i .non })
  | some (.fro d) => some (.rt (.fro d), s)
  | _ => none
@[simp] theorem kRetOwn_fro (i : Nat) (s : Sg) (d : D) : kRetOwn i s (some (.fro d)) = some (.rt (.fro d), s) := rfl
@[simp] theorem kRetOwn_own (i : Nat) (s : Sg) (d : D) : kRetOwn i s (some (.own d)) = some (.rt (.own d), { s with env := s.env.set i .non }) := rfl
@[simp] theorem evRetOwn_ap (i : Nat) (s : Sg) : evRetOwn i s = kRetOwn i s (s.env[i]?) := rfl
def kFetch (s : Sg) : Option Slot → Option D
  | some (.fro d) => some (deref s d)
  | some (.own d) => some d
  | _ => none
@[simp] theorem kFetch_fro (s : Sg) (d : D) : kFetch s (some (.fro d)) = some (deref s d) := rfl
@[simp] theorem kFetch_own (s : Sg) (d : D) : kFetch s (some (.own d)) = some d := rfl
@[simp] theorem fetch_val (s : Sg) (d : D) : fetch s (.val d) = some (deref s d) := rfl
@[simp] theorem fetch_slot (s : Sg) (i : Nat) : fetch s (.slot i) = kFetch s (s.env[i]?) := rfl
def k2d (f : Op2) (s : Sg) (dx dy : D) : Option (RV × Sg) := (f dx dy).map (kPair s)
@[simp] theorem k2d_ap (f : Op2) (s : Sg) (dx dy : D) : k2d f s dx dy = (f dx dy).map (kPair s) := rfl
def k2c (f : Op2) (s : Sg) (y : Bor) (dx : D) : Option (RV × Sg) := (fetch s y).bind (k2d f s dx)
@[simp] theorem k2c_ap (f : Op2) (s : Sg) (y : Bor) (dx : D) : k2c f s y dx = (fetch s y).bind (k2d f s dx) := rfl
def k2b (f : Op2) (x : Bor) (q : Bor × Sg) : Option (RV × Sg) := (fetch q.2 x).bind (k2c f q.2 q.1)
@[simp] theorem k2b_ap (f : Op2) (x y : Bor) (s : Sg) : k2b f x (y, s) = (fetch s x).bind (k2c f s y) := rfl
def k2a (f : Op2) (b : Ev Bor) (p : Bor × Sg) : Option (RV × Sg) := (b p.2).bind (k2b f p.1)
@[simp] theorem k2a_ap (f : Op2) (b : Ev Bor) (x : Bor) (s : Sg) : k2a f b (x, s) = (b s).bind (k2b f x) := rfl
@[simp] theorem ev2_ap (f : Op2) (a b : Ev Bor) (s : Sg) : ev2 f a b s = (a s).bind (k2a f b) := rfl
def kFs (s : Sg) (bs : List Bor) (d : D) : Option (List D) := (fetchAll s bs).map (List.cons d)
@[simp] theorem kFs_ap (s : Sg) (bs : List Bor) (d : D) : kFs s bs d = (fetchAll s bs).map (List.cons d) := rfl
@[simp] theorem fetchAll_nil (s : Sg) : fetchAll s [] = some [] := rfl
@[simp] theorem fetchAll_cons (s : Sg) (b : Bor) (bs : List Bor) : fetchAll s (b :: bs) = (fetch s b).bind (kFs s bs) := rfl
def kNb (f : OpN) (s : Sg) (ds : List D) : Option (RV × Sg) := (f ds).map (kPair s)
@[simp] theorem kNb_ap (f : OpN) (s : Sg) (ds : List D) : kNb f s ds = (f ds).map (kPair s) := rfl
def kNa (f : OpN) (p : List Bor × Sg) : Option (RV × Sg) := (fetchAll p.2 p.1).bind (kNb f p.2)
@[simp] theorem kNa_ap (f : OpN) (x : List Bor) (s : Sg) : kNa f (x, s) = (fetchAll s x).bind (kNb f s) := rfl
@[simp] theorem evN_ap (f : OpN) (a : Ev (List Bor)) (s : Sg) : evN f a s = (a s).bind (kNa f) := rfl
def kCons2 (x : RV) (q : List D × Sg) : List D × Sg := (x.d :: q.1, q.2)
@[simp] theorem kCons2_ap (x : RV) (q : List D) (s : Sg) : kCons2 x (q, s) = (x.d :: q, s) := rfl
def kCons (b : Ev (List D)) (p : RV × Sg) : Option (List D × Sg) := (b p.2).map (kCons2 p.1)
@[simp] theorem kCons_ap (b : Ev (List D)) (x : RV) (s : Sg) : kCons b (x, s) = (b s).map (kCons2 x) := rfl
@[simp] theorem evCons_ap (a : Ev RV) (b : Ev (List D)) (s : Sg) : evCons a b s = (a s).bind (kCons b) := rfl
@[simp] theorem evNil_ap (s : Sg) : evNil s = some ([], s) := rfl
def kConsB2 (x : Bor) (q : List Bor × Sg) : List Bor × Sg := (x :: q.1, q.2)
@[simp] theorem kConsB2_ap (x : Bor) (q : List Bor) (s : Sg) : kConsB2 x (q, s) = (x :: q, s) := rfl
def kConsB (b : Ev (List Bor)) (p : Bor × Sg) : Option (List Bor × Sg) := (b p.2).map (kConsB2 p.1)
@[simp] theorem kConsB_ap (b : Ev (List Bor)) (x : Bor) (s : Sg) : kConsB b (x, s) = (b s).map (kConsB2 x) := rfl
@[simp] theorem evConsB_ap (a : Ev Bor) (b : Ev (List Bor)) (s : Sg) : evConsB a b s = (a s).bind (kConsB b) := rfl
@[simp] theorem evNilB_ap (s : Sg) : evNilB s = some ([], s) := rfl
def kTup (p : List D × Sg) : Option (RV × Sg) := if p.1.length ≤ 1000 then some (.fro (.tup p.1), p.2) else none
@[simp] theorem kTup_ap (x : List D) (s : Sg) : kTup (x, s) = if x.length ≤ 1000 then some (.fro (.tup x), s) else none := rfl
@[simp] theorem evTup_ap (a : Ev (List D)) (s : Sg) : evTup a s = (a s).bind kTup := rfl
def kLst (p : List D × Sg) : Option (RV × Sg) := if p.1.length ≤ 1000 then some (.own (.lst p.1), p.2) else none
@[simp] theorem kLst_ap (x : List D) (s : Sg) : kLst (x, s) = if x.length ≤ 1000 then some (.own (.lst x), s) else none := rfl
@[simp] theorem evLst_ap (a : Ev (List D)) (s : Sg) : evLst a s = (a s).bind kLst := rfl
def kCall2 (s : Sg) (q : RV × List Cell) : RV × Sg := (q.1, { s with st := q.2 })
@[simp] theorem kCall2_ap (s : Sg) (r : RV) (st : List Cell) : kCall2 s (r, st) = (r, { s with st := st }) := rfl
def kCall (m : Fm) (p : List D × Sg) : Option (RV × Sg) := (m p.1 p.2.st).map (kCall2 p.2)
@[simp] theorem kCall_ap (m : Fm) (x : List D) (s : Sg) : kCall m (x, s) = (m x s.st).map (kCall2 s) := rfl
@[simp] theorem evCall_ap (m : Fm) (a : Ev (List D)) (s : Sg) : evCall m a s = (a s).bind (kCall m) := rfl
def kSeq (b : Ev Out) (p : Out × Sg) : Option (Out × Sg) := match p.1 with
  | .nx => b p.2
  | o => some (o, p.2)
@[simp] theorem kSeq_nx (b : Ev Out) (s : Sg) : kSeq b (.nx, s) = b s := rfl
@[simp] theorem kSeq_rt (b : Ev Out) (s : Sg) (r : RV) : kSeq b (.rt r, s) = some (.rt r, s) := rfl
@[simp] theorem kSeq_bk (b : Ev Out) (s : Sg) : kSeq b (.bk, s) = some (.bk, s) := rfl
@[simp] theorem kSeq_ct (b : Ev Out) (s : Sg) : kSeq b (.ct, s) = some (.ct, s) := rfl
@[simp] theorem evSeq_ap (a b : Ev Out) (s : Sg) : evSeq a b s = (a s).bind (kSeq b) := rfl
def kSet (i : Nat) (p : RV × Sg) : Out × Sg := (.nx, { p.2 with env := p.2.env.set i p.1.slot })
@[simp] theorem kSet_fro (i : Nat) (d : D) (s : Sg) : kSet i (.fro d, s) = (.nx, { s with env := s.env.set i (.fro d) }) := rfl
@[simp] theorem kSet_own (i : Nat) (d : D) (s : Sg) : kSet i (.own d, s) = (.nx, { s with env := s.env.set i (.own d) }) := rfl
@[simp] theorem evSet_ap (i : Nat) (a : Ev RV) (s : Sg) : evSet i a s = (a s).map (kSet i) := rfl
def kSetC (i : Nat) (p : RV × Sg) : Option (Out × Sg) := match p.1 with
  | .own d => some (.nx, ⟨p.2.env.set i (.fro (.hd p.2.st.length)), p.2.st ++ [.d d]⟩)
  | .fro _ => none
@[simp] theorem kSetC_own (i : Nat) (d : D) (s : Sg) : kSetC i (.own d, s) = some (.nx, ⟨s.env.set i (.fro (.hd s.st.length)), s.st ++ [.d d]⟩) := rfl
@[simp] theorem evSetC_ap (i : Nat) (a : Ev RV) (s : Sg) : evSetC i a s = (a s).bind (kSetC i) := rfl
def kAsg2 (s : Sg) : Out × Sg := (.nx, s)
@[simp] theorem kAsg2_ap (s : Sg) : kAsg2 s = (.nx, s) := rfl
def kAsg (t : Tgt) (p : RV × Sg) : Option (Out × Sg) := (t p.1.d p.2).map kAsg2
@[simp] theorem kAsg_ap (t : Tgt) (x : RV) (s : Sg) : kAsg t (x, s) = (t x.d s).map kAsg2 := rfl
@[simp] theorem evAsg_ap (t : Tgt) (a : Ev RV) (s : Sg) : evAsg t a s = (a s).bind (kAsg t) := rfl
def kPar2 (i j : Nat) (x : RV) (q : RV × Sg) : Out × Sg := (.nx, { q.2 with env := (q.2.env.set i x.slot).set j q.1.slot })
@[simp] theorem kPar2_ap (i j : Nat) (x y : RV) (s : Sg) : kPar2 i j x (y, s) = (.nx, { s with env := (s.env.set i x.slot).set j y.slot }) := rfl
def kPar (i j : Nat) (b : Ev RV) (p : RV × Sg) : Option (Out × Sg) := (b p.2).map (kPar2 i j p.1)
@[simp] theorem kPar_ap (i j : Nat) (b : Ev RV) (x : RV) (s : Sg) : kPar i j b (x, s) = (b s).map (kPar2 i j x) := rfl
@[simp] theorem evPar_ap (i j : Nat) (a b : Ev RV) (s : Sg) : evPar i j a b s = (a s).bind (kPar i j b) := rfl
def kIf {α : Type} (a b : Ev α) (p : Bool × Sg) : Option (α × Sg) := if p.1 then a p.2 else b p.2
@[simp] theorem kIf_t {α : Type} (a b : Ev α) (s : Sg) : kIf a b (true, s) = a s := rfl
@[simp] theorem kIf_f {α : Type} (a b : Ev α) (s : Sg) : kIf a b (false, s) = b s := rfl
@[simp] theorem evIf_ap (c : Ev Bool) (a b : Ev Out) (s : Sg) : evIf c a b s = (c s).bind (kIf a b) := rfl
@[simp] theorem evIte_ap (c : Ev Bool) (a b : Ev RV) (s : Sg) : evIte c a b s = (c s).bind (kIf a b) := rfl
def kB (p : RV × Sg) : Option (Bool × Sg) := match p.1 with
  | .fro (.bl b) => some (b, p.2)
  | _ => none
@[simp] theorem kB_ap (b : Bool) (s : Sg) : kB (.fro (.bl b), s) = some (b, s) := rfl
@[simp] theorem evB_ap (a : Ev RV) (s : Sg) : evB a s = (a s).bind kB := rfl
def kTru2 (s : Sg) (d : D) : Option (Bool × Sg) := (tru d).map (kPair s)
@[simp] theorem kTru2_ap (s : Sg) (d : D) : kTru2 s d = (tru d).map (kPair s) := rfl
def kTru (p : Bor × Sg) : Option (Bool × Sg) := (fetch p.2 p.1).bind (kTru2 p.2)
@[simp] theorem kTru_ap (x : Bor) (s : Sg) : kTru (x, s) = (fetch s x).bind (kTru2 s) := rfl
@[simp] theorem evTru_ap (a : Ev Bor) (s : Sg) : evTru a s = (a s).bind kTru := rfl
@[simp] theorem evNo_ap (s : Sg) : evNo s = some (none, s) := rfl
def kPt2 (s : Sg) : Option D → Option (Option Int × Sg)
  | some (.int i) => some (some i, s)
  | _ => none
@[simp] theorem kPt2_ap (s : Sg) (i : Int) : kPt2 s (some (.int i)) = some (some i, s) := rfl
def kPt (p : Bor × Sg) : Option (Option Int × Sg) := kPt2 p.2 (fetch p.2 p.1)
@[simp] theorem kPt_ap (x : Bor) (s : Sg) : kPt (x, s) = kPt2 s (fetch s x) := rfl
@[simp] theorem evPt_ap (a : Ev Bor) (s : Sg) : evPt a s = (a s).bind kPt := rfl
def kSl3 (f : Sl) (l h : Option Int) (s : Sg) (d : D) : Option (RV × Sg) := (f d l h).map (kPair s)
@[simp] theorem kSl3_ap (f : Sl) (l h : Option Int) (s : Sg) (d : D) : kSl3 f l h s d = (f d l h).map (kPair s) := rfl
def kSl2 (f : Sl) (x : Bor) (l : Option Int) (p : Option Int × Sg) : Option (RV × Sg) := (fetch p.2 x).bind (kSl3 f l p.1 p.2)
@[simp] theorem kSl2_ap (f : Sl) (x : Bor) (l h : Option Int) (s : Sg) : kSl2 f x l (h, s) = (fetch s x).bind (kSl3 f l h s) := rfl
def kSl1 (f : Sl) (x : Bor) (h : Ev (Option Int)) (p : Option Int × Sg) : Option (RV × Sg) := (h p.2).bind (kSl2 f x p.1)
@[simp] theorem kSl1_ap (f : Sl) (x : Bor) (h : Ev (Option Int)) (l : Option Int) (s : Sg) : kSl1 f x h (l, s) = (h s).bind (kSl2 f x l) := rfl
def kSl0 (f : Sl) (l h : Ev (Option Int)) (p : Bor × Sg) : Option (RV × Sg) := (l p.2).bind (kSl1 f p.1 h)
@[simp] theorem kSl0_ap (f : Sl) (l h : Ev (Option Int)) (x : Bor) (s : Sg) : kSl0 f l h (x, s) = (l s).bind (kSl1 f x h) := rfl
@[simp] theorem evSl_ap (f : Sl) (a : Ev Bor) (l h : Ev (Option Int)) (s : Sg) : evSl f a l h s = (a s).bind (kSl0 f l h) := rfl
def kRng1 (p : List D × Sg) : Option (List D × Sg) := match p.1 with
  | [.int j] => if small62 j then some (upTo 0 j.toNat, p.2) else none
  | _ => none
@[simp] theorem kRng1_ap (j : Int) (s : Sg) : kRng1 ([.int j], s) = if small62 j then some (upTo 0 j.toNat, s) else none := rfl
@[simp] theorem evRng1_ap (a : Ev (List D)) (s : Sg) : evRng1 a s = (a s).bind kRng1 := rfl
def kRng2 (p : List D × Sg) : Option (List D × Sg) := match p.1 with
  | [.int i, .int j] => if small62 i && small62 j then some (upTo i (j - i).toNat, p.2) else none
  | _ => none
@[simp] theorem kRng2_ap (i j : Int) (s : Sg) : kRng2 ([.int i, .int j], s) = if small62 i && small62 j then some (upTo i (j - i).toNat, s) else none := rfl
@[simp] theorem evRng2_ap (a : Ev (List D)) (s : Sg) : evRng2 a s = (a s).bind kRng2 := rfl
def kItS (p : RV × Sg) : Option (List D × Sg) := (dSeq p.1.d).map (kPair p.2)
@[simp] theorem kItS_ap (x : RV) (s : Sg) : kItS (x, s) = (dSeq x.d).map (kPair s) := rfl
@[simp] theorem evItS_ap (a : Ev RV) (s : Sg) : evItS a s = (a s).bind kItS := rfl
def kArgs (f : List D → Option (List D)) (p : List D × Sg) : Option (List D × Sg) := (f p.1).map (kPair p.2)
@[simp] theorem kArgs_ap (f : List D → Option (List D)) (x : List D) (s : Sg) : kArgs f (x, s) = (f x).map (kPair s) := rfl
@[simp] theorem evArgs_ap (f : List D → Option (List D)) (a : Ev (List D)) (s : Sg) : evArgs f a s = (a s).bind (kArgs f) := rfl
def kDrop (p : RV × Sg) : Out × Sg := (.nx, p.2)
@[simp] theorem kDrop_ap (x : RV) (s : Sg) : kDrop (x, s) = (.nx, s) := rfl
@[simp] theorem evDrop_ap (a : Ev RV) (s : Sg) : evDrop a s = (a s).map kDrop := rfl
def kRet (p : RV × Sg) : Out × Sg := (.rt p.1, p.2)
@[simp] theorem kRet_ap (x : RV) (s : Sg) : kRet (x, s) = (.rt x, s) := rfl
@[simp] theorem evRet_ap (a : Ev RV) (s : Sg) : evRet a s = (a s).map kRet := rfl
@[simp] theorem evRetN_ap (s : Sg) : evRetN s = some (.rt (.fro .non), s) := rfl
@[simp] theorem evPass_ap (s : Sg) : evPass s = some (.nx, s) := rfl
@[simp] theorem evBreak_ap (s : Sg) : evBreak s = some (.bk, s) := rfl
@[simp] theorem evCont_ap (s : Sg) : evCont s = some (.ct, s) := rfl
@[simp] theorem evYes_ap (s : Sg) : evYes s = some (true, s) := rfl
@[simp] theorem evDNew_ap (t : Bool) (s : Sg) : evDNew t s = some (.own (.dct t []), s) := rfl
def kAnd (b : Ev Bool) (p : Bool × Sg) : Option (Bool × Sg) := if p.1 then b p.2 else some (false, p.2)
@[simp] theorem kAnd_t (b : Ev Bool) (s : Sg) : kAnd b (true, s) = b s := rfl
@[simp] theorem kAnd_f (b : Ev Bool) (s : Sg) : kAnd b (false, s) = some (false, s) := rfl
@[simp] theorem evAnd_ap (a b : Ev Bool) (s : Sg) : evAnd a b s = (a s).bind (kAnd b) := rfl
def kOr (b : Ev Bool) (p : Bool × Sg) : Option (Bool × Sg) := if p.1 then some (true, p.2) else b p.2
@[simp] theorem kOr_t (b : Ev Bool) (s : Sg) : kOr b (true, s) = some (true, s) := rfl
@[simp] theorem kOr_f (b : Ev Bool) (s : Sg) : kOr b (false, s) = b s := rfl
@[simp] theorem evOr_ap (a b : Ev Bool) (s : Sg) : evOr a b s = (a s).bind (kOr b) := rfl
def kNot (p : Bool × Sg) : Bool × Sg := (!p.1, p.2)
@[simp] theorem kNot_ap (b : Bool) (s : Sg) : kNot (b, s) = (!b, s) := rfl
@[simp] theorem evNot_ap (a : Ev Bool) (s : Sg) : evNot a s = (a s).map kNot := rfl
def kVand (b : Ev RV) (p : RV × Sg) : Option (RV × Sg) := match p.1 with
  | .fro (.bl true) => b p.2
  | .fro (.bl false) => some (.fro (.bl false), p.2)
  | _ => none
@[simp] theorem kVand_t (b : Ev RV) (s : Sg) : kVand b (.fro (.bl true), s) = b s := rfl
@[simp] theorem kVand_f (b : Ev RV) (s : Sg) : kVand b (.fro (.bl false), s) = some (.fro (.bl false), s) := rfl
@[simp] theorem evVand_ap (a b : Ev RV) (s : Sg) : evVand a b s = (a s).bind (kVand b) := rfl
def kVor (b : Ev RV) (p : RV × Sg) : Option (RV × Sg) := match p.1 with
  | .fro (.bl false) => b p.2
  | .fro (.bl true) => some (.fro (.bl true), p.2)
  | _ => none
@[simp] theorem kVor_t (b : Ev RV) (s : Sg) : kVor b (.fro (.bl true), s) = some (.fro (.bl true), s) := rfl
@[simp] theorem kVor_f (b : Ev RV) (s : Sg) : kVor b (.fro (.bl false), s) = b s := rfl
@[simp] theorem evVor_ap (a b : Ev RV) (s : Sg) : evVor a b s = (a s).bind (kVor b) := rfl
def kVnot (p : RV × Sg) : Option (RV × Sg) := match p.1 with
  | .fro (.bl b) => some (.fro (.bl (!b)), p.2)
  | _ => none
@[simp] theorem kVnot_ap (b : Bool) (s : Sg) : kVnot (.fro (.bl b), s) = some (.fro (.bl (!b)), s) := rfl
@[simp] theorem evVnot_ap (a : Ev RV) (s : Sg) : evVnot a s = (a s).bind kVnot := rfl
def kNeg2 (s : Sg) : Option D → Option (RV × Sg)
  | some (.int i) => some (.fro (.int (-i)), s)
  | _ => none
@[simp] theorem kNeg2_ap (s : Sg) (i : Int) : kNeg2 s (some (.int i)) = some (.fro (.int (-i)), s) := rfl
def kNeg (p : Bor × Sg) : Option (RV × Sg) := kNeg2 p.2 (fetch p.2 p.1)
@[simp] theorem kNeg_ap (x : Bor) (s : Sg) : kNeg (x, s) = kNeg2 s (fetch s x) := rfl
@[simp] theorem evNeg_ap (a : Ev Bor) (s : Sg) : evNeg a s = (a s).bind kNeg := rfl
def kIsi2 (T : String) (s : Sg) (d : D) : Option (RV × Sg) := (isiB T d).map (kPair s)
@[simp] theorem kIsi2_ap (T : String) (s : Sg) (d : D) : kIsi2 T s d = (isiB T d).map (kPair s) := rfl
def kIsi (T : String) (p : Bor × Sg) : Option (RV × Sg) := (fetch p.2 p.1).bind (kIsi2 T p.2)
@[simp] theorem kIsi_ap (T : String) (x : Bor) (s : Sg) : kIsi T (x, s) = (fetch s x).bind (kIsi2 T s) := rfl
@[simp] theorem evIsi_ap (T : String) (a : Ev Bor) (s : Sg) : evIsi T a s = (a s).bind (kIsi T) := rfl
def kIsis2 (T : List String) (s : Sg) (d : D) : Option (RV × Sg) := (isiBs T d).map (kPair s)
@[simp] theorem kIsis2_ap (T : List String) (s : Sg) (d : D) : kIsis2 T s d = (isiBs T d).map (kPair s) := rfl
def kIsis (T : List String) (p : Bor × Sg) : Option (RV × Sg) := (fetch p.2 p.1).bind (kIsis2 T p.2)
@[simp] theorem kIsis_ap (T : List String) (x : Bor) (s : Sg) : kIsis T (x, s) = (fetch s x).bind (kIsis2 T s) := rfl
@[simp] theorem evIsis_ap (T : List String) (a : Ev Bor) (s : Sg) : evIsis T a s = (a s).bind (kIsis T) := rfl
def kOwn (st : List Cell) : Option Slot → Option D
  | some (.own d) => some d
  | some (.fro (.hd n)) => match st[n]? with
    | some (.d d) => some d
    | _ => none
  | _ => none
def kCell : Option Cell → Option D
  | some (.d d) => some d
  | _ => none
@[simp] theorem kCell_ap (d : D) : kCell (some (.d d)) = some d := rfl
@[simp] theorem kOwn_own (st : List Cell) (d : D) : kOwn st (some (.own d)) = some d := rfl
@[simp] theorem kOwn_hd (st : List Cell) (n : Nat) : kOwn st (some (.fro (.hd n))) = kCell (st[n]?) := by
  show (match st[n]? with
    | some (.d d) => some d
    | _ => none) = _
  cases st[n]? with
  | none => rfl
  | some c => cases c <;> rfl
@[simp] theorem ownAt_ap (s : Sg) (i : Nat) : ownAt s i = kOwn s.st (s.env[i]?) := rfl
def kPut (s : Sg) (i : Nat) (d : D) : Option Slot → Sg
  | some (.own _) => { s with env := s.env.set i (.own d) }
  | some (.fro (.hd n)) => { s with st := s.st.set n (.d d) }
  | _ => s
@[simp] theorem kPut_own (s : Sg) (i : Nat) (d e : D) : kPut s i d (some (.own e)) = { s with env := s.env.set i (.own d) } := rfl
@[simp] theorem kPut_hd (s : Sg) (i : Nat) (d : D) (n : Nat) : kPut s i d (some (.fro (.hd n))) = { s with st := s.st.set n (.d d) } := rfl
@[simp] theorem setAt_ap (s : Sg) (i : Nat) (d : D) : setAt s i d = kPut s i d (s.env[i]?) := rfl
def kMut3 (s : Sg) (i : Nat) (r : D × D) : RV × Sg := (.fro r.2, setAt s i r.1)
@[simp] theorem kMut3_ap (s : Sg) (i : Nat) (d r : D) : kMut3 s i (d, r) = (.fro r, setAt s i d) := rfl
def kMut2 (f : Mut1) (i : Nat) (s : Sg) (ds : List D) (d : D) : Option (RV × Sg) := (f d ds).map (kMut3 s i)
@[simp] theorem kMut2_ap (f : Mut1) (i : Nat) (s : Sg) (ds : List D) (d : D) : kMut2 f i s ds d = (f d ds).map (kMut3 s i) := rfl
def kMut1 (f : Mut1) (i : Nat) (p : List D × Sg) : Option (RV × Sg) := (ownAt p.2 i).bind (kMut2 f i p.2 p.1)
@[simp] theorem kMut1_ap (f : Mut1) (i : Nat) (x : List D) (s : Sg) : kMut1 f i (x, s) = (ownAt s i).bind (kMut2 f i s x) := rfl
def kMut (T : String) (i : Nat) (f : Mut1) (a : Ev (List D)) (s : Sg) (d0 : D) : Option (RV × Sg) := if tyD T d0 = true then (a s).bind (kMut1 f i) else none
@[simp] theorem kMut_lst (i : Nat) (f : Mut1) (a : Ev (List D)) (s : Sg) (d : List D) : kMut "list" i f a s (.lst d) = (a s).bind (kMut1 f i) := by simp [kMut, tyD]
@[simp] theorem kMut_dct (i : Nat) (f : Mut1) (a : Ev (List D)) (s : Sg) (t : Bool) (d : List (D × D)) : kMut "dict" i f a s (.dct t d) = (a s).bind (kMut1 f i) := by simp [kMut, tyD]
@[simp] theorem evMut_ap (T : String) (i : Nat) (f : Mut1) (a : Ev (List D)) (s : Sg) : evMut T i f a s = (ownAt s i).bind (kMut T i f a s) := rfl
def kSI4 (s : Sg) (i : Nat) (d : D) : Out × Sg := (.nx, setAt s i d)
@[simp] theorem kSI4_ap (s : Sg) (i : Nat) (d : D) : kSI4 s i d = (.nx, setAt s i d) := rfl
def kSI3 (i : Nat) (f : D → D → D → Option D) (v : D) (s : Sg) (di d : D) : Option (Out × Sg) := (f d di v).map (kSI4 s i)
@[simp] theorem kSI3_ap (i : Nat) (f : D → D → D → Option D) (v : D) (s : Sg) (di d : D) : kSI3 i f v s di d = (f d di v).map (kSI4 s i) := rfl
def kSI2 (i : Nat) (f : D → D → D → Option D) (v : D) (s : Sg) (di : D) : Option (Out × Sg) := (ownAt s i).bind (kSI3 i f v s di)
@[simp] theorem kSI2_ap (i : Nat) (f : D → D → D → Option D) (v : D) (s : Sg) (di : D) : kSI2 i f v s di = (ownAt s i).bind (kSI3 i f v s di) := rfl
def kSI1 (i : Nat) (f : D → D → D → Option D) (v : D) (q : Bor × Sg) : Option (Out × Sg) := (fetch q.2 q.1).bind (kSI2 i f v q.2)
@[simp] theorem kSI1_ap (i : Nat) (f : D → D → D → Option D) (v : D) (x : Bor) (s : Sg) : kSI1 i f v (x, s) = (fetch s x).bind (kSI2 i f v s) := rfl
def kSI0 (i : Nat) (f : D → D → D → Option D) (ti : Ev Bor) (v : D) (s : Sg) (z : Bor × Sg) : Option (Out × Sg) := (ti s).bind (kSI1 i f v)
@[simp] theorem kSI0_ap (i : Nat) (f : D → D → D → Option D) (ti : Ev Bor) (v : D) (s : Sg) (z : Bor × Sg) : kSI0 i f ti v s z = (ti s).bind (kSI1 i f v) := rfl
def kSI (i : Nat) (f : D → D → D → Option D) (ti : Ev Bor) (p : RV × Sg) : Option (Out × Sg) := (evSlot i p.2).bind (kSI0 i f ti p.1.d p.2)
@[simp] theorem kSI_ap (i : Nat) (f : D → D → D → Option D) (ti : Ev Bor) (x : RV) (s : Sg) : kSI i f ti (x, s) = (evSlot i s).bind (kSI0 i f ti x.d s) := rfl
@[simp] theorem evSetI_ap (i : Nat) (f : D → D → D → Option D) (ti : Ev Bor) (tv : Ev RV) (s : Sg) : evSetI i f ti tv s = (tv s).bind (kSI i f ti) := rfl
def kCh3 (f' : Op2) (s : Sg) (dy dz : D) : Option (RV × Sg) := (f' dy dz).map (kPair s)
@[simp] theorem kCh3_ap (f' : Op2) (s : Sg) (dy dz : D) : kCh3 f' s dy dz = (f' dy dz).map (kPair s) := rfl
def kCh2 (f' : Op2) (y : Bor) (r : Bor × Sg) : Option (RV × Sg) := (fetch r.2 y).bind fun dy => (fetch r.2 r.1).bind (kCh3 f' r.2 dy)
@[simp] theorem kCh2_ap (f' : Op2) (y z : Bor) (s : Sg) : kCh2 f' y (z, s) = ((fetch s y).bind fun dy => (fetch s z).bind (kCh3 f' s dy)) := rfl
def kCh1 (f' : Op2) (c : Ev Bor) (y : Bor) (s : Sg) : Option RV → Option (RV × Sg)
  | some (.fro (.bl true)) => (c s).bind (kCh2 f' y)
  | some (.fro (.bl false)) => some (.fro (.bl false), s)
  | _ => none
@[simp] theorem kCh1_t (f' : Op2) (c : Ev Bor) (y : Bor) (s : Sg) : kCh1 f' c y s (some (.fro (.bl true))) = (c s).bind (kCh2 f' y) := rfl
@[simp] theorem kCh1_f (f' : Op2) (c : Ev Bor) (y : Bor) (s : Sg) : kCh1 f' c y s (some (.fro (.bl false))) = some (.fro (.bl false), s) := rfl
def kCh0 (f f' : Op2) (c : Ev Bor) (x : Bor) (q : Bor × Sg) : Option (RV × Sg) := (fetch q.2 x).bind fun dx => (fetch q.2 q.1).bind fun dy => kCh1 f' c q.1 q.2 (f dx dy)
@[simp] theorem kCh0_ap (f f' : Op2) (c : Ev Bor) (x y : Bor) (s : Sg) : kCh0 f f' c x (y, s) = ((fetch s x).bind fun dx => (fetch s y).bind fun dy => kCh1 f' c y s (f dx dy)) := rfl
def kCh (f f' : Op2) (b c : Ev Bor) (p : Bor × Sg) : Option (RV × Sg) := (b p.2).bind (kCh0 f f' c p.1)
@[simp] theorem kCh_ap (f f' : Op2) (b c : Ev Bor) (x : Bor) (s : Sg) : kCh f f' b c (x, s) = (b s).bind (kCh0 f f' c x) := rfl
@[simp] theorem evCh_ap (f f' : Op2) (a b c : Ev Bor) (s : Sg) : evCh f f' a b c s = (a s).bind (kCh f f' b c) := rfl
def kFn (p : Out × Sg) : Option (RV × List Cell) := match p with
  | (.rt r, s) => some (r, s.st)
  | (.nx, s) => some (.fro .non, s.st)
  | _ => none
@[simp] theorem kFn_rt (r : RV) (s : Sg) : kFn (.rt r, s) = some (r, s.st) := rfl
@[simp] theorem kFn_nx (s : Sg) : kFn (.nx, s) = some (.fro .non, s.st) := rfl
@[simp] theorem fnM_ap (N P : Nat) (ev : Ev Out) (ds : List D) (st : List Cell) : fnM N P ev ds st = if ds.length = P then (ev ⟨ds.map Slot.fro ++ List.replicate (N - ds.length) Slot.non, st⟩).bind kFn else none := by
  unfold fnM
  split
  · cases ev ⟨ds.map Slot.fro ++ List.replicate (N - ds.length) Slot.non, st⟩ with
    | none => rfl
    | some p =>
      obtain ⟨o, s⟩ := p
      cases o <;> rfl
  · rfl
@[simp] theorem tgName_ap (i : Nat) (d : D) (s : Sg) : tgName i d s = some { s with env := s.env.set i (.fro d) } := rfl
def kTg (b : Tgts) (ds : List D) (s : Sg) : Option Sg := b ds s
@[simp] theorem kTg_ap (b : Tgts) (ds : List D) (s : Sg) : kTg b ds s = b ds s := rfl
@[simp] theorem tgNil_ap (s : Sg) : tgNil [] s = some s := rfl
@[simp] theorem tgCons_ap (a : Tgt) (b : Tgts) (d : D) (ds : List D) (s : Sg) : tgCons a b (d :: ds) s = (a d s).bind (kTg b ds) := rfl
@[simp] theorem tgTup_ap (n : Nat) (b : Tgts) (ds : List D) (s : Sg) : tgTup n b (.tup ds) s = if ds.length = n then b ds s else none := rfl
def kLeak (s : Sg) (i : Nat) : Option Slot → Sg
  | some (.own d) => { s with env := s.env.set i (.fro d) }
  | _ => s
@[simp] theorem kLeak_own (s : Sg) (i : Nat) (d : D) : kLeak s i (some (.own d)) = { s with env := s.env.set i (.fro d) } := rfl
@[simp] theorem kLeak_fro (s : Sg) (i : Nat) (d : D) : kLeak s i (some (.fro d)) = s := rfl
@[simp] theorem kLeak_non (s : Sg) (i : Nat) : kLeak s i (some .non) = s := rfl
@[simp] theorem leak_ap (s : Sg) (i : Nat) : leakSlot s i = kLeak s i (s.env[i]?) := rfl
@[simp] theorem deref_int (s : Sg) (i : Int) : deref s (.int i) = .int i := rfl
@[simp] theorem deref_bl (s : Sg) (i : Bool) : deref s (.bl i) = .bl i := rfl
@[simp] theorem deref_str (s : Sg) (i : Str) : deref s (.str i) = .str i := rfl
@[simp] theorem deref_non (s : Sg) : deref s .non = .non := rfl
@[simp] theorem deref_tup (s : Sg) (i : List D) : deref s (.tup i) = .tup i := rfl
@[simp] theorem deref_scr (s : Sg) (ns : List Int) : deref s (.scr ns) = .scr ns := rfl
@[simp] theorem deref_dct (s : Sg) (t : Bool) (ns : List (D × D)) : deref s (.dct t ns) = .dct t ns := rfl
@[simp] theorem deref_lst (s : Sg) (i : List D) : deref s (.lst i) = .lst i := rfl
@[simp] theorem d_fro (d : D) : (RV.fro d).d = d := rfl
@[simp] theorem d_own (d : D) : (RV.own d).d = d := rfl
@[simp] theorem slot_fro (d : D) : (RV.fro d).slot = .fro d := rfl
@[simp] theorem slot_own (d : D) : (RV.own d).slot = .own d := rfl
@[simp] theorem dSeq_lst (d : List D) : dSeq (.lst d) = some d := rfl
@[simp] theorem dSeq_tup (d : List D) : dSeq (.tup d) = some d := rfl
@[simp] theorem dLen_lst (d : List D) : dLen [.lst d] = some (.fro (.int d.length)) := rfl
@[simp] theorem dLen_tup (d : List D) : dLen [.tup d] = some (.fro (.int d.length)) := rfl
@[simp] theorem dAdd_int (a b : Int) : dAdd (.int a) (.int b) = some (.fro (.int (a + b))) := rfl
@[simp] theorem dSub_int (a b : Int) : dSub (.int a) (.int b) = some (.fro (.int (a - b))) := rfl
theorem dAdd_tup (a b : List D) : dAdd (.tup a) (.tup b) = if a.length + b.length ≤ 1000000 then some (.fro (.tup (a ++ b))) else none := rfl
theorem dAdd_lst (a b : List D) : dAdd (.lst a) (.lst b) = if a.length + b.length ≤ 1000000 then some (.own (.lst (a ++ b))) else none := rfl
@[simp] theorem dMul_int (a b : Int) : dMul (.int a) (.int b) = if smallI a || smallI b then some (.fro (.int (a * b))) else none := rfl
@[simp] theorem dMod_int (a b : Int) : dMod (.int a) (.int b) = if 0 < b then some (.fro (.int (a % b))) else none := rfl
@[simp] theorem dFdiv_int (a b : Int) : dFdiv (.int a) (.int b) = if 0 < b ∧ b < 2 ^ 64 then some (.fro (.int (a / b))) else none := rfl
@[simp] theorem dPow_int (a b : Int) : dPow (.int a) (.int b) = if smallI a && decide (0 ≤ b) && decide (b ≤ 1000) then some (.fro (.int (a ^ b.toNat))) else none := rfl
@[simp] theorem dLt_int (a b : Int) : dLt (.int a) (.int b) = some (.fro (.bl (decide (a < b)))) := rfl
@[simp] theorem dLe_int (a b : Int) : dLe (.int a) (.int b) = some (.fro (.bl (decide (a ≤ b)))) := rfl
@[simp] theorem dGt_int (a b : Int) : dGt (.int a) (.int b) = some (.fro (.bl (decide (b < a)))) := rfl
@[simp] theorem dGe_int (a b : Int) : dGe (.int a) (.int b) = some (.fro (.bl (decide (b ≤ a)))) := rfl
@[simp] theorem dIs_non : dIs .non .non = some (.fro (.bl true)) := rfl
@[simp] theorem blk_ap (vs : List Nat) (env : List Slot) : blkEnv vs env = wipeE (env.map hideSlot) vs := rfl
@[simp] theorem hide_own (d : D) : hideSlot (.own d) = .non := rfl
@[simp] theorem hide_fro (d : D) : hideSlot (.fro d) = .fro d := rfl
@[simp] theorem hide_non : hideSlot .non = .non := rfl
@[simp] theorem wipe_nil (env : List Slot) : wipeE env [] = env := rfl
@[simp] theorem wipe_cons (env : List Slot) (v : Nat) (vs : List Nat) : wipeE env (v :: vs) = (wipeE env vs).set v .non := rfl
@[simp] theorem freeze_nil (s : Sg) : freezeCap [] s = s := rfl
@[simp] theorem freeze_cons (i : Nat) (is : List Nat) (s : Sg) : freezeCap (i :: is) s = freezeCap is (leakSlot s i) := rfl
def kDeref (n : Nat) : Option Cell → D
  | some (.d x) => x
  | _ => .hd n
@[simp] theorem kDeref_ap (n : Nat) (x : D) : kDeref n (some (.d x)) = x := rfl
@[simp] theorem deref_hd (s : Sg) (n : Nat) : deref s (.hd n) = kDeref n (s.st[n]?) := by
  show (match s.st[n]? with
    | some (.d x) => x
    | _ => .hd n) = _
  cases s.st[n]? with
  | none => rfl
  | some c => cases c <;> rfl
theorem ixN_nat {n i : Nat} (h : i < n) : ixN n (i : Int) = some i := by
  unfold ixN
  rw [if_pos (by omega), if_pos (by omega), Int.toNat_natCast]
@[simp] theorem ix_l0 (a : D) (l : List D) : dIx (.lst (a :: l)) (.int 0) = some (.fro a) := dIx_lst (i := 0) rfl
@[simp] theorem ix_l1 (a b : D) (l : List D) : dIx (.lst (a :: b :: l)) (.int 1) = some (.fro b) := dIx_lst (i := 1) rfl
@[simp] theorem ix_l2 (a b c : D) (l : List D) : dIx (.lst (a :: b :: c :: l)) (.int 2) = some (.fro c) := dIx_lst (i := 2) rfl
@[simp] theorem ix_t0 (a : D) (l : List D) : dIx (.tup (a :: l)) (.int 0) = some (.fro a) := dIx_tup (i := 0) rfl
@[simp] theorem ix_t1 (a b : D) (l : List D) : dIx (.tup (a :: b :: l)) (.int 1) = some (.fro b) := dIx_tup (i := 1) rfl
@[simp] theorem ix_t2 (a b c : D) (l : List D) : dIx (.tup (a :: b :: c :: l)) (.int 2) = some (.fro c) := dIx_tup (i := 2) rfl
theorem dSet_lst {ds : List D} {i : Nat} (v : D) (h : i < ds.length) : dSet (.lst ds) (.int (i : Int)) v = some (.lst (ds.set i v)) := by
  simp only [dSet, ixN_nat h, Option.map_some]
@[simp] theorem st_l0 (a v : D) (l : List D) : dSet (.lst (a :: l)) (.int 0) v = some (.lst (v :: l)) := dSet_lst (i := 0) v (by simp)
@[simp] theorem st_l1 (a b v : D) (l : List D) : dSet (.lst (a :: b :: l)) (.int 1) v = some (.lst (a :: v :: l)) := dSet_lst (i := 1) v (by simp)
@[simp] theorem st_l2 (a b c v : D) (l : List D) : dSet (.lst (a :: b :: c :: l)) (.int 2) v = some (.lst (a :: b :: v :: l)) := dSet_lst (i := 2) v (by simp)
theorem upTo_map (lo : Nat) (n : Nat) : upTo (lo : Int) n = (List.range' lo n).map fun k : Nat => D.int (k : Int) := by
  rw [List.range'_eq_map_range]
  simp [upTo, Function.comp_def]
theorem upTo0 (n : Nat) : upTo 0 n = (List.range n).map fun k : Nat => D.int (k : Int) := by
  simp [upTo]
@[simp] theorem small62_nat {n : Nat} (h : n ≤ 1000000) : small62 (n : Int) = true := by simp [small62]; omega
theorem cut_take {α : Type} (xs : List α) (k : Nat) : cutL xs none (some (k : Int)) = xs.take k := by
  unfold cutL
  rw [HT.sIx_none, HT.sIx_nat, List.drop_zero, Nat.sub_zero, List.take_eq_take_iff]
  omega
theorem cut_drop {α : Type} (xs : List α) (k : Nat) : cutL xs (some (k : Int)) none = xs.drop k := by
  unfold cutL
  rw [HT.sIx_none, HT.sIx_nat]
  by_cases h : k ≤ xs.length
  · rw [Nat.min_eq_left h, List.take_of_length_le (by simp)]
  · rw [Nat.min_eq_right (by omega), List.drop_eq_nil_of_le (by omega), List.drop_eq_nil_of_le (by omega)]; simp
theorem insert_ok {ds : List D} {i : Nat} {x : D} (h : ds.length < 1000000) (hi : i < 1000000) : mInsert (.lst ds) [.int (i : Int), x] = some (.lst (ds.take i ++ [x] ++ ds.drop i), .non) := by
  show (if ds.length < 1000000 ∧ 0 ≤ (i : Int) ∧ (i : Int) < 1000000 then some (D.lst (ds.take (i : Int).toNat ++ [x] ++ ds.drop (i : Int).toNat), D.non) else none) = _
  rw [if_pos ⟨h, by omega, by omega⟩, Int.toNat_natCast]
theorem append_ok {ds : List D} {x : D} (h : ds.length < 1000000) : mAppend (.lst ds) [x] = some (.lst (ds ++ [x]), .non) := if_pos h
theorem extend_ok {ds es : List D} (h : ds.length + es.length ≤ 1000000) : mExtend (.lst ds) [.lst es] = some (.lst (ds ++ es), .non) := if_pos h
theorem addL_ok {a b : List D} (h : a.length + b.length ≤ 1000000) : dAdd (.lst a) (.lst b) = some (.own (.lst (a ++ b))) := if_pos h
theorem addT_ok {a b : List D} (h : a.length + b.length ≤ 1000000) : dAdd (.tup a) (.tup b) = some (.fro (.tup (a ++ b))) := if_pos h
structure Rd where
  a : Nat
  b : Nat
  lo : Nat
  hi : Nat
def rdD (r : Rd) : D := .tup [.int r.a, .int r.b, .int r.lo, .int r.hi]
structure Web where
  n : Nat
  rs : List Rd
def webD (w : Web) : D := .tup [.int w.n, .tup (w.rs.map rdD)]
structure WebOk (w : Web) (hn mx : Nat) : Prop where
  n1 : 1 ≤ w.n
  nh : w.n ≤ hn
  rm : w.rs.length ≤ mx
  ab : ∀ r ∈ w.rs, r.a < r.b ∧ r.b < w.n
  lh : ∀ r ∈ w.rs, r.lo ≤ r.hi ∧ r.hi ≤ 99
  /-- all houses are joined: by a numbering in which each but the first has a road to an earlier one -/
  cn : ∃ nm : List Nat, nm.length = w.n ∧ nm.Nodup ∧ (∀ x ∈ nm, x < w.n) ∧ ∀ h, 1 ≤ h → h < w.n → ∃ a r, a < h ∧ r ∈ w.rs ∧ ((nm[a]? = some r.a ∧ nm[h]? = some r.b) ∨ (nm[a]? = some r.b ∧ nm[h]? = some r.a))
@[simp] theorem ix_web0 (w : Web) : dIx (webD w) (.int 0) = some (.fro (.int w.n)) := rfl
@[simp] theorem ix_web1 (w : Web) : dIx (webD w) (.int 1) = some (.fro (.tup (w.rs.map rdD))) := rfl
@[simp] theorem deref_web (s : Sg) (w : Web) : deref s (webD w) = webD w := rfl
@[simp] theorem deref_rd (s : Sg) (w : Rd) : deref s (rdD w) = rdD w := rfl
@[simp] theorem sl_rd2 (r : Rd) : dSl (rdD r) none (some 2) = some (.fro (.tup [.int r.a, .int r.b])) := rfl
@[simp] theorem ix_rd0 (r : Rd) : dIx (rdD r) (.int 0) = some (.fro (.int r.a)) := rfl
@[simp] theorem ix_rd1 (r : Rd) : dIx (rdD r) (.int 1) = some (.fro (.int r.b)) := rfl
@[simp] theorem ix_rd2 (r : Rd) : dIx (rdD r) (.int 2) = some (.fro (.int r.lo)) := rfl
@[simp] theorem ix_rd3 (r : Rd) : dIx (rdD r) (.int 3) = some (.fro (.int r.hi)) := rfl
theorem ix_roads {w : Web} {i : Nat} {r : Rd} (h : w.rs[i]? = some r) : dIx (.tup (w.rs.map rdD)) (.int (i : Int)) = some (.fro (rdD r)) := dIx_tup (by simp [h])
end Pv

namespace Pv
open PySem PySem.Spec L2
@[simp] theorem isi_bool_NoneType : isiB "bool" .non = some (.fro (.bl false)) := by show (kitB "NoneType" "bool").map (fun b => RV.fro (.bl b)) = _; rw [show kitB "NoneType" "bool" = some false by decide +kernel]; rfl
@[simp] theorem isi_bool_bool (x : Bool) : isiB "bool" (.bl x) = some (.fro (.bl true)) := by show (kitB "bool" "bool").map (fun b => RV.fro (.bl b)) = _; rw [show kitB "bool" "bool" = some true by decide +kernel]; rfl
@[simp] theorem isi_bool_int (x : Int) : isiB "bool" (.int x) = some (.fro (.bl false)) := by show (kitB "int" "bool").map (fun b => RV.fro (.bl b)) = _; rw [show kitB "int" "bool" = some false by decide +kernel]; rfl
@[simp] theorem isi_bool_str (x : Str) : isiB "bool" (.str x) = some (.fro (.bl false)) := by show (kitB "str" "bool").map (fun b => RV.fro (.bl b)) = _; rw [show kitB "str" "bool" = some false by decide +kernel]; rfl
@[simp] theorem isi_bool_tuple (x : List D) : isiB "bool" (.tup x) = some (.fro (.bl false)) := by show (kitB "tuple" "bool").map (fun b => RV.fro (.bl b)) = _; rw [show kitB "tuple" "bool" = some false by decide +kernel]; rfl
@[simp] theorem isi_bool_list (x : List D) : isiB "bool" (.lst x) = some (.fro (.bl false)) := by show (kitB "list" "bool").map (fun b => RV.fro (.bl b)) = _; rw [show kitB "list" "bool" = some false by decide +kernel]; rfl
@[simp] theorem isi_bool_dict (t : Bool) (x : List (D × D)) : isiB "bool" (.dct t x) = some (.fro (.bl false)) := by cases t <;> (show (kitB "dict" "bool").map (fun b => RV.fro (.bl b)) = _; rw [show kitB "dict" "bool" = some false by decide +kernel]; rfl)
@[simp] theorem isi_int_NoneType : isiB "int" .non = some (.fro (.bl false)) := by show (kitB "NoneType" "int").map (fun b => RV.fro (.bl b)) = _; rw [show kitB "NoneType" "int" = some false by decide +kernel]; rfl
@[simp] theorem isi_int_bool (x : Bool) : isiB "int" (.bl x) = some (.fro (.bl true)) := by show (kitB "bool" "int").map (fun b => RV.fro (.bl b)) = _; rw [show kitB "bool" "int" = some true by decide +kernel]; rfl
@[simp] theorem isi_int_int (x : Int) : isiB "int" (.int x) = some (.fro (.bl true)) := by show (kitB "int" "int").map (fun b => RV.fro (.bl b)) = _; rw [show kitB "int" "int" = some true by decide +kernel]; rfl
@[simp] theorem isi_int_str (x : Str) : isiB "int" (.str x) = some (.fro (.bl false)) := by show (kitB "str" "int").map (fun b => RV.fro (.bl b)) = _; rw [show kitB "str" "int" = some false by decide +kernel]; rfl
@[simp] theorem isi_int_tuple (x : List D) : isiB "int" (.tup x) = some (.fro (.bl false)) := by show (kitB "tuple" "int").map (fun b => RV.fro (.bl b)) = _; rw [show kitB "tuple" "int" = some false by decide +kernel]; rfl
@[simp] theorem isi_int_list (x : List D) : isiB "int" (.lst x) = some (.fro (.bl false)) := by show (kitB "list" "int").map (fun b => RV.fro (.bl b)) = _; rw [show kitB "list" "int" = some false by decide +kernel]; rfl
@[simp] theorem isi_int_dict (t : Bool) (x : List (D × D)) : isiB "int" (.dct t x) = some (.fro (.bl false)) := by cases t <;> (show (kitB "dict" "int").map (fun b => RV.fro (.bl b)) = _; rw [show kitB "dict" "int" = some false by decide +kernel]; rfl)
@[simp] theorem isi_str_NoneType : isiB "str" .non = some (.fro (.bl false)) := by show (kitB "NoneType" "str").map (fun b => RV.fro (.bl b)) = _; rw [show kitB "NoneType" "str" = some false by decide +kernel]; rfl
@[simp] theorem isi_str_bool (x : Bool) : isiB "str" (.bl x) = some (.fro (.bl false)) := by show (kitB "bool" "str").map (fun b => RV.fro (.bl b)) = _; rw [show kitB "bool" "str" = some false by decide +kernel]; rfl
@[simp] theorem isi_str_int (x : Int) : isiB "str" (.int x) = some (.fro (.bl false)) := by show (kitB "int" "str").map (fun b => RV.fro (.bl b)) = _; rw [show kitB "int" "str" = some false by decide +kernel]; rfl
@[simp] theorem isi_str_str (x : Str) : isiB "str" (.str x) = some (.fro (.bl true)) := by show (kitB "str" "str").map (fun b => RV.fro (.bl b)) = _; rw [show kitB "str" "str" = some true by decide +kernel]; rfl
@[simp] theorem isi_str_tuple (x : List D) : isiB "str" (.tup x) = some (.fro (.bl false)) := by show (kitB "tuple" "str").map (fun b => RV.fro (.bl b)) = _; rw [show kitB "tuple" "str" = some false by decide +kernel]; rfl
@[simp] theorem isi_str_list (x : List D) : isiB "str" (.lst x) = some (.fro (.bl false)) := by show (kitB "list" "str").map (fun b => RV.fro (.bl b)) = _; rw [show kitB "list" "str" = some false by decide +kernel]; rfl
@[simp] theorem isi_str_dict (t : Bool) (x : List (D × D)) : isiB "str" (.dct t x) = some (.fro (.bl false)) := by cases t <;> (show (kitB "dict" "str").map (fun b => RV.fro (.bl b)) = _; rw [show kitB "dict" "str" = some false by decide +kernel]; rfl)
@[simp] theorem isi_tuple_NoneType : isiB "tuple" .non = some (.fro (.bl false)) := by show (kitB "NoneType" "tuple").map (fun b => RV.fro (.bl b)) = _; rw [show kitB "NoneType" "tuple" = some false by decide +kernel]; rfl
@[simp] theorem isi_tuple_bool (x : Bool) : isiB "tuple" (.bl x) = some (.fro (.bl false)) := by show (kitB "bool" "tuple").map (fun b => RV.fro (.bl b)) = _; rw [show kitB "bool" "tuple" = some false by decide +kernel]; rfl
@[simp] theorem isi_tuple_int (x : Int) : isiB "tuple" (.int x) = some (.fro (.bl false)) := by show (kitB "int" "tuple").map (fun b => RV.fro (.bl b)) = _; rw [show kitB "int" "tuple" = some false by decide +kernel]; rfl
@[simp] theorem isi_tuple_str (x : Str) : isiB "tuple" (.str x) = some (.fro (.bl false)) := by show (kitB "str" "tuple").map (fun b => RV.fro (.bl b)) = _; rw [show kitB "str" "tuple" = some false by decide +kernel]; rfl
@[simp] theorem isi_tuple_tuple (x : List D) : isiB "tuple" (.tup x) = some (.fro (.bl true)) := by show (kitB "tuple" "tuple").map (fun b => RV.fro (.bl b)) = _; rw [show kitB "tuple" "tuple" = some true by decide +kernel]; rfl
@[simp] theorem isi_tuple_list (x : List D) : isiB "tuple" (.lst x) = some (.fro (.bl false)) := by show (kitB "list" "tuple").map (fun b => RV.fro (.bl b)) = _; rw [show kitB "list" "tuple" = some false by decide +kernel]; rfl
@[simp] theorem isi_tuple_dict (t : Bool) (x : List (D × D)) : isiB "tuple" (.dct t x) = some (.fro (.bl false)) := by cases t <;> (show (kitB "dict" "tuple").map (fun b => RV.fro (.bl b)) = _; rw [show kitB "dict" "tuple" = some false by decide +kernel]; rfl)
@[simp] theorem isi_list_NoneType : isiB "list" .non = some (.fro (.bl false)) := by show (kitB "NoneType" "list").map (fun b => RV.fro (.bl b)) = _; rw [show kitB "NoneType" "list" = some false by decide +kernel]; rfl
@[simp] theorem isi_list_bool (x : Bool) : isiB "list" (.bl x) = some (.fro (.bl false)) := by show (kitB "bool" "list").map (fun b => RV.fro (.bl b)) = _; rw [show kitB "bool" "list" = some false by decide +kernel]; rfl
@[simp] theorem isi_list_int (x : Int) : isiB "list" (.int x) = some (.fro (.bl false)) := by show (kitB "int" "list").map (fun b => RV.fro (.bl b)) = _; rw [show kitB "int" "list" = some false by decide +kernel]; rfl
@[simp] theorem isi_list_str (x : Str) : isiB "list" (.str x) = some (.fro (.bl false)) := by show (kitB "str" "list").map (fun b => RV.fro (.bl b)) = _; rw [show kitB "str" "list" = some false by decide +kernel]; rfl
@[simp] theorem isi_list_tuple (x : List D) : isiB "list" (.tup x) = some (.fro (.bl false)) := by show (kitB "tuple" "list").map (fun b => RV.fro (.bl b)) = _; rw [show kitB "tuple" "list" = some false by decide +kernel]; rfl
@[simp] theorem isi_list_list (x : List D) : isiB "list" (.lst x) = some (.fro (.bl true)) := by show (kitB "list" "list").map (fun b => RV.fro (.bl b)) = _; rw [show kitB "list" "list" = some true by decide +kernel]; rfl
@[simp] theorem isi_list_dict (t : Bool) (x : List (D × D)) : isiB "list" (.dct t x) = some (.fro (.bl false)) := by cases t <;> (show (kitB "dict" "list").map (fun b => RV.fro (.bl b)) = _; rw [show kitB "dict" "list" = some false by decide +kernel]; rfl)
@[simp] theorem isi_dict_NoneType : isiB "dict" .non = some (.fro (.bl false)) := by show (kitB "NoneType" "dict").map (fun b => RV.fro (.bl b)) = _; rw [show kitB "NoneType" "dict" = some false by decide +kernel]; rfl
@[simp] theorem isi_dict_bool (x : Bool) : isiB "dict" (.bl x) = some (.fro (.bl false)) := by show (kitB "bool" "dict").map (fun b => RV.fro (.bl b)) = _; rw [show kitB "bool" "dict" = some false by decide +kernel]; rfl
@[simp] theorem isi_dict_int (x : Int) : isiB "dict" (.int x) = some (.fro (.bl false)) := by show (kitB "int" "dict").map (fun b => RV.fro (.bl b)) = _; rw [show kitB "int" "dict" = some false by decide +kernel]; rfl
@[simp] theorem isi_dict_str (x : Str) : isiB "dict" (.str x) = some (.fro (.bl false)) := by show (kitB "str" "dict").map (fun b => RV.fro (.bl b)) = _; rw [show kitB "str" "dict" = some false by decide +kernel]; rfl
@[simp] theorem isi_dict_tuple (x : List D) : isiB "dict" (.tup x) = some (.fro (.bl false)) := by show (kitB "tuple" "dict").map (fun b => RV.fro (.bl b)) = _; rw [show kitB "tuple" "dict" = some false by decide +kernel]; rfl
@[simp] theorem isi_dict_list (x : List D) : isiB "dict" (.lst x) = some (.fro (.bl false)) := by show (kitB "list" "dict").map (fun b => RV.fro (.bl b)) = _; rw [show kitB "list" "dict" = some false by decide +kernel]; rfl
@[simp] theorem isi_dict_dict (t : Bool) (x : List (D × D)) : isiB "dict" (.dct t x) = some (.fro (.bl true)) := by cases t <;> (show (kitB "dict" "dict").map (fun b => RV.fro (.bl b)) = _; rw [show kitB "dict" "dict" = some true by decide +kernel]; rfl)
@[simp] theorem isis_int_str_NoneType : isiBs ["int", "str"] .non = some (.fro (.bl false)) := by (show (isiAny ["int", "str"] "NoneType").map (fun b => RV.fro (.bl b)) = _; rw [show isiAny ["int", "str"] "NoneType" = some false by decide +kernel]; rfl)
@[simp] theorem isis_int_str_bool (x : Bool) : isiBs ["int", "str"] (.bl x) = some (.fro (.bl true)) := by (show (isiAny ["int", "str"] "bool").map (fun b => RV.fro (.bl b)) = _; rw [show isiAny ["int", "str"] "bool" = some true by decide +kernel]; rfl)
@[simp] theorem isis_int_str_int (x : Int) : isiBs ["int", "str"] (.int x) = some (.fro (.bl true)) := by (show (isiAny ["int", "str"] "int").map (fun b => RV.fro (.bl b)) = _; rw [show isiAny ["int", "str"] "int" = some true by decide +kernel]; rfl)
@[simp] theorem isis_int_str_str (x : Str) : isiBs ["int", "str"] (.str x) = some (.fro (.bl true)) := by (show (isiAny ["int", "str"] "str").map (fun b => RV.fro (.bl b)) = _; rw [show isiAny ["int", "str"] "str" = some true by decide +kernel]; rfl)
@[simp] theorem isis_int_str_tuple (x : List D) : isiBs ["int", "str"] (.tup x) = some (.fro (.bl false)) := by (show (isiAny ["int", "str"] "tuple").map (fun b => RV.fro (.bl b)) = _; rw [show isiAny ["int", "str"] "tuple" = some false by decide +kernel]; rfl)
@[simp] theorem isis_int_str_list (x : List D) : isiBs ["int", "str"] (.lst x) = some (.fro (.bl false)) := by (show (isiAny ["int", "str"] "list").map (fun b => RV.fro (.bl b)) = _; rw [show isiAny ["int", "str"] "list" = some false by decide +kernel]; rfl)
@[simp] theorem isis_int_str_dict (t : Bool) (x : List (D × D)) : isiBs ["int", "str"] (.dct t x) = some (.fro (.bl false)) := by cases t <;> (show (isiAny ["int", "str"] "dict").map (fun b => RV.fro (.bl b)) = _; rw [show isiAny ["int", "str"] "dict" = some false by decide +kernel]; rfl)
@[simp] theorem isis_tuple_list_NoneType : isiBs ["tuple", "list"] .non = some (.fro (.bl false)) := by (show (isiAny ["tuple", "list"] "NoneType").map (fun b => RV.fro (.bl b)) = _; rw [show isiAny ["tuple", "list"] "NoneType" = some false by decide +kernel]; rfl)
@[simp] theorem isis_tuple_list_bool (x : Bool) : isiBs ["tuple", "list"] (.bl x) = some (.fro (.bl false)) := by (show (isiAny ["tuple", "list"] "bool").map (fun b => RV.fro (.bl b)) = _; rw [show isiAny ["tuple", "list"] "bool" = some false by decide +kernel]; rfl)
@[simp] theorem isis_tuple_list_int (x : Int) : isiBs ["tuple", "list"] (.int x) = some (.fro (.bl false)) := by (show (isiAny ["tuple", "list"] "int").map (fun b => RV.fro (.bl b)) = _; rw [show isiAny ["tuple", "list"] "int" = some false by decide +kernel]; rfl)
@[simp] theorem isis_tuple_list_str (x : Str) : isiBs ["tuple", "list"] (.str x) = some (.fro (.bl false)) := by (show (isiAny ["tuple", "list"] "str").map (fun b => RV.fro (.bl b)) = _; rw [show isiAny ["tuple", "list"] "str" = some false by decide +kernel]; rfl)
@[simp] theorem isis_tuple_list_tuple (x : List D) : isiBs ["tuple", "list"] (.tup x) = some (.fro (.bl true)) := by (show (isiAny ["tuple", "list"] "tuple").map (fun b => RV.fro (.bl b)) = _; rw [show isiAny ["tuple", "list"] "tuple" = some true by decide +kernel]; rfl)
@[simp] theorem isis_tuple_list_list (x : List D) : isiBs ["tuple", "list"] (.lst x) = some (.fro (.bl true)) := by (show (isiAny ["tuple", "list"] "list").map (fun b => RV.fro (.bl b)) = _; rw [show isiAny ["tuple", "list"] "list" = some true by decide +kernel]; rfl)
@[simp] theorem isis_tuple_list_dict (t : Bool) (x : List (D × D)) : isiBs ["tuple", "list"] (.dct t x) = some (.fro (.bl false)) := by cases t <;> (show (isiAny ["tuple", "list"] "dict").map (fun b => RV.fro (.bl b)) = _; rw [show isiAny ["tuple", "list"] "dict" = some false by decide +kernel]; rfl)
@[simp] theorem isis_list_tuple_NoneType : isiBs ["list", "tuple"] .non = some (.fro (.bl false)) := by (show (isiAny ["list", "tuple"] "NoneType").map (fun b => RV.fro (.bl b)) = _; rw [show isiAny ["list", "tuple"] "NoneType" = some false by decide +kernel]; rfl)
@[simp] theorem isis_list_tuple_bool (x : Bool) : isiBs ["list", "tuple"] (.bl x) = some (.fro (.bl false)) := by (show (isiAny ["list", "tuple"] "bool").map (fun b => RV.fro (.bl b)) = _; rw [show isiAny ["list", "tuple"] "bool" = some false by decide +kernel]; rfl)
@[simp] theorem isis_list_tuple_int (x : Int) : isiBs ["list", "tuple"] (.int x) = some (.fro (.bl false)) := by (show (isiAny ["list", "tuple"] "int").map (fun b => RV.fro (.bl b)) = _; rw [show isiAny ["list", "tuple"] "int" = some false by decide +kernel]; rfl)
@[simp] theorem isis_list_tuple_str (x : Str) : isiBs ["list", "tuple"] (.str x) = some (.fro (.bl false)) := by (show (isiAny ["list", "tuple"] "str").map (fun b => RV.fro (.bl b)) = _; rw [show isiAny ["list", "tuple"] "str" = some false by decide +kernel]; rfl)
@[simp] theorem isis_list_tuple_tuple (x : List D) : isiBs ["list", "tuple"] (.tup x) = some (.fro (.bl true)) := by (show (isiAny ["list", "tuple"] "tuple").map (fun b => RV.fro (.bl b)) = _; rw [show isiAny ["list", "tuple"] "tuple" = some true by decide +kernel]; rfl)
@[simp] theorem isis_list_tuple_list (x : List D) : isiBs ["list", "tuple"] (.lst x) = some (.fro (.bl true)) := by (show (isiAny ["list", "tuple"] "list").map (fun b => RV.fro (.bl b)) = _; rw [show isiAny ["list", "tuple"] "list" = some true by decide +kernel]; rfl)
@[simp] theorem isis_list_tuple_dict (t : Bool) (x : List (D × D)) : isiBs ["list", "tuple"] (.dct t x) = some (.fro (.bl false)) := by cases t <;> (show (isiAny ["list", "tuple"] "dict").map (fun b => RV.fro (.bl b)) = _; rw [show isiAny ["list", "tuple"] "dict" = some false by decide +kernel]; rfl)
@[simp] theorem isis_int_bool_NoneType : isiBs ["int", "bool"] .non = some (.fro (.bl false)) := by (show (isiAny ["int", "bool"] "NoneType").map (fun b => RV.fro (.bl b)) = _; rw [show isiAny ["int", "bool"] "NoneType" = some false by decide +kernel]; rfl)
@[simp] theorem isis_int_bool_bool (x : Bool) : isiBs ["int", "bool"] (.bl x) = some (.fro (.bl true)) := by (show (isiAny ["int", "bool"] "bool").map (fun b => RV.fro (.bl b)) = _; rw [show isiAny ["int", "bool"] "bool" = some true by decide +kernel]; rfl)
@[simp] theorem isis_int_bool_int (x : Int) : isiBs ["int", "bool"] (.int x) = some (.fro (.bl true)) := by (show (isiAny ["int", "bool"] "int").map (fun b => RV.fro (.bl b)) = _; rw [show isiAny ["int", "bool"] "int" = some true by decide +kernel]; rfl)
@[simp] theorem isis_int_bool_str (x : Str) : isiBs ["int", "bool"] (.str x) = some (.fro (.bl false)) := by (show (isiAny ["int", "bool"] "str").map (fun b => RV.fro (.bl b)) = _; rw [show isiAny ["int", "bool"] "str" = some false by decide +kernel]; rfl)
@[simp] theorem isis_int_bool_tuple (x : List D) : isiBs ["int", "bool"] (.tup x) = some (.fro (.bl false)) := by (show (isiAny ["int", "bool"] "tuple").map (fun b => RV.fro (.bl b)) = _; rw [show isiAny ["int", "bool"] "tuple" = some false by decide +kernel]; rfl)
@[simp] theorem isis_int_bool_list (x : List D) : isiBs ["int", "bool"] (.lst x) = some (.fro (.bl false)) := by (show (isiAny ["int", "bool"] "list").map (fun b => RV.fro (.bl b)) = _; rw [show isiAny ["int", "bool"] "list" = some false by decide +kernel]; rfl)
@[simp] theorem isis_int_bool_dict (t : Bool) (x : List (D × D)) : isiBs ["int", "bool"] (.dct t x) = some (.fro (.bl false)) := by cases t <;> (show (isiAny ["int", "bool"] "dict").map (fun b => RV.fro (.bl b)) = _; rw [show isiAny ["int", "bool"] "dict" = some false by decide +kernel]; rfl)
@[simp] theorem isis_bool_int_NoneType : isiBs ["bool", "int"] .non = some (.fro (.bl false)) := by (show (isiAny ["bool", "int"] "NoneType").map (fun b => RV.fro (.bl b)) = _; rw [show isiAny ["bool", "int"] "NoneType" = some false by decide +kernel]; rfl)
@[simp] theorem isis_bool_int_bool (x : Bool) : isiBs ["bool", "int"] (.bl x) = some (.fro (.bl true)) := by (show (isiAny ["bool", "int"] "bool").map (fun b => RV.fro (.bl b)) = _; rw [show isiAny ["bool", "int"] "bool" = some true by decide +kernel]; rfl)
@[simp] theorem isis_bool_int_int (x : Int) : isiBs ["bool", "int"] (.int x) = some (.fro (.bl true)) := by (show (isiAny ["bool", "int"] "int").map (fun b => RV.fro (.bl b)) = _; rw [show isiAny ["bool", "int"] "int" = some true by decide +kernel]; rfl)
@[simp] theorem isis_bool_int_str (x : Str) : isiBs ["bool", "int"] (.str x) = some (.fro (.bl false)) := by (show (isiAny ["bool", "int"] "str").map (fun b => RV.fro (.bl b)) = _; rw [show isiAny ["bool", "int"] "str" = some false by decide +kernel]; rfl)
@[simp] theorem isis_bool_int_tuple (x : List D) : isiBs ["bool", "int"] (.tup x) = some (.fro (.bl false)) := by (show (isiAny ["bool", "int"] "tuple").map (fun b => RV.fro (.bl b)) = _; rw [show isiAny ["bool", "int"] "tuple" = some false by decide +kernel]; rfl)
@[simp] theorem isis_bool_int_list (x : List D) : isiBs ["bool", "int"] (.lst x) = some (.fro (.bl false)) := by (show (isiAny ["bool", "int"] "list").map (fun b => RV.fro (.bl b)) = _; rw [show isiAny ["bool", "int"] "list" = some false by decide +kernel]; rfl)
@[simp] theorem isis_bool_int_dict (t : Bool) (x : List (D × D)) : isiBs ["bool", "int"] (.dct t x) = some (.fro (.bl false)) := by cases t <;> (show (isiAny ["bool", "int"] "dict").map (fun b => RV.fro (.bl b)) = _; rw [show isiAny ["bool", "int"] "dict" = some false by decide +kernel]; rfl)
@[simp] theorem is_non_bool (x : Bool) : dIs (.bl x) .non = some (.fro (.bl false)) := rfl
@[simp] theorem isnot_non_bool (x : Bool) : dIsNot (.bl x) .non = some (.fro (.bl true)) := rfl
@[simp] theorem is_non_int (x : Int) : dIs (.int x) .non = some (.fro (.bl false)) := rfl
@[simp] theorem isnot_non_int (x : Int) : dIsNot (.int x) .non = some (.fro (.bl true)) := rfl
@[simp] theorem is_non_str (x : Str) : dIs (.str x) .non = some (.fro (.bl false)) := rfl
@[simp] theorem isnot_non_str (x : Str) : dIsNot (.str x) .non = some (.fro (.bl true)) := rfl
@[simp] theorem is_non_tuple (x : List D) : dIs (.tup x) .non = some (.fro (.bl false)) := rfl
@[simp] theorem isnot_non_tuple (x : List D) : dIsNot (.tup x) .non = some (.fro (.bl true)) := rfl
@[simp] theorem is_non_list (x : List D) : dIs (.lst x) .non = some (.fro (.bl false)) := rfl
@[simp] theorem isnot_non_list (x : List D) : dIsNot (.lst x) .non = some (.fro (.bl true)) := rfl
@[simp] theorem is_non_dict (t : Bool) (x : List (D × D)) : dIs (.dct t x) .non = some (.fro (.bl false)) := rfl
@[simp] theorem isnot_non_dict (t : Bool) (x : List (D × D)) : dIsNot (.dct t x) .non = some (.fro (.bl true)) := rfl
@[simp] theorem isnot_non : dIsNot .non .non = some (.fro (.bl false)) := rfl
@[simp] theorem tru_bl (b : Bool) : tru (.bl b) = some b := rfl
@[simp] theorem tru_int (i : Int) : tru (.int i) = some (i != 0) := rfl
@[simp] theorem tru_lst (i : List D) : tru (.lst i) = some (!i.isEmpty) := rfl
@[simp] theorem tru_tup (i : List D) : tru (.tup i) = some (!i.isEmpty) := rfl
/-- numbers -/
def nD (k : Nat) : D := .int (k : Int)
theorem upToN (n : Nat) : upTo 0 n = (List.range n).map nD := upTo0 n
def tU (xs : List Nat) : D := .tup (xs.map nD)
theorem nD_ints (xs : List Nat) : xs.map nD = (xs.map fun k : Nat => (k : Int)).map D.int := by
  rw [List.map_map]; rfl
theorem mem_cast {x : Nat} {xs : List Nat} : ((x : Int) ∈ xs.map fun k : Nat => (k : Int)) ↔ x ∈ xs := by
  rw [List.mem_map]
  constructor
  · rintro ⟨y, h, e⟩
    have : y = x := by omega
    rwa [← this]
  · exact fun h => ⟨x, h, rfl⟩
theorem dIn_nat (x : Nat) (ys : List Nat) : dIn (.int (x : Int)) (.tup (ys.map nD)) = some (.fro (.bl (decide (x ∈ ys)))) := by
  rw [nD_ints, dIn_ints]; simp only [mem_cast]
theorem dIn_natL (x : Nat) (ys : List Nat) : dIn (.int (x : Int)) (.lst (ys.map nD)) = some (.fro (.bl (decide (x ∈ ys)))) := by
  rw [nD_ints, dIn_intsL]; simp only [mem_cast]
theorem dNotIn_nat (x : Nat) (ys : List Nat) : dNotIn (.int (x : Int)) (.tup (ys.map nD)) = some (.fro (.bl (!decide (x ∈ ys)))) := by
  rw [nD_ints, dNotIn_ints]; simp only [mem_cast]
theorem dNotIn_natL (x : Nat) (ys : List Nat) : dNotIn (.int (x : Int)) (.lst (ys.map nD)) = some (.fro (.bl (!decide (x ∈ ys)))) := by
  rw [nD_ints, dNotIn_intsL]; simp only [mem_cast]
@[simp] theorem deref_tU (s : Sg) (xs : List Nat) : deref s (tU xs) = tU xs := rfl
@[simp] theorem deref_nD (s : Sg) (k : Nat) : deref s (nD k) = nD k := rfl
theorem sort_tU {xs ys : List (List Nat)} (h : xs.Perm ys) : (xs.map tU).mergeSort dle = (ys.map tU).mergeSort dle := by
  have e : tU = fun xs : List Nat => tN (xs.map fun k : Nat => (k : Int)) := by
    funext xs
    rw [tU, tN, nD_ints]
  have e2 : ∀ zs : List (List Nat), zs.map tU = (zs.map fun xs => xs.map fun k : Nat => (k : Int)).map tN := fun zs => by rw [e, List.map_map]; rfl
  rw [e2, e2]
  exact sort_eq (h.map _)
theorem dSorted_tU {xs : List (List Nat)} (hl : xs.length ≤ 1000000) (h : ∀ x ∈ xs, x ≠ []) : dSorted [.lst (xs.map tU)] = some (.own (.lst ((xs.map tU).mergeSort dle))) := by
  have e : tU = fun xs : List Nat => tN (xs.map fun k : Nat => (k : Int)) := by
    funext xs
    rw [tU, tN, nD_ints]
  have e2 : xs.map tU = (xs.map fun xs => xs.map fun k : Nat => (k : Int)).map tN := by rw [e, List.map_map]; rfl
  rw [e2]
  refine dSorted_tN (by rw [List.length_map]; exact hl) fun x hx => ?_
  obtain ⟨y, hy, rfl⟩ := List.mem_map.mp hx
  exact fun z => h y hy (List.map_eq_nil_iff.mp z)
theorem rng_len {w : Web} (h : w.rs.length ≤ 1000000) : small62 (w.rs.length : Int) = true := small62_nat h
end Pv

namespace Pv
open PySem PySem.Spec L2
mutual
/-- no cell within -/
def hdFree : D → Bool
  | .hd _ => false
  | .tup xs => hdFreeAll xs
  | .lst xs => hdFreeAll xs
  | .dct _ kvs => hdFreeKv kvs
  | _ => true
def hdFreeAll : List D → Bool
  | [] => true
  | x :: xs => hdFree x && hdFreeAll xs
def hdFreeKv : List (D × D) → Bool
  | [] => true
  | (_, x) :: xs => hdFree x && hdFreeKv xs
end
section
variable {K : PySem.W.Frag} {φ : List Addr} {G : Hp}
mutual
theorem Rep.noHd : ∀ {v : V} {d : D}, hdFree d = true → Rep K φ G v d → Rep K [] G v d
  | _, _, _, .non => .non
  | _, _, _, .bl b => .bl b
  | _, _, _, .int b => .int b
  | _, _, _, .str b => .str b
  | _, _, h, .tup s a => .tup s (RepA.noHd (by rw [hdFree] at h; exact h) a)
  | _, _, h, .lst s a => .lst s (RepA.noHd (by rw [hdFree] at h; exact h) a)
  | _, _, h, .dK s a => .dK s (RepK.noHd (by rw [hdFree] at h; exact h) a)
  | _, _, h, .dT s a => .dT s (RepT.noHd (by rw [hdFree] at h; exact h) a)
  | _, _, h, .hd e => by rw [hdFree] at h; cases h
  | _, _, _, .scr e => .scr e
theorem RepA.noHd : ∀ {v : List V} {d : List D}, hdFreeAll d = true → RepA K φ G v d → RepA K [] G v d
  | _, _, _, .nil => .nil
  | _, _, h, .cons a b => by
    rw [hdFreeAll, Bool.and_eq_true] at h
    exact .cons (Rep.noHd h.1 a) (RepA.noHd h.2 b)
theorem RepK.noHd : ∀ {v : List (Key × V)} {d : List (D × D)}, hdFreeKv d = true → RepK K φ G v d → RepK K [] G v d
  | _, _, _, .nil => .nil
  | _, _, h, .cons a b => by
    rw [hdFreeKv, Bool.and_eq_true] at h
    exact .cons (Rep.noHd h.1 a) (RepK.noHd h.2 b)
theorem RepT.noHd : ∀ {v : List (List Key × V)} {d : List (D × D)}, hdFreeKv d = true → RepT K φ G v d → RepT K [] G v d
  | _, _, _, .nil => .nil
  | _, _, h, .cons a b => by
    rw [hdFreeKv, Bool.and_eq_true] at h
    exact .cons (Rep.noHd h.1 a) (RepT.noHd h.2 b)
end
theorem Own.noHd {o : HO} {d : D} (h : hdFree d = true) (w : Own K φ G o d) : Own K [] G o d := by
  cases w with
  | lst r => exact .lst (RepA.noHd (by rw [hdFree] at h; exact h) r)
  | dK r => exact .dK (RepK.noHd (by rw [hdFree] at h; exact h) r)
  | dT r => exact .dT (RepT.noHd (by rw [hdFree] at h; exact h) r)
end
def quietSlot : Slot → Slot
  | .own d => if hdFree d then .fro d else .non
  | .fro d => if hdFree d then .fro d else .non
  | .non => .non
def scalarD : D → Bool
  | .non => true
  | .bl _ => true
  | .int _ => true
  | .str _ => true
  | _ => false
theorem scalar_any {K : PySem.W.Frag} {φ φ' : List Addr} {G G' : Hp} {v : V} {d : D} (h : scalarD d = true) (r : Rep K φ G v d) : Rep K φ' G' v d := by
  cases r with
  | non => exact .non
  | bl b => exact .bl b
  | int b => exact .int b
  | str b => exact .str b
  | _ => cases h
def kQuiet (s : Sg) (p : RV × Sg) : Option (RV × Sg) := match p.1 with
  | .fro d => if scalarD d then some (.fro d, s) else none
  | .own _ => none
def evQuiet (ev : Ev RV) : Ev RV := fun s => (ev ⟨s.env.map quietSlot, []⟩).bind (kQuiet s)
theorem quietSlot_fro {sl : Slot} {d : D} (h : quietSlot sl = .fro d) : (sl = .fro d ∨ sl = .own d) ∧ hdFree d = true := by
  cases sl with
  | non => cases h
  | fro x =>
    by_cases hf : hdFree x = true
    · have e : quietSlot (.fro x) = .fro x := if_pos hf
      rw [e] at h; cases h
      exact ⟨.inl rfl, hf⟩
    · have e : quietSlot (.fro x) = .non := if_neg hf
      rw [e] at h; cases h
  | own x =>
    by_cases hf : hdFree x = true
    · have e : quietSlot (.own x) = .fro x := if_pos hf
      rw [e] at h; cases h
      exact ⟨.inr rfl, hf⟩
    · have e : quietSlot (.own x) = .non := if_neg hf
      rw [e] at h; cases h
theorem quietSlot_own {sl : Slot} {d : D} (h : quietSlot sl = .own d) : False := by
  cases sl with
  | non => cases h
  | fro x =>
    by_cases hf : hdFree x = true
    · have e : quietSlot (.fro x) = .fro x := if_pos hf
      rw [e] at h; cases h
    · have e : quietSlot (.fro x) = .non := if_neg hf
      rw [e] at h; cases h
  | own x =>
    by_cases hf : hdFree x = true
    · have e : quietSlot (.own x) = .fro x := if_pos hf
      rw [e] at h; cases h
    · have e : quietSlot (.own x) = .non := if_neg hf
      rw [e] at h; cases h
theorem quiet_rel {g : Gh} {G : Hp} {φ : List Addr} {s : Sg} {σ : St} {H : Hp} (R : Rel g G φ s σ H) :
    Rel ⟨g.K, H, fun a => H a ≠ none, fun _ => False, over (ownW s.env σ H) G, []⟩ (over (ownW s.env σ H) G) [] ⟨s.env.map quietSlot, []⟩ σ H := by
  have sm : Same G (over (ownW s.env σ H) G) := fun a o e => by
    unfold over
    cases e2 : ownW s.env σ H a with
    | none => exact e
    | some x =>
      have h1 := (ownW_some e2).1
      have h2 := R.sub a o e
      rw [h1] at h2
      exact h2
  have sh : Same (over (ownW s.env σ H) G) H := fun a o e => by
    rcases over_some e with e | ⟨_, e⟩
    · exact (ownW_some e).1
    · exact R.sub a o e
  refine ⟨sh, Same.refl _, fun a o e => .inl e, Same.refl _, fun a u => u, fun a z => z.elim, List.prefix_refl _, by simpa using R.len, fun i d e => ?_, fun i d e => ?_, fun i j d e p _ h => ?_, rfl, fun n a c e => by simp at e, List.nodup_nil⟩
  · rw [List.getElem?_map] at e
    obtain ⟨sl, e1, e2⟩ := map_some_iff e
    obtain ⟨h | h, hf⟩ := quietSlot_fro e2
    · subst h
      obtain ⟨v, h1, h2⟩ := R.fro i _ e1
      exact ⟨v, h1, Rep.noHd hf (h2.mono sm (List.prefix_refl _))⟩
    · subst h
      obtain ⟨p, o, h1, h2, h3, h4, _⟩ := R.own i _ e1
      refine ⟨.ref p, h1, ?_⟩
      have hw : over (ownW s.env σ H) G p = some o := by
        have : ownW s.env σ H p = some o := by
          unfold ownW
          rw [if_pos ⟨i, _, e1, h1⟩]
          exact h2
        unfold over
        rw [this]
      exact Own.rep sm hw (Own.noHd hf h3)
  · rw [List.getElem?_map] at e
    obtain ⟨sl, e1, e2⟩ := map_some_iff e
    exact (quietSlot_own e2).elim
  · rw [List.getElem?_map] at h
    obtain ⟨sl, e1, e2⟩ := map_some_iff h
    exact (quietSlot_own e2).elim
theorem sr_quiet {X : Cx} {e : Expr} {ev : Ev RV} (h : SR X e ev) : SR X e (evQuiet ev) := pe_imp h fun σ H Q ⟨g, G, φ, s, r, s', hK, R, he, q⟩ => by
  obtain ⟨⟨r1, s1⟩, e1, he⟩ := bind_some_iff he
  cases r1 with
  | own d => cases he
  | fro d =>
    have he : (if scalarD d then some (RV.fro d, s) else none) = some (r, s') := he
    split at he
    · rename_i hs
      cases he
      refine ⟨⟨g.K, H, fun a => H a ≠ none, fun _ => False, over (ownW s.env σ H) G, []⟩, over (ownW s.env σ H) G, [], ⟨s.env.map quietSlot, []⟩, .fro d, s1, hK, quiet_rel R, e1, fun G' φ' H' v R' h1 h2 x => ?_⟩
      have gr : Grow G H G H' := ⟨R'.old, Same.refl _, R.sub.trans R'.old, fun _ _ e => .inl e⟩
      refine q G φ H' v (R.grow gr) (Same.refl _) (List.prefix_refl _) (.fro ?_)
      cases x with
      | fro rp => exact scalar_any hs rp
    · cases he
@[simp] theorem kQuiet_bl (s s1 : Sg) (b : Bool) : kQuiet s (.fro (.bl b), s1) = some (.fro (.bl b), s) := rfl
@[simp] theorem evQuiet_ap (ev : Ev RV) (s : Sg) : evQuiet ev s = (ev ⟨s.env.map quietSlot, []⟩).bind (kQuiet s) := rfl
end Pv

namespace Pv
open PySem PySem.Spec L2
theorem repA_rg {K : PySem.W.Frag} {φ : List Addr} {G : Hp} (a b : Int) : RepA K φ G (rgV a b) (upTo a (b - a).toNat) := by
  have : ∀ l : List Nat, RepA K φ G (l.map fun i => V.int (a + (i : Nat))) (l.map fun i => D.int (a + (i : Nat))) := by
    intro l
    induction l with
    | nil => exact .nil
    | cons x l ih => exact .cons (.int _) ih
  exact this _
def kRgL (p : RV × Sg) : Option (RV × Sg) := match p.1 with
  | .fro (.int j) => if small62 j then some (.own (.lst (upTo 0 j.toNat)), p.2) else none
  | _ => none
def kRgT (p : RV × Sg) : Option (RV × Sg) := match p.1 with
  | .fro (.int j) => if small62 j then some (.fro (.tup (upTo 0 j.toNat)), p.2) else none
  | _ => none
def evRgL (a : Ev RV) : Ev RV := fun s => (a s).bind kRgL
def evRgT (a : Ev RV) : Ev RV := fun s => (a s).bind kRgT
@[simp] theorem evRgL_ap (a : Ev RV) (s : Sg) : evRgL a s = (a s).bind kRgL := rfl
@[simp] theorem evRgT_ap (a : Ev RV) (s : Sg) : evRgT a s = (a s).bind kRgT := rfl
@[simp] theorem kRgL_ap (j : Int) (s : Sg) : kRgL (.fro (.int j), s) = if small62 j then some (.own (.lst (upTo 0 j.toNat)), s) else none := rfl
@[simp] theorem kRgT_ap (j : Int) (s : Sg) : kRgT (.fro (.int j), s) = if small62 j then some (.fro (.tup (upTo 0 j.toNat)), s) else none := rfl
theorem rgOk_small {j : Int} (h : small62 j = true) : RgOk 0 j := by
  unfold small62 at h
  rw [Bool.and_eq_true, decide_eq_true_eq, decide_eq_true_eq] at h
  exact ⟨by omega, by omega, by omega, by omega, by omega⟩
section
variable {X : Cx} {e : Expr} {a : Ev RV} {p p2 pos pos2 : Pos}
/-- list(range(e)) -/
theorem sr_rgL (hc : X.calm = true) (hg : Gl X "list") (hm : X.mg "list" = none) (hg2 : Gl X "range") (hm2 : X.mg "range" = none) (ha : SR X e a) (n1 : starEach [e] X.env = (false, eval e X.env) :: starEach [] X.env := by rfl)
    (n2 : starEach [.Call (.Name "range" p2) [e] [] pos2] X.env = (false, eval (.Call (.Name "range" p2) [e] [] pos2) X.env) :: starEach [] X.env := by rfl) : SR X (.Call (.Name "list" p) [.Call (.Name "range" p2) [e] [] pos2] [] pos) (evRgL a) :=
  pe_imp (pe_listRg hc hg hm (prg_1 hg2 hm2 ha n1) n2) fun σ H Q ⟨g, G, φ, s, r, s', hK, R, he, q⟩ => by
    obtain ⟨⟨x, s1⟩, e1, he⟩ := bind_some_iff he
    cases x with
    | own d => cases he
    | fro d =>
      cases d with
      | int j =>
        have he : (if small62 j then some (RV.own (.lst (upTo 0 j.toNat)), s1) else none) = some (r, s') := he
        split at he
        · rename_i hj
          cases he
          refine ⟨g, G, φ, s, .fro (.int j), _, hK, R, e1, fun G1 φ1 H1 v R1 h1 h2 x => ?_⟩
          cases x with
          | fro rp =>
            cases rp
            refine ⟨j, rfl, rgOk_small hj, fun b hb => ?_⟩
            have gr := Grow.aside R1.sub (o := .lst (rgV 0 j)) hb
            have ra := repA_rg (K := g.K) (φ := φ1) (G := G1) 0 j
            rw [Int.sub_zero] at ra
            exact q G1 φ1 _ _ (R1.grow gr) h1 h2 (.own (Fresh.of_new R1 gr hb upd_same (R1.sub.free hb) (.lst ra)))
        · cases he
      | _ => cases he
/-- tuple(range(e)) -/
theorem sr_rgT (hc : X.calm = true) (hg : Gl X "tuple") (hm : X.mg "tuple" = none) (hg2 : Gl X "range") (hm2 : X.mg "range" = none) (ha : SR X e a) (n1 : starEach [e] X.env = (false, eval e X.env) :: starEach [] X.env := by rfl)
    (n2 : starEach [.Call (.Name "range" p2) [e] [] pos2] X.env = (false, eval (.Call (.Name "range" p2) [e] [] pos2) X.env) :: starEach [] X.env := by rfl) : SR X (.Call (.Name "tuple" p) [.Call (.Name "range" p2) [e] [] pos2] [] pos) (evRgT a) :=
  pe_imp (pe_tupRg hc hg hm (prg_1 hg2 hm2 ha n1) n2) fun σ H Q ⟨g, G, φ, s, r, s', hK, R, he, q⟩ => by
    obtain ⟨⟨x, s1⟩, e1, he⟩ := bind_some_iff he
    cases x with
    | own d => cases he
    | fro d =>
      cases d with
      | int j =>
        have he : (if small62 j then some (RV.fro (.tup (upTo 0 j.toNat)), s1) else none) = some (r, s') := he
        split at he
        · rename_i hj
          cases he
          refine ⟨g, G, φ, s, .fro (.int j), _, hK, R, e1, fun G1 φ1 H1 v R1 h1 h2 x => ?_⟩
          cases x with
          | fro rp =>
            cases rp
            refine ⟨j, rfl, rgOk_small hj, fun b hb => ?_⟩
            have gr := Grow.laid R1.sub (o := .tup (rgV 0 j)) hb
            have ra := repA_rg (K := g.K) (φ := φ1) (G := upd G1 b (.tup (rgV 0 j))) 0 j
            rw [Int.sub_zero] at ra
            exact q _ φ1 _ _ (R1.grow gr) (h1.trans gr.gg) h2 (.fro (.tup upd_same ra))
        · cases he
      | _ => cases he
end
end Pv

namespace Pv
open PySem PySem.Spec L2
/-- put in, where it is not yet -/
def insU (x : Int) : List Int → List Int
  | [] => [x]
  | y :: ys => if x < y then x :: y :: ys else if x = y then y :: ys else y :: insU x ys
def sortU : List Int → List Int
  | [] => []
  | x :: xs => insU x (sortU xs)
theorem insU_mem {x k : Int} : ∀ {ys : List Int}, k ∈ insU x ys ↔ k = x ∨ k ∈ ys
  | [] => by simp [insU]
  | y :: ys => by
    unfold insU
    split
    · simp
    · split
      · rename_i h; subst h; simp
      · rw [List.mem_cons, insU_mem, List.mem_cons]
        constructor
        · rintro (h | h | h)
          · exact .inr (.inl h)
          · exact .inl h
          · exact .inr (.inr h)
        · rintro (h | h | h)
          · exact .inr (.inl h)
          · exact .inl h
          · exact .inr (.inr h)
theorem insU_pair {x : Int} : ∀ {ys : List Int}, ys.Pairwise (· < ·) → (insU x ys).Pairwise (· < ·)
  | [], _ => by simp [insU]
  | y :: ys, h => by
    rw [List.pairwise_cons] at h
    unfold insU
    split
    · rename_i hxy
      rw [List.pairwise_cons]
      refine ⟨fun z hz => ?_, List.pairwise_cons.mpr h⟩
      rcases List.mem_cons.mp hz with rfl | hz
      · exact hxy
      · have := h.1 z hz; omega
    · split
      · exact List.pairwise_cons.mpr h
      · rename_i h1 h2
        rw [List.pairwise_cons]
        refine ⟨fun z hz => ?_, insU_pair h.2⟩
        rcases insU_mem.mp hz with rfl | hz
        · omega
        · exact h.1 z hz
theorem sortU_pair : ∀ xs : List Int, (sortU xs).Pairwise (· < ·)
  | [] => List.Pairwise.nil
  | x :: xs => insU_pair (sortU_pair xs)
theorem sortU_mem {k : Int} : ∀ {xs : List Int}, k ∈ sortU xs ↔ k ∈ xs
  | [] => by simp [sortU]
  | x :: xs => by rw [sortU, insU_mem, sortU_mem, List.mem_cons]
theorem strict_eq : ∀ {xs ys : List Int}, xs.Pairwise (· < ·) → ys.Pairwise (· < ·) → (∀ k, k ∈ xs ↔ k ∈ ys) → xs = ys
  | [], [], _, _, _ => rfl
  | [], y :: ys, _, _, h => absurd ((h y).mpr (.head _)) (by simp)
  | x :: xs, [], _, _, h => absurd ((h x).mp (.head _)) (by simp)
  | x :: xs, y :: ys, h1, h2, h => by
    rw [List.pairwise_cons] at h1 h2
    have e : x = y := by
      have a := (h x).mp (.head _)
      have b := (h y).mpr (.head _)
      rcases List.mem_cons.mp a with a | a
      · exact a
      · rcases List.mem_cons.mp b with b | b
        · exact b.symm
        · have := h2.1 x a
          have := h1.1 y b
          omega
    subst e
    rw [strict_eq h1.2 h2.2 fun k => ?_]
    have hk := h k
    rw [List.mem_cons, List.mem_cons] at hk
    constructor
    · intro m
      rcases hk.mp (.inr m) with e | m'
      · subst e; have := h1.1 k m; omega
      · exact m'
    · intro m
      rcases hk.mpr (.inr m) with e | m'
      · subst e; have := h2.1 k m; omega
      · exact m'
def dSortSet : D → Option RV := fun d => match d with
  | .tup ds => (intsOf ds).bind fun ns => if ns.length ≤ 60 then some (.own (.lst ((sortU ns).map .int))) else none
  | _ => none
def kSSet (p : Bor × Sg) : Option (RV × Sg) := ((fetch p.2 p.1).bind dSortSet).map (kPair p.2)
def evSSet (a : Ev Bor) : Ev RV := fun s => (a s).bind kSSet
@[simp] theorem evSSet_ap (a : Ev Bor) (s : Sg) : evSSet a s = (a s).bind kSSet := rfl
@[simp] theorem kSSet_ap (x : Bor) (s : Sg) : kSSet (x, s) = ((fetch s x).bind dSortSet).map (kPair s) := rfl
/-- sorted(set(e)) -/
theorem sr_sortSet {X : Cx} {e : Expr} {a : Ev Bor} {p p2 q pos : Pos} (hc : X.calm = true) (hg : Gl X "sorted") (hm : X.mg "sorted" = none) (hg2 : Gl X "set") (hm2 : X.mg "set" = none) (ha : SB X e a)
    (na : starEach [e] X.env = (false, eval e X.env) :: starEach [] X.env := by rfl) : SR X (.Call (.Name "sorted" p) [.Call (.Name "set" p2) [e] [] q] [] pos) (evSSet a) := by
  refine ⟨fun pins s σ H Q I h => ?_⟩
  obtain ⟨g, G, φ, s0, r, s', hK, R, he, qq⟩ := h
  obtain ⟨⟨b, s1⟩, e1, he⟩ := bind_some_iff he
  obtain ⟨r2, e2, he⟩ := map_some_iff he
  obtain ⟨d, e3, e4⟩ := bind_some_iff e2
  cases he
  unfold dSortSet at e4
  split at e4
  · rename_i ds
    obtain ⟨ns, e5, e6⟩ := bind_some_iff e4
    split at e6
    · rename_i hl
      cases e6
      refine PyProof.Rows.Call_ (ld_blt I hg hm PyProof.Rows.boot_sorted ?_)
      refine PyProof.Rows.callWith_builtin1 (PyProof.Rows.args_cons ?_ rfl) rfl rfl
      refine PyProof.Rows.Call_ (ld_blt I hg2 hm2 PyProof.Rows.boot_set ?_)
      refine PyProof.Rows.callWith_type1 (PyProof.Rows.args_cons (thn (ha.run pins s σ H (fun v H1 => ∃ G1 φ1, Rel g G1 φ1 s1 σ H1 ∧ Same G G1 ∧ φ <+: φ1 ∧ BorRep g.K φ1 G1 σ v b) I ⟨g, G, φ, s0, b, s1, hK, R, e1, fun G1 φ1 H1 v R1 h1 h2 x => ⟨G1, φ1, R1, h1, h2, x⟩⟩) fun v t1 ⟨x, H1, I1, r1, q1⟩ => PyProof.Rows.args_nil ?_) na) na rfl
      obtain ⟨G1, φ1, R1, h1, h2, br⟩ := q1
      have o := R1.fetch br e3
      obtain ⟨l, vs, rfl, st, ra⟩ := o.tup R1.sub
      cases r1
      have hv := ra.ints e5
      subst hv
      obtain ⟨its, rv, pt, hz⟩ := I1.tuple (SqT.of st)
      have hi : PyProof.Rows.IntsAre its.toArray.toList ns := ints_of_vals rv
      refine call_set_tupI (P := X.prog) (w := X.w) ns (I1.ok.hd hc) (show t1.heap.IsTuple l its.toArray from pt) hi (by unfold scanBound; omega) fun h' tk c RS hcn k => ?_
      have I2 : Inv X pins σ H1 { t1 with heap := h', toks := tk } := I1.kept k
      have RS2 : SetR X.w ({ t1 with heap := h', toks := tk } : Shared).heap t1.heap.objs.size (fun j => decide (j ∈ ns)) c := RS
      refine PyProof.Rows.args_nil ?_
      generalize ({ t1 with heap := h', toks := tk } : Shared) = t3 at RS2 I2 ⊢
      refine sorted_set RS2 (I2.ok.hd hc) (by omega) fun t2 q2 out c2 ms k2 gg oo hp hget hints hpair hmem hlen => ?_
      have em : ms = sortU ns := strict_eq hpair (sortU_pair ns) fun j => by rw [hmem j, sortU_mem]; simp
      have hz2 : (ms.map V.int).length ≤ sizeLine := by rw [List.length_map, hlen, sizeLine_eq]; omega
      have hn : H1 q2 = none := I2.hok.fresh hp
      have J : Inv X pins σ (upd H1 q2 (.lst (ms.map V.int))) { t3 with heap := t2.heap, gens := t2.gens, drawn := t2.drawn, toks := t2.toks } :=
        I2.call (ch := []) (Un.laid k2 hp hn) (I2.hok.laid k2 hp ⟨hz2, out.toList, c2, vals_of_ints hints, hget⟩) (by rw [gg]; exact I2.bare) (fun _ z => nomatch z)
      have e : t2 = { t3 with heap := t2.heap, gens := t2.gens, drawn := t2.drawn, toks := t2.toks } := by
        cases t2
        cases t3
        cases oo
        rfl
      rw [e]
      refine ⟨.ref q2, _, J, rfl, ?_⟩
      have gr := Grow.aside R1.sub (o := .lst (ms.map V.int)) hn
      subst em
      exact qq G1 φ1 _ _ (R1.grow gr) h1 h2 (.own (Fresh.of_new R1 gr hn upd_same (R1.sub.free hn) (.lst (RepA.ofInts _))))
    · cases e6
  · cases e4
end Pv

namespace Pv
open PySem PySem.Spec L2 PyProof.Rows
/-- the tuple at a, its items in new pairs with their numbers -/
def IteT (K : PySem.W.Frag) (a : Addr) : It where
  go := fun i H => ∃ (xs : List V) (x : V), SqT K H a xs ∧ xs[i]? = some x
  yld := fun i H v H' => ∃ T x, v = .ref T ∧ H T = none ∧ H' = upd H T (.tup [.int (i : Nat), x]) ∧ ∀ xs, SqT K H a xs → xs[i]? = some x
  stop := fun i H => ∃ xs : List V, SqT K H a xs ∧ xs.length ≤ i
theorem turn_enumT {P : Program} {w : World} {K : PySem.W.Frag} {es : List Expr} {k0 : Nat} {tp : Pos} (a e it : Addr) :
    Turn P w K (.Tuple es k0 tp) (IteT K a) [e, it] e (fun i h => (∃ v0, IsEnum h e it ((i : Nat) : Int) v0) ∧ h.IsTupleIter it a i ∧ e ≠ it ∧ a ≠ it ∧ e ≠ a) where
  mem := List.mem_cons_self
  obj := fun i h st b hb => by
    obtain ⟨⟨v0, h1⟩, ⟨o, h2, h3, h4⟩, _⟩ := st
    rcases List.mem_cons.mp hb with z | z
    · rw [z]
      exact ⟨_, h1, fun v q => nomatch q⟩
    · rw [List.mem_singleton] at z
      exact ⟨o, z ▸ h2, fun v q => by rw [h4] at q; cases q⟩
  keep := fun i h h' st k => by
    obtain ⟨⟨v0, h1⟩, h2, h3⟩ := st
    exact ⟨⟨v0, k e List.mem_cons_self _ h1⟩, h2.at fun o q => k it (List.mem_cons_of_mem _ List.mem_cons_self) o q, h3⟩
  item := by
    intro X hP hw hK hc i pins s σ H E I hf st hg
    subst hP hw hK
    obtain ⟨⟨v0, h1⟩, h2, n1, n2, n3⟩ := st
    obtain ⟨xs, x, hq, hx⟩ := hg
    obtain ⟨its, rv, pt, hz⟩ := I.tuple hq
    obtain ⟨u, hu, ru⟩ := rv.get hx
    have le : e < s.heap.objs.size := Heap.lt_size h1
    have li : it < s.heap.objs.size := by obtain ⟨_, q, _⟩ := h2; exact Heap.lt_size q
    have D := Draws.tuple (prog := X.prog) (w := X.w) (A := X.A.in1) (I.ok.hd hc) it a n2 its.toArray
    have il : i < its.toArray.size := by
      rw [List.size_toArray]
      exact (List.getElem?_eq_some_iff.mp hu).1
    refine wpAny_pyNext_enum_itemD D h1 ⟨h2, pt⟩ il n1 (fun hm => ?_) fun y h' tk hy ho hst hT hsz hk => ?_
    · rcases List.mem_cons.mp hm with z | z
      · exact n1 z
      · exact n3 (List.mem_singleton.mp z)
    have ey : y = u := by
      rw [List.getElem?_toArray, hu] at hy
      cases hy; rfl
    subst ey
    refine ⟨_, rfl, wpAny_letOwnedTupleGo_enum (s := { s with heap := h', toks := tk + 1 }) ho fun h2' he' sb => ?_⟩
    have hT2 : h2'.get? s.heap.objs.size = some { cls := .type "tuple", data := .seq #[.int i tk, y] } := (sb.2 _ (Nat.ne_of_gt le)).trans hT
    have new : ObjOk X.prog X.w (upd H s.heap.objs.size (.tup [.int (i : Nat), x])) h2' s.heap.objs.size (.tup [.int (i : Nat), x]) :=
      ⟨by show 2 ≤ sizeLine; decide, [.int i tk, y], .cons ⟨_, rfl⟩ (.cons ru .nil), ⟨_, hT2, rfl, _, rfl⟩⟩
    have J : Inv X pins σ (upd H s.heap.objs.size (.tup [.int (i : Nat), x])) { s with heap := h2', toks := tk + 1 } :=
      I.turnedNew (ch := [e, it]) (fun b ob hb q => (sb.2 b (fun z => hb (z ▸ List.mem_cons_self))).trans (hk b ob (fun z => hb (z ▸ List.mem_cons_self)) (fun z => hb (z ▸ List.mem_cons_of_mem _ List.mem_cons_self)) q)) hf (Nat.le_refl _) new
    refine ⟨.ref s.heap.objs.size, _, J, rfl, ⟨_, x, rfl, I.hok.fresh (Nat.le_refl _), rfl, fun ys hy => by rw [I.tuple_inj hy hq]; exact hx⟩, ⟨⟨y, ?_⟩, hst.1.at fun o q => (sb.2 it (Ne.symm n1)).trans q, n1, n2, n3⟩, fun b hb => ?_⟩
    · rw [show ((i + 1 : Nat) : Int) = (i : Int) + 1 from by omega]
      exact he'
    · have lb : b < s.heap.objs.size := by
        rcases List.mem_cons.mp hb with z | z
        · rw [z]; exact le
        · rw [List.mem_singleton.mp z]; exact li
      rw [upd_ne (Nat.ne_of_lt lb)]
      exact (hf b hb).1
  done := by
    intro X hP hw hK hc i pins s σ H E I hf st hg
    subst hP hw hK
    obtain ⟨⟨v0, h1⟩, h2, n1, n2, n3⟩ := st
    obtain ⟨xs, hq, hx⟩ := hg
    obtain ⟨its, rv, pt, hz⟩ := I.tuple hq
    obtain ⟨f0, f1, f2, f3, f4, f5⟩ := hf it (List.mem_cons_of_mem _ List.mem_cons_self)
    have hl := rv.length
    have none_ : its.toArray[i]? = none := by rw [List.getElem?_toArray]; exact List.getElem?_eq_none (by omega)
    have D : Draws X.prog X.w X.A.in1 it [it, a] i (fun _ _ => True) (fun j h => j = i ∧ h.IsTupleIter it a i ∧ h.IsTuple a its.toArray) :=
      { live := fun j h st => by obtain ⟨_, ⟨o, ho, _⟩, _⟩ := st; exact ⟨o, ho⟩
        frame := fun j h h' st hk => ⟨st.1, st.2.1.at fun o q => hk it List.mem_cons_self o q, st.2.2.at fun o q => hk a (List.mem_cons_of_mem _ List.mem_cons_self) o q⟩
        item := fun j s Q E hj st hQ => absurd st.1 (Nat.ne_of_lt hj)
        done := fun s Q E st hE => wpAny_nextOf_tuple_end (I.ok.hd hc) st.2.1 st.2.2 none_ hE }
    exact wpAny_pyNext_enum_endD D h1 ⟨rfl, h2, pt⟩ fun h' eb => ⟨rfl, I.turned (t' := s.toks) (fun b o hb q => eb b o hb q) f0 f1 f3 f4 f5⟩
  self := fun A i s Q E st q => by
    obtain ⟨⟨_, h1⟩, _⟩ := st
    exact wpAny_pyIter_enum h1 q
set_option maxHeartbeats 1000000 in
theorem meets_enum1 {v : Value} {o : Obj} {H : Heap → Prop} (B : Begins v o H) :
    Meets (Builtin.«enumerate.__new__» ⟨[.type "enumerate", v], []⟩) (fun _ R s => H s.heap ∧
      R (.ok (.ret (.ref (s.heap.push o).objs.size))) { s with heap := (s.heap.push o).push { cls := .type "enumerate", data := .fields #[.none, .bool false, .ref s.heap.objs.size, rawInt 0, .none, .none] } }) := by
  refine .of_wp fun prog w A R s h => ?_
  obtain ⟨hp, g, d, tk, os⟩ := s
  obtain ⟨h1, h⟩ := h
  have hsub := sub_enumerate
  have q1 : ∀ {A' : Around} {E Q : Value → Shared → Prop}, Q (.ref hp.objs.size) ⟨hp.push o, g, d, tk, os⟩ → wpAny (model prog w) A' (pyIter v) Q E ⟨hp, g, d, tk, os⟩ := fun q => B.iter prog w _ _ ⟨hp, g, d, tk, os⟩ _ h1 q
  wp_walk using q1
  refine wpAny_stack_any fun st => wpAny_pure ?_
  split
  · rename_i c _ _ _ _ _
    cases (c == Value.type "enumerate")
    · wp_walk using q1
      exact ⟨_, rfl, h⟩
    · wp_walk using q1
      exact ⟨_, rfl, h⟩
  · wp_walk using q1
    exact ⟨_, rfl, h⟩
theorem call_enumT {pr : Program} {wd : World} {A : Around} {E Q : Value → Shared → Prop} {s : Shared} {t : Addr} {items : Array Value} (ht : s.heap.IsTuple t items)
    (h : ∀ h', IsEnum h' (s.heap.objs.size + 1) s.heap.objs.size 0 .none → h'.IsTupleIter s.heap.objs.size t 0 → (∀ b o, s.heap.get? b = some o → h'.get? b = some o) → Q (.ref (s.heap.objs.size + 1)) { s with heap := h' }) :
    wpAny (model pr wd) A (PySem.call (.type "enumerate") [.ref t]) Q E s := by
  have B := begins_tuple t items
  refine callType_new F.called_enumerate (by decide) (F.typeCall_enumerate_1 _) (F.newCall_enumerate_1 _) (fun obj => F.args_object_init_2 obj _) F.entry_enumerate_new (meets_enum1 B) ⟨ht, ?_⟩
  have hz : (s.heap.push { cls := .type "tuple_iterator", data := .fields #[.ref t, .int 0 0] }).objs.size = s.heap.objs.size + 1 := Heap.size_push ..
  show _ ∧ _
  rw [hz]
  have he : IsEnum ((s.heap.push { cls := .type "tuple_iterator", data := .fields #[.ref t, .int 0 0] }).push { cls := .type "enumerate", data := .fields #[.none, .bool false, .ref s.heap.objs.size, rawInt 0, .none, .none] }) (s.heap.objs.size + 1) s.heap.objs.size 0 .none := by
    have := Heap.get?_push_size (s.heap.push { cls := .type "tuple_iterator", data := .fields #[.ref t, .int 0 0] }) (o := { cls := .type "enumerate", data := .fields #[.none, .bool false, .ref s.heap.objs.size, rawInt 0, .none, .none] }) rfl
    rw [hz] at this
    exact this
  exact ⟨⟨_, he, rfl⟩, h _ he ⟨_, Heap.get?_push_of_some _ (Heap.get?_push_size _ rfl), rfl, rfl⟩ fun b o x => Heap.get?_push_of_some _ (Heap.get?_push_of_some _ x)⟩
/-- enumerate(e), e a list or a tuple -/
def iEnumLT (K : PySem.W.Frag) (ta : TA) : TI := fun σ H R => ta σ H fun vs H1 => ∃ a xs, vs = [.ref a] ∧ ((SqL K H1 a xs ∧ R (Ite K a) H1) ∨ (SqT K H1 a xs ∧ R (IteT K a) H1))
theorem pi_enumLT {X : Cx} {e : Expr} {ta : TA} {p pos tp : Pos} {es : List Expr} {k0 : Nat} (hg : Gl X "enumerate") (hm : X.mg "enumerate" = none) (ha : PA X [e] ta) (hs : starEach [e] X.env = [(false, eval e X.env)] := by rfl) :
    PI X (.Tuple es k0 tp) (.Call (.Name "enumerate" p) [e] [] pos) (iEnumLT X.K ta) := by
  refine ⟨fun pins s σ H R I h => ?_⟩
  refine Call_ (ld_blt I hg hm boot_enumerate (PyProof.Rows.callWith_type1 (thn (ha.run pos pins s σ H _ I h) fun us s1 ⟨vs, H1, I1, r1, q1⟩ => ?_) hs rfl))
  obtain ⟨a, xs, ex, q⟩ := q1
  subst ex
  cases r1 with
  | cons r rr =>
    cases rr
    cases r
    have fp : ∀ b, b = s1.heap.objs.size + 1 ∨ b = s1.heap.objs.size → s1.heap.objs.size ≤ b := fun b hb => by
      rcases hb with z | z
      · rw [z]; exact Nat.le_add_right _ _
      · rw [z]; exact Nat.le_refl _
    rcases q with ⟨hq, q⟩ | ⟨hq, q⟩
    · obtain ⟨its, rv, pl, hz⟩ := I1.list hq
      refine call_enumerate_list pl.isList fun h' he hit hsz hk => wpAny_pyIter_enum he ?_
      refine ⟨s1.heap.objs.size + 1, [s1.heap.objs.size + 1, s1.heap.objs.size], _, _, H1, rfl, I1.kept (t' := s1.toks) hk, turn_enum a (s1.heap.objs.size + 1) s1.heap.objs.size, ⟨⟨.none, he⟩, hit, Nat.succ_ne_self _⟩, fun b hb => ?_, q⟩
      have lb := fp b (by simpa using hb)
      exact I1.fpOk lb (I1.hok.fresh lb)
    · obtain ⟨its, rv, pt, hz⟩ := I1.tuple hq
      have la : a < s1.heap.objs.size := by obtain ⟨o, ho, _⟩ := pt; exact Heap.lt_size ho
      refine call_enumT (show s1.heap.IsTuple a its.toArray from pt) fun h' he hit hk => wpAny_pyIter_enum he ?_
      refine ⟨s1.heap.objs.size + 1, [s1.heap.objs.size + 1, s1.heap.objs.size], _, _, H1, rfl, I1.kept (t' := s1.toks) hk, turn_enumT a (s1.heap.objs.size + 1) s1.heap.objs.size, ⟨⟨.none, he⟩, hit, Nat.succ_ne_self _, Nat.ne_of_lt la, Nat.ne_of_gt (Nat.lt_succ_of_lt la)⟩, fun b hb => ?_, q⟩
      have lb := fp b (by simpa using hb)
      exact I1.fpOk lb (I1.hok.fresh lb)
def dEnumS : List D → Option (List D)
  | [.lst xs] => some (pairUp (upTo 0 xs.length) xs)
  | [.tup xs] => some (pairUp (upTo 0 xs.length) xs)
  | _ => none
@[simp] theorem dEnumS_lst (xs : List D) : dEnumS [.lst xs] = some (pairUp (upTo 0 xs.length) xs) := rfl
@[simp] theorem dEnumS_tup (xs : List D) : dEnumS [.tup xs] = some (pairUp (upTo 0 xs.length) xs) := rfl
theorem dEnumS_some {as r : List D} (h : dEnumS as = some r) : (∃ xs, as = [.lst xs] ∧ r = pairUp (upTo 0 xs.length) xs) ∨ ∃ xs, as = [.tup xs] ∧ r = pairUp (upTo 0 xs.length) xs := by
  unfold dEnumS at h
  split at h
  · cases h; exact .inl ⟨_, rfl, rfl⟩
  · cases h; exact .inr ⟨_, rfl, rfl⟩
  · cases h
theorem si_enumS {X : Cx} {a : Expr} {ta : Ev (List D)} {p pos tp : Pos} {es : List Expr} {k0 : Nat} (hg : Gl X "enumerate") (hm : X.mg "enumerate" = none) (ha : SA X [a] ta) (hs : starEach [a] X.env = [(false, eval a X.env)] := by rfl) :
    SI X (.Tuple es k0 tp) (.Call (.Name "enumerate" p) [a] [] pos) (evArgs dEnumS ta) := pi_imp (pi_enumLT hg hm ha hs) fun σ H R' ⟨g, G, φ, s, ds, s', hK, R, he, q⟩ => by
  obtain ⟨⟨as, s1⟩, e1, he⟩ := bind_some_iff he
  obtain ⟨ds2, e2, he⟩ := map_some_iff he
  cases he
  refine ⟨g, G, φ, s, as, s1, hK, R, e1, fun G1 φ1 H1 vs R1 h1 h2 ra => ?_⟩
  rcases dEnumS_some (show dEnumS as = some _ from e2) with ⟨xs', rfl, rfl⟩ | ⟨xs', rfl, rfl⟩
  · skip
    obtain ⟨v, rfl, r1⟩ := ra.one
    cases r1 with
    | lst s1' a1 =>
      rename_i vs0
      refine ⟨_, vs0, rfl, .inl ⟨SqL.of (R1.sub _ _ s1'), q _ G1 φ1 H1 R1 h1 h2 ?_⟩⟩
      have hl : (pairUp (upTo 0 xs'.length) xs').length = xs'.length := by rw [pairUp_len]; unfold upTo; simp
      refine itOk_pairs (Gd := fun H => SqL X.K H _ vs0) ⟨fun i H hi q => ?_, fun H q => ?_, fun i H v H' hi q y => ?_⟩ (fun Gc Hc g1 g2 => SqL.of (g2 _ _ (g1 _ _ s1'))) (repA_upTo xs'.length) a1
      · rw [hl, ← a1.length] at hi
        exact ⟨_, _, q, List.getElem?_eq_getElem hi⟩
      · exact ⟨_, q, by rw [hl, a1.length]; exact Nat.le_refl _⟩
      · obtain ⟨T, x, g1, g2, g3, g4⟩ := y
        refine ⟨T, _, x, g1, g2, g3, ?_, g4 _ q⟩
        rw [hl] at hi
        show ((List.range xs'.length).map fun i => V.int (0 + (i : Nat)))[i]? = _
        rw [List.getElem?_map, List.getElem?_range hi]
        simp
  · skip
    obtain ⟨v, rfl, r1⟩ := ra.one
    cases r1 with
    | tup s1' a1 =>
      rename_i vs0
      refine ⟨_, vs0, rfl, .inr ⟨SqT.of (R1.sub _ _ s1'), q _ G1 φ1 H1 R1 h1 h2 ?_⟩⟩
      have hl : (pairUp (upTo 0 xs'.length) xs').length = xs'.length := by rw [pairUp_len]; unfold upTo; simp
      refine itOk_pairs (Gd := fun H => SqT X.K H _ vs0) ⟨fun i H hi q => ?_, fun H q => ?_, fun i H v H' hi q y => ?_⟩ (fun Gc Hc g1 g2 => SqT.of (g2 _ _ (g1 _ _ s1'))) (repA_upTo xs'.length) a1
      · rw [hl, ← a1.length] at hi
        exact ⟨_, _, q, List.getElem?_eq_getElem hi⟩
      · exact ⟨_, q, by rw [hl, a1.length]; exact Nat.le_refl _⟩
      · obtain ⟨T, x, g1, g2, g3, g4⟩ := y
        refine ⟨T, _, x, g1, g2, g3, ?_, g4 _ q⟩
        rw [hl] at hi
        show ((List.range xs'.length).map fun i => V.int (0 + (i : Nat)))[i]? = _
        rw [List.getElem?_map, List.getElem?_range hi]
        simp
end Pv

namespace Pv
open PySem PySem.Spec L2 PyProof.Rows
mutual
theorem py_inj : ∀ (n : Nat) (a b : D), eqOk n a = true → eqOk n b = true → py a = py b → a = b
  | n, .non, b, _, hb, e => by cases b <;> first | rfl | (exfalso; cases n <;> simp [eqOk] at hb; done) | (simp [py] at e)
  | n, .bl x, b, _, hb, e => by cases b <;> first | (simp [py] at e; rw [e]) | (simp [py] at e) | (cases n <;> simp [eqOk] at hb)
  | n, .int x, b, _, hb, e => by cases b <;> first | (simp [py] at e; rw [e]) | (simp [py] at e) | (cases n <;> simp [eqOk] at hb)
  | n, .str x, b, _, hb, e => by cases b <;> first | (simp [py] at e; rw [e]) | (simp [py] at e) | (cases n <;> simp [eqOk] at hb)
  | 0, .tup xs, b, ha, hb, e => by simp [eqOk] at ha
  | 0, .lst xs, b, ha, hb, e => by simp [eqOk] at ha
  | n + 1, .tup xs, b, ha, hb, e => by
    cases b with
    | tup ys =>
      simp [py] at e
      rw [pyAll_inj n xs ys ha hb e]
    | dct _ _ => simp [eqOk] at hb
    | hd _ => simp [eqOk] at hb
    | scr _ => simp [eqOk] at hb
    | _ => simp [py] at e
  | n + 1, .lst xs, b, ha, hb, e => by
    cases b with
    | lst ys =>
      simp [py] at e
      rw [pyAll_inj n xs ys ha hb e]
    | dct _ _ => simp [eqOk] at hb
    | hd _ => simp [eqOk] at hb
    | scr _ => simp [eqOk] at hb
    | _ => simp [py] at e
  | n, .dct _ _, b, ha, _, _ => by cases n <;> simp [eqOk] at ha
  | n, .hd _, b, ha, _, _ => by cases n <;> simp [eqOk] at ha
  | n, .scr _, b, ha, _, _ => by cases n <;> simp [eqOk] at ha
theorem pyAll_inj : ∀ (n : Nat) (xs ys : List D), xs.all (eqOk n) = true → ys.all (eqOk n) = true → pyAll xs = pyAll ys → xs = ys
  | n, [], [], _, _, _ => rfl
  | n, x :: xs, [], _, _, e => by simp [pyAll] at e
  | n, [], y :: ys, _, _, e => by simp [pyAll] at e
  | n, x :: xs, y :: ys, ha, hb, e => by
    rw [List.all_cons, Bool.and_eq_true] at ha hb
    simp [pyAll] at e
    rw [py_inj n x y ha.1 hb.1 e.1, pyAll_inj n xs ys ha.2 hb.2 e.2]
end
/-- the first of the least; of the greatest -/
def minDD (d : D) (ds : List D) : D := ds.foldl (fun a y => if PySem.W.dataLt (py y) (py a) then y else a) d
def maxDD (d : D) (ds : List D) : D := ds.foldl (fun a y => if PySem.W.dataLt (py a) (py y) then y else a) d
theorem minDD_py : ∀ (ds : List D) (d : D), py (minDD d ds) = PySem.W.minD (py d) (ds.map py)
  | [], d => rfl
  | y :: ds, d => by
    show py (minDD (if PySem.W.dataLt (py y) (py d) then y else d) ds) = PySem.W.minD (if PySem.W.dataLt (py y) (py d) then py y else py d) (ds.map py)
    rw [minDD_py ds]
    split <;> rfl
theorem maxDD_py : ∀ (ds : List D) (d : D), py (maxDD d ds) = PySem.W.maxD (py d) (ds.map py)
  | [], d => rfl
  | y :: ds, d => by
    show py (maxDD (if PySem.W.dataLt (py d) (py y) then y else d) ds) = PySem.W.maxD (if PySem.W.dataLt (py d) (py y) then py y else py d) (ds.map py)
    rw [maxDD_py ds]
    split <;> rfl
theorem minDD_mem : ∀ (ds : List D) (d : D), minDD d ds ∈ d :: ds
  | [], d => .head _
  | y :: ds, d => by
    show minDD (if PySem.W.dataLt (py y) (py d) then y else d) ds ∈ _
    have := minDD_mem ds (if PySem.W.dataLt (py y) (py d) then y else d)
    rcases List.mem_cons.mp this with h | h
    · rw [h]; split <;> simp
    · exact .tail _ (.tail _ h)
theorem maxDD_mem : ∀ (ds : List D) (d : D), maxDD d ds ∈ d :: ds
  | [], d => .head _
  | y :: ds, d => by
    show maxDD (if PySem.W.dataLt (py d) (py y) then y else d) ds ∈ _
    have := maxDD_mem ds (if PySem.W.dataLt (py d) (py y) then y else d)
    rcases List.mem_cons.mp this with h | h
    · rw [h]; split <;> simp
    · exact .tail _ (.tail _ h)
def mmOk (ds : List D) : Bool := ds.all (eqOk 40) && ds.all (fun a => ds.all fun b => PySem.W.alike (py a) (py b)) && ds.all isNeTup
def dMinA : OpN := fun xs => match dMin xs with
  | some r => some r
  | none => match xs with
    | [.lst (d :: ds)] => if mmOk (d :: ds) then some (.fro (minDD d ds)) else none
    | _ => none
def dMaxA : OpN := fun xs => match dMax xs with
  | some r => some r
  | none => match xs with
    | [.lst (d :: ds)] => if mmOk (d :: ds) then some (.fro (maxDD d ds)) else none
    | _ => none
theorem minA_of {xs : List D} {r : RV} (h : dMin xs = some r) : dMinA xs = some r := by unfold dMinA; rw [h]
theorem maxA_of {xs : List D} {r : RV} (h : dMax xs = some r) : dMaxA xs = some r := by unfold dMaxA; rw [h]
section
variable {X : Cx}
theorem readsAll_of {K : PySem.W.Frag} {φ : List Addr} {G H : Hp} {pins : List (Addr × Obj)} {σ : L2.St} {s : Shared} (I : Inv X pins σ H s) : ∀ {vs : List V} {its : List Value} {ds : List D}, Vals vs its → RepA X.K φ H vs ds → ds.all (eqOk 40) = true → ∃ as, ReadsAll s.heap its (ds.map py) as
  | _, _, _, .nil, .nil, _ => ⟨_, .nil⟩
  | _, _, _, .cons r rs, .cons p ps, h => by
    rw [List.all_cons, Bool.and_eq_true] at h
    obtain ⟨as, e⟩ := Dp.reads I _ _ _ (rep_dp 40 h.1 p) r
    obtain ⟨bs, e2⟩ := readsAll_of (K := K) (G := G) I rs ps h.2
    exact ⟨_, .cons e e2⟩
theorem vals_get {vs : List V} {its : List Value} (h : Vals vs its) : ∀ (i : Nat) (u : Value), its[i]? = some u → ∃ v, vs[i]? = some v ∧ RelV v u := by
  induction h with
  | nil => intro i u e; simp at e
  | cons r _ ih =>
    intro i u e
    cases i with
    | zero => simp at e; subst e; exact ⟨_, rfl, r⟩
    | succ i => exact ih i u (by simpa using e)
theorem repA_get {K : PySem.W.Frag} {φ : List Addr} {G : Hp} {vs : List V} {ds : List D} (h : RepA K φ G vs ds) : ∀ (i : Nat) (v : V), vs[i]? = some v → ∃ d, ds[i]? = some d ∧ Rep K φ G v d := by
  induction vs generalizing ds with
  | nil => intro i v e; simp at e
  | cons x xs ih =>
    cases h with
    | cons r rs =>
      intro i v e
      cases i with
      | zero => simp at e; subst e; exact ⟨_, rfl, r⟩
      | succ i => exact ih rs i v (by simpa using e)
theorem mm_alike {d : D} {ds : List D} (h : mmOk (d :: ds) = true) : PySem.W.AlikeAll (py d :: ds.map py) ∧ (d :: ds).all (eqOk 40) = true ∧ PyData.depthAll (py d :: ds.map py) ≤ 40 := by
  unfold mmOk at h
  rw [Bool.and_eq_true, Bool.and_eq_true] at h
  obtain ⟨⟨h1, h2⟩, h3⟩ := h
  have mem : ∀ x ∈ py d :: ds.map py, ∃ a ∈ d :: ds, py a = x := fun x hx => by
    rw [← List.map_cons] at hx
    exact List.mem_map.mp hx
  refine ⟨⟨fun x hx y hy => ?_, fun x hx => ?_⟩, h1, ?_⟩
  · obtain ⟨a, ha, rfl⟩ := mem x hx
    obtain ⟨b, hb, rfl⟩ := mem y hy
    exact List.all_eq_true.mp (List.all_eq_true.mp h2 a ha) b hb
  · obtain ⟨a, ha, rfl⟩ := mem x hx
    obtain ⟨y, r, e⟩ := py_tup_cons (List.all_eq_true.mp h3 a ha)
    rw [e]; simp
  · have key : ∀ ds : List D, ds.all (eqOk 40) = true → PyData.depthAll (ds.map py) ≤ 40 := by
      intro ds
      induction ds with
      | nil => intro _; simp [PyData.depthAll]
      | cons a as ih =>
        intro h
        rw [List.all_cons, Bool.and_eq_true] at h
        have e1 := (eqOk_py 40 a h.1).2
        have e2 := ih h.2
        simp [PyData.depthAll]; omega
    exact key (d :: ds) h1
theorem mm_core (hc : X.calm = true) (hu : X.A.units + 100 < cLine) {φ : List Addr} {G H : Hp} {pins : List (Addr × Obj)} {σ : L2.St} {s : Shared} {Q : VK} {a : Addr} {vs : List V} {d : D} {ds : List D} {m : D} {nm : String} (I : Inv X pins σ H s) (sub : Same G H) (s1 : H a = some (.lst vs)) (r1 : RepA X.K φ G vs (d :: ds)) (hk : mmOk (d :: ds) = true) (hm : m ∈ d :: ds)
    (hnm : (nm = "min" ∧ py m = PySem.W.minD (py d) (ds.map py)) ∨ (nm = "max" ∧ py m = PySem.W.maxD (py d) (ds.map py)))
    (q : OkRes X.K φ G H (.fro m) Q) : wpAny (model X.prog X.w) X.A (PySem.call (.builtin nm) [.ref a]) (EP X pins σ Q) X.xe s := by
  obtain ⟨al, ok, dp⟩ := mm_alike hk
  obtain ⟨its, rv, pl, hz⟩ := I.list (SqL.of s1)
  have r2 : RepA X.K φ H vs (d :: ds) := r1.mono sub (List.prefix_refl _)
  obtain ⟨as, ra⟩ := readsAll_of (K := X.K) (G := G) I rv r2 ok
  have fin : ∀ (i : Nat) v h' tk bs, its.toArray[i]? = some v → Reads h' v (py m) bs → (∀ b o, s.heap.get? b = some o → h'.get? b = some o) → EP X pins σ Q v { s with heap := h', toks := tk } := by
    intro i v h' tk bs hv hr hk'
    have hv' : its[i]? = some v := by simpa using hv
    obtain ⟨x, hx, rx⟩ := vals_get rv i v hv'
    obtain ⟨e, he, re⟩ := repA_get r1 i x hx
    have hee : eqOk 40 e = true := List.all_eq_true.mp ok e (List.mem_of_getElem? he)
    obtain ⟨cs, rr⟩ := Dp.reads I _ _ _ (rep_dp 40 hee (re.mono sub (List.prefix_refl _))) rx
    have eq : py m = py e := (Reads.unique hr (py e) cs (PySem.W.reads_keeps hk' rr)).1
    have em : m = e := py_inj 40 m e (List.all_eq_true.mp ok m hm) hee eq
    subst em
    exact ⟨x, H, I.kept hk', rx, q G H x (Grow.refl sub) (.fro re)⟩
  rcases hnm with ⟨rfl, e⟩ | ⟨rfl, e⟩
  · exact PySem.W.min_list_data (I.ok.hd hc) pl.isList (by simpa using ra) al (by omega) fun i v h' tk bs hv hr hk' => fin i v h' tk bs hv (e ▸ hr) hk'
  · exact PySem.W.max_list_data (I.ok.hd hc) pl.isList (by simpa using ra) al (by omega) fun i v h' tk bs hv hr hk' => fin i v h' tk bs hv (e ▸ hr) hk'
theorem dcall_minA (hc : X.calm = true) (hu : X.A.units + 100 < cLine) : DCall X (.builtin "min") dMinA := fun pins s σ H xs us Q I rx ⟨φ, G, ds, r, sub, hx, hf, q⟩ => by
  unfold dMinA at hf
  split at hf
  · rename_i r' e
    cases hf
    exact dcall_min hc pins s σ H xs us Q I rx ⟨φ, G, ds, r, sub, hx, e, q⟩
  · split at hf
    · rename_i d ds'
      split at hf
      · rename_i hk
        cases hf
        obtain ⟨v, rfl, o⟩ := hx.one
        obtain ⟨a, vs, rfl, s1, r1⟩ := o.lst sub
        rw [Vals.ref1 rx]
        exact mm_core hc hu I sub s1 r1 hk (minDD_mem _ _) (.inl ⟨rfl, minDD_py _ _⟩) q
      · cases hf
    · cases hf
theorem dcall_maxA (hc : X.calm = true) (hu : X.A.units + 100 < cLine) : DCall X (.builtin "max") dMaxA := fun pins s σ H xs us Q I rx ⟨φ, G, ds, r, sub, hx, hf, q⟩ => by
  unfold dMaxA at hf
  split at hf
  · rename_i r' e
    cases hf
    exact dcall_max hc pins s σ H xs us Q I rx ⟨φ, G, ds, r, sub, hx, e, q⟩
  · split at hf
    · rename_i d ds'
      split at hf
      · rename_i hk
        cases hf
        obtain ⟨v, rfl, o⟩ := hx.one
        obtain ⟨a, vs, rfl, s1, r1⟩ := o.lst sub
        rw [Vals.ref1 rx]
        exact mm_core hc hu I sub s1 r1 hk (maxDD_mem _ _) (.inr ⟨rfl, maxDD_py _ _⟩) q
      · cases hf
    · cases hf
end
end Pv
namespace Pv
open PySem PySem.Spec L2
theorem scalar_all {K : PySem.W.Frag} {φ φ' : List Addr} {G G' : Hp} : ∀ {vs : List V} {ds : List D}, ds.all scalarD = true → RepA K φ G vs ds → RepA K φ' G' vs ds
  | _, _, _, .nil => .nil
  | _, _, h, .cons r rs => by
    rw [List.all_cons, Bool.and_eq_true] at h
    exact .cons (scalar_any h.1 r) (scalar_all h.2 rs)
def kQuietL (s : Sg) (p : RV × Sg) : Option (RV × Sg) := match p.1 with
  | .own (.lst ds) => if ds.all scalarD then some (.own (.lst ds), s) else none
  | _ => none
def evQuietL (ev : Ev RV) : Ev RV := fun s => (ev ⟨s.env.map quietSlot, []⟩).bind (kQuietL s)
theorem quietL_core {K : PySem.W.Frag} {ev : Ev RV} {σ : St} {H : Hp} {Q : VK} (hh : tR K (evQuietL ev) σ H Q) : tR K ev σ H Q := by
  obtain ⟨g, G, φ, s, r, s', hK, R, he, q⟩ := hh
  obtain ⟨⟨r1, s1⟩, e1, he⟩ := bind_some_iff he
  unfold kQuietL at he
  split at he
  · rename_i ds er
    have er : r1 = .own (.lst ds) := er
    subst er
    split at he
    · rename_i hs
      cases he
      refine ⟨⟨g.K, H, fun a => H a ≠ none, fun _ => False, over (ownW s.env σ H) G, []⟩, over (ownW s.env σ H) G, [], ⟨s.env.map quietSlot, []⟩, .own (.lst ds), s1, hK, quiet_rel R, e1, fun G' φ' H' v R' h1 h2 x => ?_⟩
      have gr : Grow G H G H' := ⟨R'.old, Same.refl _, R.sub.trans R'.old, fun _ _ e => .inl e⟩
      refine q G φ H' v (R.grow gr) (Same.refl _) (List.prefix_refl _) ?_
      cases x with
      | own F =>
        have hp : H _ = none := F.fp
        refine .own (Fresh.of_new R gr hp F.at_ (R.sub.free hp) ?_)
        have ow := F.own
        cases ow with
        | lst ra => exact .lst (scalar_all hs ra)
    · cases he
  · cases he
theorem sr_quietL {X : Cx} {e : Expr} {ev : Ev RV} (h : SR X e ev) : SR X e (evQuietL ev) := pe_imp h fun _ _ _ hh => quietL_core hh
section
variable {X : Cx} {elt tg iter : Expr} {ifs : List Expr} {scope : Scope} {own : List (Str × Nat)} {pos : Pos} {it : Ev (List D)} {t : Tgt} {c : Ev Bool} {e : Ev RV}
theorem ss_setLcQ (cap : List Nat) (own : List (Str × Nat)) {i : Nat} {y : Str} {py spos : Pos} (hc : X.calm = true) (hN : X.N.Nodup) (hsw : swapsWith (.ListComp elt [⟨tg, iter, ifs, 0⟩] scope pos) (some (.Name y py)) spos.line X.env = pure true) (hi : SI X tg iter it) (ok : BlkOk X.N X.env.scope scope own)
    (hg : ∀ (s : Shared) (H : Hp) (C : Addr) (cl : List (Str × Addr)) (fp : List Addr), SG (X.blk s H scope (compEnvC scope cl C X.env) fp) (own.map (·.2)) tg t) (ht : ∀ (s : Shared) (H : Hp) (C : Addr) (cl : List (Str × Addr)) (fp : List Addr), STs (X.blk s H scope (compEnvC scope cl C X.env) fp) ifs c)
    (he : ∀ (s : Shared) (H : Hp) (C : Addr) (cl : List (Str × Addr)) (fp : List Addr), SR (X.blk s H scope (compEnvC scope cl C X.env) fp) elt e) (hs : ∀ x, foldedSetIterable iter X.env x = pure x := by intro _; rfl) (hy : X.N[i]? = some y := by rfl) (hyl : X.env.scope.names.lookup y = some .local := by rfl) :
    SS X (.Assign [.Name y py] (.ListComp elt [⟨tg, iter, ifs, 0⟩] scope pos) spos) (evSet i (evQuietL (evLc it cap (own.map (·.2)) t c e))) := ps_imp (ps_setLc (own := own) (g := tG X.K (own.map (fun x : Str × Nat => x.2)) t) (tt := tT X.K c) (te := tR X.K e) hc hN hy hyl hsw hi ok hg ht he hs) fun E σ H ⟨g, G, φ, s, o, s', hK, R, he, q⟩ => by
  obtain ⟨⟨p1, p2⟩, e1, he⟩ := map_some_iff he
  cases he
  exact lc_all (quietL_core ⟨g, G, φ, s, p1, p2, hK, R, e1, fun G' φ' H' v R' h1 h2 x => q G' φ' _ H' (R'.store i x) h1 h2⟩)
end
end Pv
namespace Pv
open PySem PySem.Spec L2
theorem Fresh.aside {g : Gh} {G : Hp} {φ : List Addr} {s : Sg} {σ : St} {H : Hp} {p : Addr} {o : HO} {d : D} (F : Fresh g G φ s σ H p o d) {t : Addr} {u : HO} (ht : H t = none) : Fresh g G φ s σ (upd H t u) p o d :=
  ⟨by rw [upd_ne (ne_of_none F.at_ ht)]; exact F.at_, F.own, F.gp, F.fp, F.up, F.ph, F.sl⟩
theorem Res.aside {g : Gh} {G : Hp} {φ : List Addr} {s : Sg} {σ : St} {H : Hp} {v : V} {r : RV} (x : Res g G φ s σ H v r) {t : Addr} {u : HO} (ht : H t = none) : Res g G φ s σ (upd H t u) v r := by
  cases x with
  | fro h => exact .fro h
  | own F => exact .own (F.aside ht)
theorem ss_parC {X : Cx} {i j : Nat} {x y : Str} {a b : Expr} {va vb : Ev RV} {px py pt pos : Pos} {kt k2 pt2} (hc : X.calm = true) (hN : X.N.Nodup) (ha : SR X a va) (hb : SR X b vb) (hi : X.N[i]? = some x := by rfl) (hj : X.N[j]? = some y := by rfl) (hij : i ≠ j := by decide)
    (hx : Loc X.env.scope x := by first | exact Or.inl rfl | exact Or.inr rfl) (hy : Loc X.env.scope y := by first | exact Or.inl rfl | exact Or.inr rfl)
    (hfx : X.fn x = true ∨ X.env.scope.names.lookup x = some .local := by first | exact .inl rfl | exact .inr rfl) (hfy : X.fn y = true ∨ X.env.scope.names.lookup y = some .local := by first | exact .inl rfl | exact .inr rfl)
    (hw : swappedStores [.Tuple [.Name x px, .Name y py] kt pt] (.Tuple [a, b] k2 pt2) X.env = pure none := by rfl)
    (hs : swapsWithSole [.Tuple [.Name x px, .Name y py] kt pt] (.Tuple [a, b] k2 pt2) pos.line X.env = pure false := by rfl)
    (h1 : starEach [a, b] X.env = (false, eval a X.env) :: starEach [b] X.env := by rfl) (h2 : starEach [b] X.env = (false, eval b X.env) :: starEach [] X.env := by rfl)
    (k1 : (assignEach [.Name x px, .Name y py] X.env).map (·.2) = assign (.Name x px) X.env :: (assignEach [.Name y py] X.env).map (·.2) := by rfl) (k2' : (assignEach [.Name y py] X.env).map (·.2) = assign (.Name y py) X.env :: (assignEach [] X.env).map (·.2) := by rfl)
    (hn : (assignEach [.Name x px, .Name y py] X.env).length = 2 := by rfl) (hst : (assignEach [.Name x px, .Name y py] X.env).findIdx? (·.1) = none := by rfl)
    (ht1 : (assignEach [.Tuple [.Name x px, .Name y py] kt pt] X.env).map (·.2) = [assign (.Tuple [.Name x px, .Name y py] kt pt) X.env] := by rfl) :
    SS X (.Assign [.Tuple [.Name x px, .Name y py] kt pt] (.Tuple [a, b] k2 pt2) pos) (evPar i j va vb) :=
  ps_imp (ps_asg (pe_tup (pa_cons ha (pa_cons hb pa_nil h2) h1)) (pg_tup (n := 2) hc (pgs_cons (pg_name hN hi hx hfx) (pgs_cons (pg_name hN hj hy hfy) pgs_nil k2') k1) hn hst) hs hw ht1) fun E σ H ⟨g, G, φ, s, o, s', hK, R, he, q⟩ => by
  obtain ⟨⟨p1, p2⟩, e1, he⟩ := bind_some_iff he
  obtain ⟨⟨q1, q2⟩, e2, he⟩ := map_some_iff he
  cases he
  refine ⟨g, G, φ, s, p1, p2, hK, R, e1, fun G1 φ1 H1 v R1 h1 h2 x => ?_⟩
  cases x with
  | fro rp =>
    refine ⟨g, G1, φ1, p2, q1, q2, hK, R1, e2, fun G2 φ2 H2 w R2 h3 h4 y => ⟨small (by decide : 2 ≤ 1000), fun t ht => ⟨t, _, rfl, SqT.of upd_same, rfl, _, _, rfl, _, _, rfl, rfl, ?_⟩⟩⟩
    have R2' := R2.grow (Grow.aside R2.sub (o := .tup [v, w]) ht)
    have y' := y.aside (u := .tup [v, w]) ht
    have S1 := R2'.store i (.fro (rp.mono h3 h4))
    refine q G2 φ2 _ _ (S1.store j (r := q1) ?_) (h1.trans h3) (h2.trans h4)
    cases y' with
    | fro ry => exact .fro ry
    | own F =>
      refine .own ⟨F.at_, F.own, F.gp, F.fp, F.up, F.ph, fun k e a1 a2 => ?_⟩
      by_cases hk : k = i
      · subst hk
        have a1 : (q2.env.set k (.fro _))[k]? = some (Slot.own e) := a1
        by_cases hl : k < q2.env.length
        · rw [List.getElem?_set_self hl] at a1; cases a1
        · rw [List.getElem?_eq_none (by simpa using hl)] at a1; cases a1
      · have a1 : (q2.env.set i (.fro _))[k]? = some (Slot.own e) := a1
        rw [List.getElem?_set_ne (Ne.symm hk)] at a1 a2
        exact F.sl k e a1 a2
  | @own p0 o0 d0 F1 =>
    refine ⟨g.hid (one _ _), G1, φ1, p2, q1, q2, hK, R1.pend F1, e2, fun G2 φ2 H2 w R2 h3 h4 y => ⟨small (by decide : 2 ≤ 1000), fun t ht => ⟨t, _, rfl, SqT.of upd_same, rfl, _, _, rfl, _, _, rfl, rfl, ?_⟩⟩⟩
    obtain ⟨R3, F3⟩ := R1.back F1 R2 h3 h4
    have R3' := R3.grow (Grow.aside R3.sub (o := .tup [.ref p0, w]) ht)
    have F3' := F3.aside (u := .tup [.ref p0, w]) ht
    have y' := y.aside (u := .tup [.ref p0, w]) ht
    have S1 := R3'.store i (.own F3')
    refine q G2 φ2 _ _ (S1.store j (r := q1) ?_) (h1.trans h3) (h2.trans h4)
    cases y' with
    | fro ry => exact .fro ry
    | own F =>
      have hne : over (one _ _) g.F _ = none := F.fp
      refine .own ⟨F.at_, F.own, F.gp, (over_none hne).2, F.up, F.ph, fun k e a1 a2 => ?_⟩
      by_cases hk : k = i
      · subst hk
        have hl : k < σ.length := by
          by_cases hl : k < σ.length
          · exact hl
          · rw [List.getElem?_eq_none (by simpa using hl)] at a2; cases a2
        rw [List.getElem?_set_self hl] at a2
        cases a2
        have := (over_none hne).1
        unfold one at this
        rw [upd_same] at this
        cases this
      · have a1 : (q2.env.set i (.own _))[k]? = some (Slot.own e) := a1
        rw [List.getElem?_set_ne (Ne.symm hk)] at a1 a2
        exact F.sl k e a1 a2
end Pv
namespace Pv
open PySem PySem.Spec L2
def dSortedA : OpN := fun xs => match dSorted xs with
  | some r => some r
  | none => match xs with
    | [.lst ds] => if ds.length ≤ 1 then some (.own (.lst ds)) else none
    | _ => none
theorem sortedA_of {xs : List D} {r : RV} (h : dSorted xs = some r) : dSortedA xs = some r := by unfold dSortedA; rw [h]
theorem dcall_sortedA {X : Cx} (hu : X.A.units + 100 < cLine) : DCall X (.builtin "sorted") dSortedA := fun pins s σ H xs us Q I rx ⟨φ, G, ds, r, sub, hx, hf, q⟩ => by
  unfold dSortedA at hf
  split at hf
  · rename_i r' e
    cases hf
    exact dcall_sorted hu pins s σ H xs us Q I rx ⟨φ, G, ds, r, sub, hx, e, q⟩
  · split at hf
    · rename_i ds'
      split at hf
      · rename_i hl1
        cases hf
        obtain ⟨v, rfl, o⟩ := hx.one
        obtain ⟨a, vs, rfl, s1, r1⟩ := o.lst sub
        obtain ⟨u, rfl, ru⟩ := rx.one
        cases ru
        have hlen := r1.length
        obtain ⟨its, rv, pl, hz⟩ := I.list (SqL.of s1)
        have hil : its.length = vs.length := rv.length.symm
        refine Srt.sorted_any pl.isList (by omega) (fun h => absurd h (by omega)) fun out hp => ?_
        have ho : out = its := by
          match its, hil with
          | [], _ => exact List.Perm.eq_nil hp
          | [x], _ => exact List.perm_singleton.mp hp
          | x :: y :: r, h => simp at h; omega
        subst ho
        obtain ⟨ep, he'⟩ := PyProof.Rows.sortedAll_at s.heap out out.toArray
        have fr : H (s.heap.objs.size + 1) = none := I.hok.fresh (Nat.le_succ _)
        refine ⟨.ref _, upd H (s.heap.objs.size + 1) (.lst vs), I.laid (t' := s.toks) (fun _ _ => PyProof.Rows.sortedAll_old) (Nat.le_succ _) ⟨by omega, out, ep, rv, he'⟩, rfl, q _ _ _ (Grow.aside sub fr) (.own fr upd_same (sub.free fr) (.lst r1))⟩
      · cases hf
    · cases hf
end Pv

namespace G
open PySem PySem.Spec L2 Pv
def topS (i : Nat) : Stmt := PySem.Challenge.pw_roughroads_k44_options_told.main.body.getD i (.Pass ⟨0, 0, 0, 0⟩)
abbrev s_reached : Stmt := topS 1
abbrev N_reached : List Str := ["pairs", "house", "found", "changed", "a", "b"]
theorem sc_reached : FnScope N_reached ["pairs", "house"] (defScope s_reached) := ⟨rfl, rfl, rfl, by decide +kernel, rfl, by decide +kernel, by decide +kernel⟩
noncomputable def ev_reached : Ev Out := evSeq (evPar 2 3 (evLst (evCons (evName 1) (evNil))) (evC (.bl true))) (evSeq (evWh (evTru (evSlot 3)) (evSeq (evSet 3 (evC (.bl false))) (evForS (evItS (evName 0)) (tgTup 2 (tgCons (tgName 4) (tgCons (tgName 5) (tgNil)))) (evIf (evB (ev2 dNe (evV (ev2 dIn (evSlot 4) (evSlot 2))) (evV (ev2 dIn (evSlot 5) (evSlot 2))))) (evSeq (evDrop (evMut "list" 2 mAppend (evCons (evIte (evB (ev2 dIn (evSlot 4) (evSlot 2))) (evName 5) (evName 4)) (evNil)))) (evSet 3 (evC (.bl true)))) (evPass))))) (evRet (evN dSortedA (evConsB (evSlot 2) (evNilB)))))
noncomputable def m_reached : Fm := fnM 6 2 ev_reached
abbrev s_low_of : Stmt := topS 2
abbrev N_low_of : List Str := ["web", "road"]
theorem sc_low_of : FnScope N_low_of ["web", "road"] (defScope s_low_of) := ⟨rfl, rfl, rfl, by decide +kernel, rfl, by decide +kernel, by decide +kernel⟩
noncomputable def ev_low_of : Ev Out := evRet (ev2 dIx (evV (ev2 dIx (evV (ev2 dIx (evSlot 0) (evV (evC (.int 1))))) (evSlot 1))) (evV (evC (.int 2))))
noncomputable def m_low_of : Fm := fnM 2 2 ev_low_of
abbrev s_high_of : Stmt := topS 3
abbrev N_high_of : List Str := ["web", "road"]
theorem sc_high_of : FnScope N_high_of ["web", "road"] (defScope s_high_of) := ⟨rfl, rfl, rfl, by decide +kernel, rfl, by decide +kernel, by decide +kernel⟩
noncomputable def ev_high_of : Ev Out := evRet (ev2 dIx (evV (ev2 dIx (evV (ev2 dIx (evSlot 0) (evV (evC (.int 1))))) (evSlot 1))) (evV (evC (.int 3))))
noncomputable def m_high_of : Fm := fnM 2 2 ev_high_of
abbrev s_raised : Stmt := topS 4
abbrev N_raised : List Str := ["web", "some", "found", "road", "a", "b", "low", "high"]
theorem sc_raised : FnScope N_raised ["web", "some"] (defScope s_raised) := ⟨rfl, rfl, rfl, by decide +kernel, rfl, by decide +kernel, by decide +kernel⟩
noncomputable def ev_raised : Ev Out := evSeq (evSet 2 (evLst (evNil))) (evSeq (evForS (evArgs dEnumS (evCons (ev2 dIx (evSlot 0) (evV (evC (.int 1)))) (evNil))) (tgTup 2 (tgCons (tgName 3) (tgCons (tgTup 4 (tgCons (tgName 4) (tgCons (tgName 5) (tgCons (tgName 6) (tgCons (tgName 7) (tgNil)))))) (tgNil)))) (evDrop (evMut "list" 2 mAppend (evCons (evIte (evB (ev2 dIn (evSlot 3) (evSlot 1))) (evName 7) (evName 6)) (evNil))))) (evRet (evN dTuple (evConsB (evSlot 2) (evNilB)))))
noncomputable def m_raised : Fm := fnM 8 2 ev_raised
abbrev s_other_roads : Stmt := topS 5
abbrev N_other_roads : List Str := ["web", "some", "road"]
theorem sc_other_roads : FnScope N_other_roads ["web", "some"] (defScope s_other_roads) := ⟨rfl, rfl, rfl, by decide +kernel, rfl, by decide +kernel, by decide +kernel⟩
noncomputable def ev_other_roads : Ev Out := evRet (evLc (evRng1 (evCons (evN dLen (evConsB (evV (ev2 dIx (evSlot 0) (evV (evC (.int 1))))) (evNilB))) (evNil))) [1] [2] (tgName 2) (evB (ev2 dNotIn (evSlot 2) (evSlot 1))) (evName 2))
noncomputable def m_other_roads : Fm := fnM 3 2 ev_other_roads
abbrev s_ends_of : Stmt := topS 7
abbrev N_ends_of : List Str := ["web", "road"]
theorem sc_ends_of : FnScope N_ends_of ["web", "road"] (defScope s_ends_of) := ⟨rfl, rfl, rfl, by decide +kernel, rfl, by decide +kernel, by decide +kernel⟩
noncomputable def ev_ends_of : Ev Out := evRet (evSl dSl (evV (ev2 dIx (evV (ev2 dIx (evSlot 0) (evV (evC (.int 1))))) (evSlot 1))) (evNo) (evPt (evV (evC (.int 2)))))
noncomputable def m_ends_of : Fm := fnM 2 2 ev_ends_of
abbrev s_beyond : Stmt := topS 8
abbrev N_beyond : List Str := ["web", "road", "house", "a", "b"]
theorem sc_beyond : FnScope N_beyond ["web", "road", "house"] (defScope s_beyond) := ⟨rfl, rfl, rfl, by decide +kernel, rfl, by decide +kernel, by decide +kernel⟩
noncomputable def ev_beyond : Ev Out := evSeq (evAsg (tgTup 2 (tgCons (tgName 3) (tgCons (tgName 4) (tgNil)))) (evCall m_ends_of (evCons (evName 0) (evCons (evName 1) (evNil))))) (evSeq (evIf (evB (ev2 dEq (evSlot 2) (evSlot 3))) (evRetOwn 4) (evPass)) (evRet (evIte (evB (ev2 dEq (evSlot 2) (evSlot 4))) (evName 3) (evC .non))))
noncomputable def m_beyond : Fm := fnM 5 3 ev_beyond
abbrev s_ways_on : Stmt := topS 9
abbrev N_ways_on : List Str := ["web", "some", "here", "goal", "seen", "found", "road", "there", "way"]
theorem sc_ways_on : FnScope N_ways_on ["web", "some", "here", "goal", "seen"] (defScope s_ways_on) := ⟨rfl, rfl, rfl, by decide +kernel, rfl, by decide +kernel, by decide +kernel⟩
noncomputable def ev_ways_on (m_ways_on : Fm) : Ev Out := evSeq (evIf (evB (ev2 dEq (evSlot 2) (evSlot 3))) (evRet (evLst (evCons (evTup (evNil)) (evNil)))) (evPass)) (evSeq (evSet 5 (evLst (evNil))) (evSeq (evForS (evItS (evName 1)) (tgName 6) (evSeq (evSet 7 (evCall m_beyond (evCons (evName 0) (evCons (evName 6) (evCons (evName 2) (evNil)))))) (evIf (evAnd (evB (ev2 dIsNot (evSlot 7) (evV (evC .non)))) (evB (ev2 dNotIn (evSlot 7) (evSlot 4)))) (evDrop (evMut "list" 5 mExtend (evCons (evLc (evItS (evCall (m_ways_on) (evCons (evName 0) (evCons (evName 1) (evCons (evName 7) (evCons (evName 3) (evCons (ev2 dAdd (evSlot 4) (evV (evLst (evCons (evName 7) (evNil))))) (evNil)))))))) [6] [8] (tgName 8) (evYes) (ev2 dAdd (evV (evTup (evCons (evName 6) (evNil)))) (evSlot 8))) (evNil)))) (evPass)))) (evRetOwn 5)))
noncomputable def m_ways_on : Nat → Fm
  | 0 => fun _ _ => none
  | k + 1 => fnM 9 5 (ev_ways_on (m_ways_on k))
theorem len_ways_on : ∀ (k : Nat) (ds : List D) (st : List Cell) (r : RV × List Cell), m_ways_on k ds st = some r → ds.length = 5
  | 0, _, _, _, h => by cases h
  | k + 1, _, _, _, h => fnM_len h
abbrev s_detours_by : Stmt := topS 10
abbrev N_detours_by : List Str := ["web", "road", "some", "a", "b", "one"]
theorem sc_detours_by : FnScope N_detours_by ["web", "road", "some"] (defScope s_detours_by) := ⟨rfl, rfl, rfl, by decide +kernel, rfl, by decide +kernel, by decide +kernel⟩
noncomputable def ev_detours_by : Ev Out := evSeq (evAsg (tgTup 2 (tgCons (tgName 3) (tgCons (tgName 4) (tgNil)))) (evCall m_ends_of (evCons (evName 0) (evCons (evName 1) (evNil))))) (evRet (evN dSortedA (evConsB (evV (evCall (m_ways_on 7) (evCons (evName 0) (evCons (evLc (evItS (evName 2)) [1] [5] (tgName 5) (evB (ev2 dNe (evSlot 5) (evSlot 1))) (evName 5)) (evCons (evName 3) (evCons (evName 4) (evCons (evLst (evCons (evName 3) (evNil))) (evNil)))))))) (evNilB))))
noncomputable def m_detours_by : Fm := fnM 6 3 ev_detours_by
abbrev s_first_detour : Stmt := topS 11
abbrev N_first_detour : List Str := ["web", "road", "some", "found"]
theorem sc_first_detour : FnScope N_first_detour ["web", "road", "some"] (defScope s_first_detour) := ⟨rfl, rfl, rfl, by decide +kernel, rfl, by decide +kernel, by decide +kernel⟩
noncomputable def ev_first_detour : Ev Out := evSeq (evSet 3 (evCall m_detours_by (evCons (evName 0) (evCons (evName 1) (evCons (evName 2) (evNil)))))) (evRet (evIte (evB (ev2 dNe (evSlot 3) (evV (evLst (evNil))))) (ev2 dIx (evSlot 3) (evV (evC (.int 0)))) (evC .non)))
noncomputable def m_first_detour : Fm := fnM 4 3 ev_first_detour
abbrev s_first_side : Stmt := topS 12
abbrev N_first_side : List Str := ["web", "road", "some", "a", "b", "houses", "one"]
theorem sc_first_side : FnScope N_first_side ["web", "road", "some"] (defScope s_first_side) := ⟨rfl, rfl, rfl, by decide +kernel, rfl, by decide +kernel, by decide +kernel⟩
noncomputable def ev_first_side : Ev Out := evSeq (evAsg (tgTup 2 (tgCons (tgName 3) (tgCons (tgName 4) (tgNil)))) (evCall m_ends_of (evCons (evName 0) (evCons (evName 1) (evNil))))) (evSeq (evSet 5 (evCall m_reached (evCons (evLc (evItS (evName 2)) [0, 1] [6] (tgName 6) (evB (ev2 dNe (evSlot 6) (evSlot 1))) (evCall m_ends_of (evCons (evName 0) (evCons (evName 6) (evNil))))) (evCons (evName 3) (evNil))))) (evRet (evIte (evB (ev2 dIn (evSlot 4) (evSlot 5))) (evC .non) (evN dTuple (evConsB (evSlot 5) (evNilB))))))
noncomputable def m_first_side : Fm := fnM 7 3 ev_first_side
abbrev s_decided : Stmt := topS 14
abbrev N_decided : List Str := ["plan"]
theorem sc_decided : FnScope N_decided ["plan"] (defScope s_decided) := ⟨rfl, rfl, rfl, by decide +kernel, rfl, by decide +kernel, by decide +kernel⟩
noncomputable def ev_decided : Ev Out := evRet (evN dSortedA (evConsB (evV (ev2 dAdd (evV (ev2 dIx (evSlot 0) (evV (evC (.int 0))))) (evV (ev2 dIx (evSlot 0) (evV (evC (.int 1))))))) (evNilB)))
noncomputable def m_decided : Fm := fnM 1 1 ev_decided
abbrev s_find_side : Stmt := topS 15
abbrev N_find_side : List Str := ["web", "plan", "road", "built", "dropped", "some", "one"]
theorem sc_find_side : FnScope N_find_side ["web", "plan", "road"] (defScope s_find_side) := ⟨rfl, rfl, rfl, by decide +kernel, rfl, by decide +kernel, by decide +kernel⟩
noncomputable def ev_find_side : Ev Out := evSeq (evAsg (tgTup 2 (tgCons (tgName 3) (tgCons (tgName 4) (tgNil)))) (evName 1)) (evSeq (evSet 5 (evLc (evItS (evCall m_other_roads (evCons (evName 0) (evCons (evName 4) (evNil))))) [3, 0, 2] [6] (tgName 6) (evOr (evB (ev2 dIn (evSlot 6) (evSlot 3))) (evB (ev2 dLt (evV (evCall m_low_of (evCons (evName 0) (evCons (evName 6) (evNil))))) (evV (evCall m_high_of (evCons (evName 0) (evCons (evName 2) (evNil)))))))) (evName 6))) (evRet (evCall m_first_side (evCons (evName 0) (evCons (evName 2) (evCons (evName 5) (evNil)))))))
noncomputable def m_find_side : Fm := fnM 7 3 ev_find_side
abbrev s_find_detour : Stmt := topS 16
abbrev N_find_detour : List Str := ["web", "plan", "road", "one"]
theorem sc_find_detour : FnScope N_find_detour ["web", "plan", "road"] (defScope s_find_detour) := ⟨rfl, rfl, rfl, by decide +kernel, rfl, by decide +kernel, by decide +kernel⟩
noncomputable def ev_find_detour : Ev Out := evRet (evCall m_first_detour (evCons (evName 0) (evCons (evName 2) (evCons (evLc (evItS (evCall m_other_roads (evCons (evName 0) (evCons (ev2 dIx (evSlot 1) (evV (evC (.int 1)))) (evNil))))) [0, 2] [3] (tgName 3) (evB (ev2 dLe (evV (evCall m_high_of (evCons (evName 0) (evCons (evName 3) (evNil))))) (evV (evCall m_low_of (evCons (evName 0) (evCons (evName 2) (evNil))))))) (evName 3)) (evNil)))))
noncomputable def m_find_detour : Fm := fnM 4 3 ev_find_detour
abbrev s_find_reason : Stmt := topS 17
abbrev N_find_reason : List Str := ["web", "plan", "road"]
theorem sc_find_reason : FnScope N_find_reason ["web", "plan", "road"] (defScope s_find_reason) := ⟨rfl, rfl, rfl, by decide +kernel, rfl, by decide +kernel, by decide +kernel⟩
noncomputable def ev_find_reason : Ev Out := evRet (evIte (evB (ev2 dIn (evSlot 2) (evV (ev2 dIx (evSlot 1) (evV (evC (.int 0))))))) (evCall m_find_side (evCons (evName 0) (evCons (evName 1) (evCons (evName 2) (evNil))))) (evCall m_find_detour (evCons (evName 0) (evCons (evName 1) (evCons (evName 2) (evNil))))))
noncomputable def m_find_reason : Fm := fnM 3 3 ev_find_reason
abbrev s_find_breach : Stmt := topS 18
abbrev N_find_breach : List Str := ["web", "plan", "road"]
theorem sc_find_breach : FnScope N_find_breach ["web", "plan"] (defScope s_find_breach) := ⟨rfl, rfl, rfl, by decide +kernel, rfl, by decide +kernel, by decide +kernel⟩
noncomputable def ev_find_breach : Ev Out := evSeq (evForS (evItS (evCall m_decided (evCons (evName 1) (evNil)))) (tgName 2) (evIf (evB (ev2 dIs (evV (evCall m_find_reason (evCons (evName 0) (evCons (evName 1) (evCons (evName 2) (evNil)))))) (evV (evC .non)))) (evRet (evCall m_raised (evCons (evName 0) (evCons (evIte (evB (ev2 dIn (evSlot 2) (evV (ev2 dIx (evSlot 1) (evV (evC (.int 0))))))) (evLst (evCons (evName 2) (evNil))) (evCall m_other_roads (evCons (evName 0) (evCons (evLst (evCons (evName 2) (evNil))) (evNil))))) (evNil))))) (evPass))) (evRet (evC .non))
noncomputable def m_find_breach : Fm := fnM 3 2 ev_find_breach
abbrev s_taken : Stmt := topS 22
abbrev N_taken : List Str := ["plan", "step", "built", "dropped", "word", "road"]
theorem sc_taken : FnScope N_taken ["plan", "step"] (defScope s_taken) := ⟨rfl, rfl, rfl, by decide +kernel, rfl, by decide +kernel, by decide +kernel⟩
noncomputable def ev_taken : Ev Out := evSeq (evAsg (tgTup 2 (tgCons (tgName 2) (tgCons (tgName 3) (tgNil)))) (evName 0)) (evSeq (evAsg (tgTup 2 (tgCons (tgName 4) (tgCons (tgName 5) (tgNil)))) (evName 1)) (evSeq (evIf (evB (ev2 dEq (evSlot 4) (evV (evC (.str "build"))))) (evRet (evTup (evCons (evN dTuple (evConsB (evV (evN dSortedA (evConsB (evV (ev2 dAdd (evSlot 2) (evV (evTup (evCons (evName 5) (evNil)))))) (evNilB)))) (evNilB))) (evCons (evName 3) (evNil))))) (evPass)) (evRet (evTup (evCons (evName 2) (evCons (evN dTuple (evConsB (evV (evN dSortedA (evConsB (evV (ev2 dAdd (evSlot 3) (evV (evTup (evCons (evName 5) (evNil)))))) (evNilB)))) (evNilB))) (evNil)))))))
noncomputable def m_taken : Fm := fnM 6 2 ev_taken
abbrev s_holds : Stmt := topS 23
abbrev N_holds : List Str := ["web", "plan"]
theorem sc_holds : FnScope N_holds ["web", "plan"] (defScope s_holds) := ⟨rfl, rfl, rfl, by decide +kernel, rfl, by decide +kernel, by decide +kernel⟩
noncomputable def ev_holds : Ev Out := evRet (ev2 dIs (evV (evCall m_find_breach (evCons (evName 0) (evCons (evName 1) (evNil))))) (evV (evC .non)))
noncomputable def m_holds : Fm := fnM 2 2 ev_holds
abbrev s_options : Stmt := topS 24
abbrev N_options : List Str := ["web", "plan", "some", "steps", "road", "step"]
theorem sc_options : FnScope N_options ["web", "plan"] (defScope s_options) := ⟨rfl, rfl, rfl, by decide +kernel, rfl, by decide +kernel, by decide +kernel⟩
noncomputable def ev_options : Ev Out := evSeq (evSet 2 (evCall m_other_roads (evCons (evName 0) (evCons (evCall m_decided (evCons (evName 1) (evNil))) (evNil))))) (evSeq (evSet 3 (ev2 dAdd (evV (evLc (evItS (evName 2)) [] [4] (tgName 4) (evYes) (evTup (evCons (evC (.str "build")) (evCons (evName 4) (evNil)))))) (evV (evLc (evItS (evName 2)) [] [4] (tgName 4) (evYes) (evTup (evCons (evC (.str "drop")) (evCons (evName 4) (evNil)))))))) (evRet (evLc (evItS (evName 3)) [0, 1] [5] (tgName 5) (evTru (evV (evCall m_holds (evCons (evName 0) (evCons (evCall m_taken (evCons (evName 1) (evCons (evName 5) (evNil)))) (evNil)))))) (evName 5))))
noncomputable def m_options : Fm := fnM 6 2 ev_options
abbrev s_find_against : Stmt := topS 25
abbrev N_find_against : List Str := ["web", "plan", "step"]
theorem sc_find_against : FnScope N_find_against ["web", "plan", "step"] (defScope s_find_against) := ⟨rfl, rfl, rfl, by decide +kernel, rfl, by decide +kernel, by decide +kernel⟩
noncomputable def ev_find_against : Ev Out := evRet (evCall m_find_breach (evCons (evName 0) (evCons (evCall m_taken (evCons (evName 1) (evCons (evName 2) (evNil)))) (evNil))))
noncomputable def m_find_against : Fm := fnM 3 3 ev_find_against
abbrev s__law_open : Stmt := topS 27
abbrev N__law_open : List Str := ["script", "cells", "k", "cell"]
theorem sc__law_open : FnScope N__law_open ["script"] (defScope s__law_open) := ⟨rfl, rfl, rfl, by decide +kernel, rfl, by decide +kernel, by decide +kernel⟩
noncomputable def ev__law_open : Ev Out := evSeq (evSet 1 (evN dList (evConsB (evV (evSl dSl (evSlot 0) (evNo) (evPt (evV (evC (.int 12)))))) (evNilB)))) (evSeq (evForS (evArgs dEnumS (evCons (evSl dSl (evSlot 0) (evPt (evV (evC (.int 12)))) (evPt (evV (evC (.int 63))))) (evNil))) (tgTup 2 (tgCons (tgName 2) (tgCons (tgName 3) (tgNil)))) (evSetI 1 dSet (evV (ev2 dMod (evSlot 2) (evV (evC (.int 12))))) (ev2 dAdd (evV (ev2 dIx (evSlot 1) (evV (ev2 dMod (evSlot 2) (evV (evC (.int 12))))))) (evSlot 3)))) (evRet (evLst (evCons (evName 1) (evCons (evC (.int 0)) (evCons (evC (.int 0)) (evNil)))))))
noncomputable def m__law_open : Fm := fnM 4 1 ev__law_open
abbrev s__law_spread : Stmt := topS 28
abbrev N__law_spread : List Str := ["cell", "at", "primes", "one", "two", "three"]
theorem sc__law_spread : FnScope N__law_spread ["cell", "at"] (defScope s__law_spread) := ⟨rfl, rfl, rfl, by decide +kernel, rfl, by decide +kernel, by decide +kernel⟩
noncomputable def ev__law_spread : Ev Out := evSeq (evIf (evB (ev2 dGe (evSlot 0) (evV (ev2 dPow (evV (evC (.int 10))) (evV (evC (.int 18))))))) (evRetOwn 0) (evPass)) (evSeq (evSet 2 (evLst (evCons (evC (.int 2147483629)) (evCons (evC (.int 2147483587)) (evCons (evC (.int 2147483579)) (evCons (evC (.int 2147483563)) (evCons (evC (.int 2147483549)) (evCons (evC (.int 2147483543)) (evCons (evC (.int 2147483497)) (evCons (evC (.int 2147483489)) (evNil))))))))))) (evSeq (evSet 2 (ev2 dAdd (evSlot 2) (evV (evLst (evCons (evC (.int 2147483477)) (evCons (evC (.int 2147483423)) (evCons (evC (.int 2147483399)) (evCons (evC (.int 2147483353)) (evCons (evC (.int 2147483323)) (evNil)))))))))) (evSeq (evSet 3 (ev2 dMod (evV (ev2 dPow (evV (ev2 dAdd (evV (ev2 dAdd (evV (ev2 dMul (evV (ev2 dMod (evSlot 0) (evV (evC (.int 1000000007))))) (evV (ev2 dAdd (evV (ev2 dMul (evV (evC (.int 2))) (evSlot 1))) (evV (evC (.int 69069))))))) (evV (ev2 dMul (evSlot 1) (evV (evC (.int 40503))))))) (evV (evC (.int 977))))) (evV (evC (.int 3))))) (evV (ev2 dIx (evSlot 2) (evV (ev2 dMod (evSlot 1) (evV (evC (.int 13))))))))) (evSeq (evSet 4 (ev2 dMod (evV (ev2 dPow (evV (ev2 dAdd (evV (ev2 dAdd (evV (ev2 dMul (evSlot 3) (evV (ev2 dAdd (evSlot 1) (evV (evC (.int 3))))))) (evV (ev2 dMod (evSlot 0) (evV (evC (.int 65537))))))) (evV (evC (.int 5))))) (evV (evC (.int 5))))) (evV (ev2 dIx (evSlot 2) (evV (ev2 dMod (evV (ev2 dAdd (evSlot 1) (evV (evC (.int 5))))) (evV (evC (.int 13))))))))) (evSeq (evSet 5 (ev2 dMod (evV (ev2 dPow (evV (ev2 dAdd (evV (ev2 dAdd (evSlot 4) (evV (ev2 dMod (evSlot 3) (evV (evC (.int 1009))))))) (evSlot 1))) (evV (evC (.int 3))))) (evV (ev2 dIx (evSlot 2) (evV (ev2 dMod (evV (ev2 dAdd (evSlot 1) (evV (evC (.int 7))))) (evV (evC (.int 13))))))))) (evRet (ev2 dAdd (evV (ev2 dMul (evV (ev2 dAdd (evV (ev2 dMul (evSlot 3) (evV (evC (.int 2147483647))))) (evSlot 4))) (evV (evC (.int 2147483647))))) (evSlot 5))))))))
noncomputable def m__law_spread : Fm := fnM 6 2 ev__law_spread
abbrev s__law_take : Stmt := topS 29
abbrev N__law_take : List Str := ["pen", "amount", "at", "cell", "found"]
theorem sc__law_take : FnScope N__law_take ["pen", "amount"] (defScope s__law_take) := ⟨rfl, rfl, rfl, by decide +kernel, rfl, by decide +kernel, by decide +kernel⟩
noncomputable def ev__law_take : Ev Out := evSeq (evIf (evB (ev2 dLt (evV (ev2 dIx (evSlot 0) (evV (evC (.int 2))))) (evSlot 1))) (evSeq (evSet 2 (ev2 dIx (evSlot 0) (evV (evC (.int 1))))) (evSeq (evSet 3 (evC (.int 0))) (evSeq (evIf (evB (ev2 dLt (evSlot 2) (evV (evN dLen (evConsB (evV (ev2 dIx (evSlot 0) (evV (evC (.int 0))))) (evNilB)))))) (evSet 3 (ev2 dIx (evV (ev2 dIx (evSlot 0) (evV (evC (.int 0))))) (evSlot 2))) (evIf (evB (ev2 dGt (evV (evN dLen (evConsB (evV (ev2 dIx (evSlot 0) (evV (evC (.int 0))))) (evNilB)))) (evV (evC (.int 0))))) (evSet 3 (ev2 dMod (evV (ev2 dIx (evV (ev2 dIx (evSlot 0) (evV (evC (.int 0))))) (evV (ev2 dMod (evV (ev2 dAdd (evV (ev2 dMul (evSlot 2) (evV (evC (.int 5))))) (evV (evC (.int 3))))) (evV (evN dLen (evConsB (evV (ev2 dIx (evSlot 0) (evV (evC (.int 0))))) (evNilB)))))))) (evV (ev2 dAdd (evV (ev2 dPow (evV (evC (.int 10))) (evV (evC (.int 17))))) (evSlot 2))))) (evPass))) (evSeq (evSetI 0 dSet (evV (evC (.int 1))) (ev2 dAdd (evSlot 2) (evV (evC (.int 1))))) (evSetI 0 dSet (evV (evC (.int 2))) (evCall m__law_spread (evCons (evName 3) (evCons (evName 2) (evNil))))))))) (evPass)) (evSeq (evSet 4 (ev2 dMod (evV (ev2 dIx (evSlot 0) (evV (evC (.int 2))))) (evSlot 1))) (evSeq (evSetI 0 dSet (evV (evC (.int 2))) (ev2 dFdiv (evV (ev2 dIx (evSlot 0) (evV (evC (.int 2))))) (evSlot 1))) (evRetOwn 4)))
noncomputable def m__law_take : Fm := fnM 5 2 ev__law_take
abbrev s__law_same : Stmt := topS 30
abbrev N__law_same : List Str := ["found", "due", "one", "other"]
theorem sc__law_same : FnScope N__law_same ["found", "due"] (defScope s__law_same) := ⟨rfl, rfl, rfl, by decide +kernel, rfl, by decide +kernel, by decide +kernel⟩
noncomputable def ev__law_same (m__law_same : Fm) : Ev Out := evSeq (evIf (evOr (evB (ev2 dIs (evSlot 1) (evV (evC .non)))) (evB (ev2 dIs (evSlot 0) (evV (evC .non))))) (evRet (evVand (ev2 dIs (evSlot 1) (evV (evC .non))) (ev2 dIs (evSlot 0) (evV (evC .non))))) (evPass)) (evSeq (evIf (evOr (evTru (evV (evIsi "bool" (evSlot 1)))) (evTru (evV (evIsi "bool" (evSlot 0))))) (evRet (evVand (evIsi "bool" (evSlot 1)) (evVand (evIsi "bool" (evSlot 0)) (ev2 dEq (evSlot 0) (evSlot 1))))) (evPass)) (evSeq (evIf (evTru (evV (evIsis ["int", "str"] (evSlot 1)))) (evSeq (evIf (evB (ev2 dNe (evV (evIsi "int" (evSlot 0))) (evV (evIsi "int" (evSlot 1))))) (evRet (evC (.bl false))) (evPass)) (evRet (evVand (evIsis ["int", "str"] (evSlot 0)) (ev2 dEq (evSlot 0) (evSlot 1))))) (evPass)) (evSeq (evIf (evOr (evB (ev2 dNe (evV (evIsi "tuple" (evSlot 1))) (evV (evIsi "tuple" (evSlot 0))))) (evB (ev2 dNe (evV (evIsi "list" (evSlot 1))) (evV (evIsi "list" (evSlot 0)))))) (evRet (evC (.bl false))) (evPass)) (evSeq (evIf (evB (ev2 dNe (evV (evN dLen (evConsB (evSlot 0) (evNilB)))) (evV (evN dLen (evConsB (evSlot 1) (evNilB)))))) (evRet (evC (.bl false))) (evPass)) (evRet (ev2 dNotIn (evV (evC (.bl false))) (evV (evLc (evArgs dZip (evCons (evName 0) (evCons (evName 1) (evNil)))) [] [2, 3] (tgTup 2 (tgCons (tgName 2) (tgCons (tgName 3) (tgNil)))) (evYes) (evCall (m__law_same) (evCons (evName 2) (evCons (evName 3) (evNil))))))))))))
noncomputable def m__law_same : Nat → Fm
  | 0 => fun _ _ => none
  | k + 1 => fnM 4 2 (ev__law_same (m__law_same k))
theorem len__law_same : ∀ (k : Nat) (ds : List D) (st : List Cell) (r : RV × List Cell), m__law_same k ds st = some r → ds.length = 2
  | 0, _, _, _, h => by cases h
  | k + 1, _, _, _, h => fnM_len h
abbrev s__law_one_of : Stmt := topS 31
abbrev N__law_one_of : List Str := ["pen", "some"]
theorem sc__law_one_of : FnScope N__law_one_of ["pen", "some"] (defScope s__law_one_of) := ⟨rfl, rfl, rfl, by decide +kernel, rfl, by decide +kernel, by decide +kernel⟩
noncomputable def ev__law_one_of : Ev Out := evRet (ev2 dIx (evSlot 1) (evV (evCall m__law_take (evCons (evName 0) (evCons (evN dLen (evConsB (evSlot 1) (evNilB))) (evNil))))))
noncomputable def m__law_one_of : Fm := fnM 2 2 ev__law_one_of
abbrev s__law_is_integer : Stmt := topS 32
abbrev N__law_is_integer : List Str := ["held"]
theorem sc__law_is_integer : FnScope N__law_is_integer ["held"] (defScope s__law_is_integer) := ⟨rfl, rfl, rfl, by decide +kernel, rfl, by decide +kernel, by decide +kernel⟩
noncomputable def ev__law_is_integer : Ev Out := evRet (evVand (evIsi "int" (evSlot 0)) (evVnot (evIsi "bool" (evSlot 0))))
noncomputable def m__law_is_integer : Fm := fnM 1 1 ev__law_is_integer
abbrev s__law_draw_bounds : Stmt := topS 33
abbrev N__law_draw_bounds : List Str := ["pen", "low"]
theorem sc__law_draw_bounds : FnScope N__law_draw_bounds ["pen"] (defScope s__law_draw_bounds) := ⟨rfl, rfl, rfl, by decide +kernel, rfl, by decide +kernel, by decide +kernel⟩
noncomputable def ev__law_draw_bounds : Ev Out := evSeq (evSet 1 (evCall m__law_one_of (evCons (evName 0) (evCons (evLst (evCons (evC (.int 0)) (evCons (evC (.int 1)) (evCons (evC (.int 2)) (evCons (evC (.int 3)) (evCons (evC (.int 5)) (evCons (evCall m__law_take (evCons (evName 0) (evCons (evC (.int 10)) (evNil)))) (evCons (evCall m__law_take (evCons (evName 0) (evCons (evC (.int 100)) (evNil)))) (evNil))))))))) (evNil))))) (evRet (evTup (evCons (evName 1) (evCons (evN dMinA (evConsB (evV (evC (.int 99))) (evConsB (evV (ev2 dAdd (evSlot 1) (evV (evCall m__law_one_of (evCons (evName 0) (evCons (evLst (evCons (evC (.int 0)) (evCons (evC (.int 0)) (evCons (evC (.int 1)) (evCons (evC (.int 2)) (evCons (evC (.int 4)) (evCons (evCall m__law_take (evCons (evName 0) (evCons (evC (.int 10)) (evNil)))) (evCons (evCall m__law_take (evCons (evName 0) (evCons (evC (.int 100)) (evNil)))) (evNil))))))))) (evNil))))))) (evNilB)))) (evNil)))))
noncomputable def m__law_draw_bounds : Fm := fnM 2 1 ev__law_draw_bounds
abbrev s__law_draw_web : Stmt := topS 34
abbrev N__law_draw_web : List Str := ["pen", "houses", "most", "count", "roads", "house", "again", "b", "order", "turned", "a", "low", "high"]
theorem sc__law_draw_web : FnScope N__law_draw_web ["pen", "houses", "most"] (defScope s__law_draw_web) := ⟨rfl, rfl, rfl, by decide +kernel, rfl, by decide +kernel, by decide +kernel⟩
noncomputable def ev__law_draw_web : Ev Out := evSeq (evPar 3 4 (ev2 dAdd (evV (evC (.int 1))) (evV (evCall m__law_take (evCons (evName 0) (evCons (evName 1) (evNil)))))) (evLst (evNil))) (evSeq (evForS (evRng2 (evCons (evC (.int 1)) (evCons (evName 3) (evNil)))) (tgName 5) (evDrop (evMut "list" 4 mInsert (evCons (evCall m__law_take (evCons (evName 0) (evCons (ev2 dAdd (evV (evN dLen (evConsB (evSlot 4) (evNilB)))) (evV (evC (.int 1)))) (evNil)))) (evCons (ev2 dAdd (evV (evTup (evCons (evCall m__law_take (evCons (evName 0) (evCons (evName 5) (evNil)))) (evCons (evName 5) (evNil))))) (evV (evCall m__law_draw_bounds (evCons (evName 0) (evNil))))) (evNil)))))) (evSeq (evForS (evRng1 (evCons (evCall m__law_take (evCons (evName 0) (evCons (ev2 dAdd (evSlot 2) (evV (evC (.int 1)))) (evNil)))) (evNil))) (tgName 6) (evIf (evAnd (evB (ev2 dGt (evSlot 3) (evV (evC (.int 1))))) (evB (ev2 dLt (evV (evN dLen (evConsB (evSlot 4) (evNilB)))) (evSlot 2)))) (evSeq (evSet 7 (ev2 dAdd (evV (evC (.int 1))) (evV (evCall m__law_take (evCons (evName 0) (evCons (ev2 dSub (evSlot 3) (evV (evC (.int 1)))) (evNil))))))) (evDrop (evMut "list" 4 mInsert (evCons (evCall m__law_take (evCons (evName 0) (evCons (ev2 dAdd (evV (evN dLen (evConsB (evSlot 4) (evNilB)))) (evV (evC (.int 1)))) (evNil)))) (evCons (ev2 dAdd (evV (evTup (evCons (evCall m__law_take (evCons (evName 0) (evCons (evName 7) (evNil)))) (evCons (evName 7) (evNil))))) (evV (evCall m__law_draw_bounds (evCons (evName 0) (evNil))))) (evNil)))))) (evPass))) (evSeq (evPar 8 9 (evLst (evNil)) (evLst (evNil))) (evSeq (evForS (evRng1 (evCons (evName 3) (evNil))) (tgName 5) (evDrop (evMut "list" 8 mInsert (evCons (evCall m__law_take (evCons (evName 0) (evCons (ev2 dAdd (evSlot 5) (evV (evC (.int 1)))) (evNil)))) (evCons (evName 5) (evNil)))))) (evSeq (evForS (evItS (evName 4)) (tgTup 4 (tgCons (tgName 10) (tgCons (tgName 7) (tgCons (tgName 11) (tgCons (tgName 12) (tgNil)))))) (evDrop (evMut "list" 9 mAppend (evCons (evTup (evCons (evN dMinA (evConsB (evV (ev2 dIx (evSlot 8) (evSlot 10))) (evConsB (evV (ev2 dIx (evSlot 8) (evSlot 7))) (evNilB)))) (evCons (evN dMaxA (evConsB (evV (ev2 dIx (evSlot 8) (evSlot 10))) (evConsB (evV (ev2 dIx (evSlot 8) (evSlot 7))) (evNilB)))) (evCons (evName 11) (evCons (evName 12) (evNil)))))) (evNil))))) (evRet (evTup (evCons (evName 3) (evCons (evN dTuple (evConsB (evSlot 9) (evNilB))) (evNil))))))))))
noncomputable def m__law_draw_web : Fm := fnM 13 3 ev__law_draw_web
abbrev s__law_fits : Stmt := topS 35
abbrev N__law_fits : List Str := ["web", "given", "number", "bounds"]
theorem sc__law_fits : FnScope N__law_fits ["web", "given"] (defScope s__law_fits) := ⟨rfl, rfl, rfl, by decide +kernel, rfl, by decide +kernel, by decide +kernel⟩
noncomputable def ev__law_fits : Ev Out := evSeq (evIf (evOr (evNot (evTru (evV (evIsi "tuple" (evSlot 1))))) (evB (ev2 dNe (evV (evN dLen (evConsB (evSlot 1) (evNilB)))) (evV (evN dLen (evConsB (evV (ev2 dIx (evSlot 0) (evV (evC (.int 1))))) (evNilB))))))) (evRet (evC (.bl false))) (evPass)) (evSeq (evForS (evArgs dZip (evCons (evName 1) (evCons (ev2 dIx (evSlot 0) (evV (evC (.int 1)))) (evNil)))) (tgTup 2 (tgCons (tgName 2) (tgCons (tgName 3) (tgNil)))) (evIf (evOr (evNot (evTru (evV (evCall m__law_is_integer (evCons (evName 2) (evNil)))))) (evNot (evB (evCh dLe dLe (evV (ev2 dIx (evSlot 3) (evV (evC (.int 2))))) (evSlot 2) (evV (ev2 dIx (evSlot 3) (evV (evC (.int 3))))))))) (evRet (evC (.bl false))) (evPass))) (evRet (evC (.bl true))))
noncomputable def m__law_fits : Fm := fnM 4 2 ev__law_fits
abbrev s__law_reach : Stmt := topS 36
abbrev N__law_reach : List Str := ["web", "roads", "house", "found", "waiting", "here", "road", "a", "b", "there"]
theorem sc__law_reach : FnScope N__law_reach ["web", "roads", "house"] (defScope s__law_reach) := ⟨rfl, rfl, rfl, by decide +kernel, rfl, by decide +kernel, by decide +kernel⟩
noncomputable def ev__law_reach : Ev Out := evSeq (evPar 3 4 (evLst (evCons (evName 2) (evNil))) (evLst (evCons (evName 2) (evNil)))) (evSeq (evWh (evB (ev2 dNe (evSlot 4) (evV (evLst (evNil))))) (evSeq (evSet 5 (evMut "list" 4 mPop evNil)) (evForS (evItS (evName 1)) (tgName 6) (evSeq (evAsg (tgTup 2 (tgCons (tgName 7) (tgCons (tgName 8) (tgNil)))) (evSl dSl (evV (ev2 dIx (evV (ev2 dIx (evSlot 0) (evV (evC (.int 1))))) (evSlot 6))) (evNo) (evPt (evV (evC (.int 2)))))) (evForS (evItS (evLst (evCons (evName 7) (evCons (evName 8) (evNil))))) (tgName 9) (evIf (evAnd (evB (ev2 dIn (evSlot 5) (evV (evTup (evCons (evName 7) (evCons (evName 8) (evNil))))))) (evB (ev2 dNotIn (evSlot 9) (evSlot 3)))) (evSeq (evDrop (evMut "list" 3 mAppend (evCons (evName 9) (evNil)))) (evDrop (evMut "list" 4 mAppend (evCons (evName 9) (evNil))))) (evPass))))))) (evRet (evN dSortedA (evConsB (evSlot 3) (evNilB)))))
noncomputable def m__law_reach : Fm := fnM 10 3 ev__law_reach
abbrev s__law_is_apart : Stmt := topS 37
abbrev N__law_is_apart : List Str := ["web", "roads", "road", "a", "b", "one"]
theorem sc__law_is_apart : FnScope N__law_is_apart ["web", "roads", "road"] (defScope s__law_is_apart) := ⟨rfl, rfl, rfl, by decide +kernel, rfl, by decide +kernel, by decide +kernel⟩
noncomputable def ev__law_is_apart : Ev Out := evSeq (evAsg (tgTup 2 (tgCons (tgName 3) (tgCons (tgName 4) (tgNil)))) (evSl dSl (evV (ev2 dIx (evV (ev2 dIx (evSlot 0) (evV (evC (.int 1))))) (evSlot 2))) (evNo) (evPt (evV (evC (.int 2)))))) (evRet (ev2 dNotIn (evSlot 4) (evV (evCall m__law_reach (evCons (evName 0) (evCons (evLc (evItS (evName 1)) [2] [5] (tgName 5) (evB (ev2 dNe (evSlot 5) (evSlot 2))) (evName 5)) (evCons (evName 3) (evNil))))))))
noncomputable def m__law_is_apart : Fm := fnM 6 3 ev__law_is_apart
abbrev s__law_least_total : Stmt := topS 38
abbrev N__law_least_total : List Str := ["web", "lengths", "inside", "whole", "some", "best", "a", "b", "road", "one"]
theorem sc__law_least_total : FnScope N__law_least_total ["web", "lengths"] (defScope s__law_least_total) := ⟨rfl, rfl, rfl, by decide +kernel, rfl, by decide +kernel, by decide +kernel⟩
noncomputable def ev__law_least_total : Ev Out := evSeq (evPar 2 3 (evLst (evCons (evC (.int 0)) (evNil))) (evC (.int 0))) (evSeq (evWh (evB (ev2 dLt (evV (evN dLen (evConsB (evSlot 2) (evNilB)))) (evV (ev2 dIx (evSlot 0) (evV (evC (.int 0))))))) (evSeq (evSet 4 (evQuietL (evLc (evArgs dEnumS (evCons (ev2 dIx (evSlot 0) (evV (evC (.int 1)))) (evNil))) [2] [8, 9] (tgTup 2 (tgCons (tgName 8) (tgCons (tgName 9) (tgNil)))) (evB (ev2 dNe (evV (ev2 dIn (evV (ev2 dIx (evSlot 9) (evV (evC (.int 0))))) (evSlot 2))) (evV (ev2 dIn (evV (ev2 dIx (evSlot 9) (evV (evC (.int 1))))) (evSlot 2))))) (evName 8)))) (evSeq (evSet 5 (ev2 dIx (evV (evN dMinA (evConsB (evV (evLc (evItS (evName 4)) [1] [8] (tgName 8) (evYes) (evTup (evCons (ev2 dIx (evSlot 1) (evSlot 8)) (evCons (evName 8) (evNil)))))) (evNilB)))) (evV (evC (.int 1))))) (evSeq (evSet 3 (ev2 dAdd (evSlot 3) (evV (ev2 dIx (evSlot 1) (evSlot 5))))) (evSeq (evAsg (tgTup 2 (tgCons (tgName 6) (tgCons (tgName 7) (tgNil)))) (evSl dSl (evV (ev2 dIx (evV (ev2 dIx (evSlot 0) (evV (evC (.int 1))))) (evSlot 5))) (evNo) (evPt (evV (evC (.int 2)))))) (evDrop (evMut "list" 2 mAppend (evCons (evIte (evB (ev2 dIn (evSlot 6) (evSlot 2))) (evName 7) (evName 6)) (evNil))))))))) (evRetOwn 3))
noncomputable def m__law_least_total : Fm := fnM 10 2 ev__law_least_total
abbrev s__law_with : Stmt := topS 39
abbrev N__law_with : List Str := ["web", "road", "low", "high"]
theorem sc__law_with : FnScope N__law_with ["web", "road", "low", "high"] (defScope s__law_with) := ⟨rfl, rfl, rfl, by decide +kernel, rfl, by decide +kernel, by decide +kernel⟩
noncomputable def ev__law_with : Ev Out := evRet (evTup (evCons (ev2 dIx (evSlot 0) (evV (evC (.int 0)))) (evCons (ev2 dAdd (evV (ev2 dAdd (evV (evSl dSl (evV (ev2 dIx (evSlot 0) (evV (evC (.int 1))))) (evNo) (evPt (evSlot 1)))) (evV (evTup (evCons (ev2 dAdd (evV (evSl dSl (evV (ev2 dIx (evV (ev2 dIx (evSlot 0) (evV (evC (.int 1))))) (evSlot 1))) (evNo) (evPt (evV (evC (.int 2)))))) (evV (evTup (evCons (evName 2) (evCons (evName 3) (evNil)))))) (evNil)))))) (evV (evSl dSl (evV (ev2 dIx (evSlot 0) (evV (evC (.int 1))))) (evPt (evV (ev2 dAdd (evSlot 1) (evV (evC (.int 1)))))) (evNo)))) (evNil))))
noncomputable def m__law_with : Fm := fnM 4 4 ev__law_with
abbrev s__law_holds : Stmt := topS 40
abbrev N__law_holds : List Str := ["web", "plan", "built", "dropped", "rest", "road", "high", "low", "one"]
theorem sc__law_holds : FnScope N__law_holds ["web", "plan"] (defScope s__law_holds) := ⟨rfl, rfl, rfl, by decide +kernel, rfl, by decide +kernel, by decide +kernel⟩
noncomputable def ev__law_holds : Ev Out := evSeq (evAsg (tgTup 2 (tgCons (tgName 2) (tgCons (tgName 3) (tgNil)))) (evName 1)) (evSeq (evSet 4 (evLc (evRng1 (evCons (evN dLen (evConsB (evV (ev2 dIx (evSlot 0) (evV (evC (.int 1))))) (evNilB))) (evNil))) [3] [5] (tgName 5) (evB (ev2 dNotIn (evSlot 5) (evSlot 3))) (evName 5))) (evSeq (evForS (evItS (evName 2)) (tgName 5) (evSeq (evSet 6 (ev2 dIx (evV (ev2 dIx (evV (ev2 dIx (evSlot 0) (evV (evC (.int 1))))) (evSlot 5))) (evV (evC (.int 3))))) (evIf (evNot (evTru (evV (evCall m__law_is_apart (evCons (evName 0) (evCons (evLc (evItS (evName 4)) [2, 6, 0] [8] (tgName 8) (evOr (evB (ev2 dIn (evSlot 8) (evSlot 2))) (evB (ev2 dLt (evV (ev2 dIx (evV (ev2 dIx (evV (ev2 dIx (evSlot 0) (evV (evC (.int 1))))) (evSlot 8))) (evV (evC (.int 2))))) (evSlot 6)))) (evName 8)) (evCons (evName 5) (evNil)))))))) (evRet (evC (.bl false))) (evPass)))) (evSeq (evForS (evItS (evName 3)) (tgName 5) (evSeq (evSet 7 (ev2 dIx (evV (ev2 dIx (evV (ev2 dIx (evSlot 0) (evV (evC (.int 1))))) (evSlot 5))) (evV (evC (.int 2))))) (evIf (evTru (evV (evCall m__law_is_apart (evCons (evName 0) (evCons (evLc (evItS (evName 4)) [7, 0] [8] (tgName 8) (evB (ev2 dLe (evV (ev2 dIx (evV (ev2 dIx (evV (ev2 dIx (evSlot 0) (evV (evC (.int 1))))) (evSlot 8))) (evV (evC (.int 3))))) (evSlot 7))) (evName 8)) (evCons (evName 5) (evNil))))))) (evRet (evC (.bl false))) (evPass)))) (evRet (evC (.bl true))))))
noncomputable def m__law_holds : Fm := fnM 9 2 ev__law_holds
abbrev s__law_serves : Stmt := topS 41
abbrev N__law_serves : List Str := ["web", "plan", "lengths", "built", "dropped", "best", "joined", "whole", "rest", "number", "is_other", "road"]
theorem sc__law_serves : FnScope N__law_serves ["web", "plan", "lengths"] (defScope s__law_serves) := ⟨rfl, rfl, rfl, by decide +kernel, rfl, by decide +kernel, by decide +kernel⟩
noncomputable def ev__law_serves : Ev Out := evSeq (evAsg (tgTup 2 (tgCons (tgName 3) (tgCons (tgName 4) (tgNil)))) (evName 1)) (evSeq (evSet 5 (evCall m__law_least_total (evCons (evName 0) (evCons (evName 2) (evNil))))) (evSeq (evPar 6 7 (evLst (evNil)) (evC (.int 0))) (evSeq (evSet 8 (evLc (evRng1 (evCons (evN dLen (evConsB (evV (ev2 dIx (evSlot 0) (evV (evC (.int 1))))) (evNilB))) (evNil))) [4, 2, 3] [11] (tgName 11) (evB (ev2 dNotIn (evSlot 11) (evSlot 4))) (evTup (evCons (ev2 dIx (evSlot 2) (evSlot 11)) (evCons (ev2 dNotIn (evSlot 11) (evSlot 3)) (evCons (evName 11) (evNil))))))) (evSeq (evForS (evItS (evN dSortedA (evConsB (evSlot 8) (evNilB)))) (tgTup 3 (tgCons (tgName 9) (tgCons (tgName 10) (tgCons (tgName 11) (tgNil))))) (evIf (evTru (evV (evQuiet (evCall m__law_is_apart (evCons (evName 0) (evCons (evName 6) (evCons (evName 11) (evNil)))))))) (evSeq (evDrop (evMut "list" 6 mAppend (evCons (evName 11) (evNil)))) (evSet 7 (ev2 dAdd (evSlot 7) (evSlot 9)))) (evPass))) (evRet (evVand (ev2 dEq (evV (evN dLen (evConsB (evSlot 6) (evNilB)))) (evV (ev2 dSub (evV (ev2 dIx (evSlot 0) (evV (evC (.int 0))))) (evV (evC (.int 1)))))) (evVand (ev2 dEq (evSlot 7) (evSlot 5)) (ev2 dNotIn (evV (evC (.bl false))) (evV (evQuietL (evLc (evItS (evName 3)) [6] [11] (tgName 11) (evYes) (ev2 dIn (evSlot 11) (evSlot 6)))))))))))))
noncomputable def m__law_serves : Fm := fnM 12 3 ev__law_serves
abbrev s__law_draw_plan : Stmt := topS 42
abbrev N__law_draw_plan : List Str := ["pen", "web", "least", "plan", "again", "road", "steps", "later"]
theorem sc__law_draw_plan : FnScope N__law_draw_plan ["pen", "web", "least"] (defScope s__law_draw_plan) := ⟨rfl, rfl, rfl, by decide +kernel, rfl, by decide +kernel, by decide +kernel⟩
noncomputable def ev__law_draw_plan : Ev Out := evSeq (evSet 3 (evTup (evCons (evTup (evNil)) (evCons (evTup (evNil)) (evNil))))) (evSeq (evForS (evRng1 (evCons (ev2 dAdd (evSlot 2) (evV (evCall m__law_take (evCons (evName 0) (evCons (evC (.int 8)) (evNil)))))) (evNil))) (tgName 4) (evSeq (evSet 5 (evCall m__law_take (evCons (evName 0) (evCons (evN dMaxA (evConsB (evV (evC (.int 1))) (evConsB (evV (evN dLen (evConsB (evV (ev2 dIx (evSlot 1) (evV (evC (.int 1))))) (evNilB)))) (evNilB)))) (evNil))))) (evIf (evAnd (evB (ev2 dLt (evSlot 5) (evV (evN dLen (evConsB (evV (ev2 dIx (evSlot 1) (evV (evC (.int 1))))) (evNilB)))))) (evB (ev2 dNotIn (evSlot 5) (evV (ev2 dAdd (evV (ev2 dIx (evSlot 3) (evV (evC (.int 0))))) (evV (ev2 dIx (evSlot 3) (evV (evC (.int 1)))))))))) (evSeq (evSet 6 (evLst (evCons (evTup (evCons (evN dTuple (evConsB (evV (evN dSortedA (evConsB (evV (ev2 dAdd (evV (ev2 dIx (evSlot 3) (evV (evC (.int 0))))) (evV (evTup (evCons (evName 5) (evNil)))))) (evNilB)))) (evNilB))) (evCons (ev2 dIx (evSlot 3) (evV (evC (.int 1)))) (evNil)))) (evCons (evTup (evCons (ev2 dIx (evSlot 3) (evV (evC (.int 0)))) (evCons (evN dTuple (evConsB (evV (evN dSortedA (evConsB (evV (ev2 dAdd (evV (ev2 dIx (evSlot 3) (evV (evC (.int 1))))) (evV (evTup (evCons (evName 5) (evNil)))))) (evNilB)))) (evNilB))) (evNil)))) (evNil))))) (evSeq (evSet 7 (evCall m__law_one_of (evCons (evName 0) (evCons (evName 6) (evNil))))) (evSet 3 (evIte (evTru (evV (evCall m__law_holds (evCons (evName 1) (evCons (evName 7) (evNil)))))) (evName 7) (evName 3))))) (evPass)))) (evRetOwn 3))
noncomputable def m__law_draw_plan : Fm := fnM 8 3 ev__law_draw_plan
abbrev s__law_draw_near_fixed : Stmt := topS 43
abbrev N__law_draw_near_fixed : List Str := ["pen", "houses", "most", "web", "road", "low"]
theorem sc__law_draw_near_fixed : FnScope N__law_draw_near_fixed ["pen", "houses", "most"] (defScope s__law_draw_near_fixed) := ⟨rfl, rfl, rfl, by decide +kernel, rfl, by decide +kernel, by decide +kernel⟩
noncomputable def ev__law_draw_near_fixed : Ev Out := evSeq (evSet 3 (evCall m__law_draw_web (evCons (evName 0) (evCons (evName 1) (evCons (evName 2) (evNil)))))) (evSeq (evForS (evRng1 (evCons (evN dLen (evConsB (evV (ev2 dIx (evSlot 3) (evV (evC (.int 1))))) (evNilB))) (evNil))) (tgName 4) (evIf (evB (ev2 dGt (evV (evCall m__law_take (evCons (evName 0) (evCons (evC (.int 3)) (evNil))))) (evV (evC (.int 0))))) (evSeq (evSet 5 (evCall m__law_take (evCons (evName 0) (evCons (evC (.int 8)) (evNil))))) (evSet 3 (evCall m__law_with (evCons (evName 3) (evCons (evName 4) (evCons (evName 5) (evCons (ev2 dAdd (evSlot 5) (evV (evCall m__law_one_of (evCons (evName 0) (evCons (evLst (evCons (evC (.int 0)) (evCons (evC (.int 0)) (evCons (evC (.int 1)) (evNil))))) (evNil)))))) (evNil)))))))) (evPass))) (evRetOwn 3))
noncomputable def m__law_draw_near_fixed : Fm := fnM 6 3 ev__law_draw_near_fixed
abbrev s__law_taken : Stmt := topS 44
abbrev N__law_taken : List Str := ["plan", "word", "road"]
theorem sc__law_taken : FnScope N__law_taken ["plan", "word", "road"] (defScope s__law_taken) := ⟨rfl, rfl, rfl, by decide +kernel, rfl, by decide +kernel, by decide +kernel⟩
noncomputable def ev__law_taken : Ev Out := evSeq (evIf (evB (ev2 dEq (evSlot 1) (evV (evC (.str "build"))))) (evRet (evTup (evCons (evN dTuple (evConsB (evV (evN dSortedA (evConsB (evV (ev2 dAdd (evV (ev2 dIx (evSlot 0) (evV (evC (.int 0))))) (evV (evTup (evCons (evName 2) (evNil)))))) (evNilB)))) (evNilB))) (evCons (ev2 dIx (evSlot 0) (evV (evC (.int 1)))) (evNil))))) (evPass)) (evRet (evTup (evCons (ev2 dIx (evSlot 0) (evV (evC (.int 0)))) (evCons (evN dTuple (evConsB (evV (evN dSortedA (evConsB (evV (ev2 dAdd (evV (ev2 dIx (evSlot 0) (evV (evC (.int 1))))) (evV (evTup (evCons (evName 2) (evNil)))))) (evNilB)))) (evNilB))) (evNil)))))
noncomputable def m__law_taken : Fm := fnM 3 3 ev__law_taken
abbrev s_law : Stmt := topS 45
abbrev N_law : List Str := ["script", "pen", "turn", "web", "plan", "seen", "due", "word", "road", "later", "is_option", "told", "again", "some"]
theorem sc_law : FnScope N_law ["script"] (defScope s_law) := ⟨rfl, rfl, rfl, by decide +kernel, rfl, by decide +kernel, by decide +kernel⟩
noncomputable def ev_law : Ev Out := evSeq (evSetC 1 (evCall m__law_open (evCons (evName 0) (evNil)))) (evSeq (evForS (evRng1 (evCons (evC (.int 3)) (evNil))) (tgName 2) (evSeq (evSet 3 (evIte (evB (ev2 dGt (evSlot 2) (evV (evC (.int 0))))) (evCall m__law_draw_near_fixed (evCons (evName 1) (evCons (evC (.int 6)) (evCons (ev2 dIx (evV (evLst (evCons (evC (.int 8)) (evCons (evC (.int 8)) (evCons (evC (.int 10)) (evNil)))))) (evSlot 2)) (evNil))))) (evCall m__law_draw_web (evCons (evName 1) (evCons (evC (.int 6)) (evCons (evC (.int 10)) (evNil))))))) (evSeq (evSet 4 (evCall m__law_draw_plan (evCons (evName 1) (evCons (evName 3) (evCons (ev2 dMul (evV (evC (.int 2))) (evSlot 2)) (evNil)))))) (evSeq (evPar 5 6 (evN dRepr (evConsB (evV (evTup (evCons (evName 3) (evCons (evName 4) (evNil))))) (evNilB))) (evLst (evNil))) (evSeq (evForS (evItS (evLst (evCons (evC (.str "build")) (evCons (evC (.str "drop")) (evNil))))) (tgName 7) (evForS (evRng1 (evCons (evN dLen (evConsB (evV (ev2 dIx (evSlot 3) (evV (evC (.int 1))))) (evNilB))) (evNil))) (tgName 8) (evIf (evB (ev2 dNotIn (evSlot 8) (evV (ev2 dAdd (evV (ev2 dIx (evSlot 4) (evV (evC (.int 0))))) (evV (ev2 dIx (evSlot 4) (evV (evC (.int 1))))))))) (evSeq (evSet 9 (evCall m__law_taken (evCons (evName 4) (evCons (evName 7) (evCons (evName 8) (evNil)))))) (evSeq (evSet 10 (evCall m__law_holds (evCons (evName 3) (evCons (evName 9) (evNil))))) (evSeq (evSet 6 (ev2 dAdd (evSlot 6) (evV (ev2 dMul (evV (evLst (evCons (evTup (evCons (evName 7) (evCons (evName 8) (evNil)))) (evNil)))) (evV (evN dInt (evConsB (evSlot 10) (evNilB)))))))) (evSeq (evSet 11 (evCall m_find_against (evCons (evName 3) (evCons (evName 4) (evCons (evTup (evCons (evName 7) (evCons (evName 8) (evNil)))) (evNil)))))) (evSeq (evIf (evOr (evNot (evTru (evV (evQuiet (evCall (m__law_same 5) (evCons (evCall m_taken (evCons (evName 4) (evCons (evTup (evCons (evName 7) (evCons (evName 8) (evNil)))) (evNil)))) (evCons (evName 9) (evNil)))))))) (evB (ev2 dNe (evV (ev2 dIs (evSlot 11) (evV (evC .non)))) (evSlot 10)))) (evRet (evC (.bl false))) (evPass)) (evSeq (evIf (evB (ev2 dNe (evV (evCall m_find_against (evCons (evName 3) (evCons (evName 4) (evCons (evTup (evCons (evName 7) (evCons (evName 8) (evNil)))) (evNil)))))) (evSlot 11))) (evRet (evC (.bl false))) (evPass)) (evIf (evAnd (evB (ev2 dIsNot (evSlot 11) (evV (evC .non)))) (evOr (evNot (evTru (evV (evCall m__law_fits (evCons (evName 3) (evCons (evName 11) (evNil))))))) (evTru (evV (evCall m__law_serves (evCons (evName 3) (evCons (evName 9) (evCons (evName 11) (evNil))))))))) (evRet (evC (.bl false))) (evPass)))))))) (evPass)))) (evForS (evRng1 (evCons (evC (.int 2)) (evNil))) (tgName 12) (evSeq (evSet 13 (evCall m_options (evCons (evName 3) (evCons (evName 4) (evNil))))) (evSeq (evIf (evOr (evNot (evTru (evV (evQuiet (evCall (m__law_same 5) (evCons (evName 13) (evCons (evName 6) (evNil)))))))) (evB (ev2 dNe (evV (evN dRepr (evConsB (evV (evTup (evCons (evName 3) (evCons (evName 4) (evNil))))) (evNilB)))) (evSlot 5)))) (evRet (evC (.bl false))) (evPass)) (evDrop (evMut "list" 13 mAppend (evCons (evC .non) (evNil)))))))))))) (evRet (evC (.bl true))))
noncomputable def m_law : Fm := fnM 14 1 ev_law
structure Tx (K : PySem.W.Frag) (mg : Str → Option Value) where
  f_reached : Addr
  fd_reached : FuncData
  F_reached : Fun K "reached" "reached" s_reached f_reached fd_reached
  b_reached : Binds K fd_reached ["pairs", "house"] []
  g_reached : mg "reached" = some (.ref f_reached)
  f_low_of : Addr
  fd_low_of : FuncData
  F_low_of : Fun K "low_of" "low_of" s_low_of f_low_of fd_low_of
  b_low_of : Binds K fd_low_of ["web", "road"] []
  g_low_of : mg "low_of" = some (.ref f_low_of)
  f_high_of : Addr
  fd_high_of : FuncData
  F_high_of : Fun K "high_of" "high_of" s_high_of f_high_of fd_high_of
  b_high_of : Binds K fd_high_of ["web", "road"] []
  g_high_of : mg "high_of" = some (.ref f_high_of)
  f_raised : Addr
  fd_raised : FuncData
  F_raised : Fun K "raised" "raised" s_raised f_raised fd_raised
  b_raised : Binds K fd_raised ["web", "some"] []
  g_raised : mg "raised" = some (.ref f_raised)
  f_other_roads : Addr
  fd_other_roads : FuncData
  F_other_roads : Fun K "other_roads" "other_roads" s_other_roads f_other_roads fd_other_roads
  b_other_roads : Binds K fd_other_roads ["web", "some"] []
  g_other_roads : mg "other_roads" = some (.ref f_other_roads)
  f_ends_of : Addr
  fd_ends_of : FuncData
  F_ends_of : Fun K "ends_of" "ends_of" s_ends_of f_ends_of fd_ends_of
  b_ends_of : Binds K fd_ends_of ["web", "road"] []
  g_ends_of : mg "ends_of" = some (.ref f_ends_of)
  f_beyond : Addr
  fd_beyond : FuncData
  F_beyond : Fun K "beyond" "beyond" s_beyond f_beyond fd_beyond
  b_beyond : Binds K fd_beyond ["web", "road", "house"] []
  g_beyond : mg "beyond" = some (.ref f_beyond)
  f_ways_on : Addr
  fd_ways_on : FuncData
  F_ways_on : Fun K "ways_on" "ways_on" s_ways_on f_ways_on fd_ways_on
  b_ways_on : Binds K fd_ways_on ["web", "some", "here", "goal", "seen"] []
  g_ways_on : mg "ways_on" = some (.ref f_ways_on)
  f_detours_by : Addr
  fd_detours_by : FuncData
  F_detours_by : Fun K "detours_by" "detours_by" s_detours_by f_detours_by fd_detours_by
  b_detours_by : Binds K fd_detours_by ["web", "road", "some"] []
  g_detours_by : mg "detours_by" = some (.ref f_detours_by)
  f_first_detour : Addr
  fd_first_detour : FuncData
  F_first_detour : Fun K "first_detour" "first_detour" s_first_detour f_first_detour fd_first_detour
  b_first_detour : Binds K fd_first_detour ["web", "road", "some"] []
  g_first_detour : mg "first_detour" = some (.ref f_first_detour)
  f_first_side : Addr
  fd_first_side : FuncData
  F_first_side : Fun K "first_side" "first_side" s_first_side f_first_side fd_first_side
  b_first_side : Binds K fd_first_side ["web", "road", "some"] []
  g_first_side : mg "first_side" = some (.ref f_first_side)
  f_decided : Addr
  fd_decided : FuncData
  F_decided : Fun K "decided" "decided" s_decided f_decided fd_decided
  b_decided : Binds K fd_decided ["plan"] []
  g_decided : mg "decided" = some (.ref f_decided)
  f_find_side : Addr
  fd_find_side : FuncData
  F_find_side : Fun K "find_side" "find_side" s_find_side f_find_side fd_find_side
  b_find_side : Binds K fd_find_side ["web", "plan", "road"] []
  g_find_side : mg "find_side" = some (.ref f_find_side)
  f_find_detour : Addr
  fd_find_detour : FuncData
  F_find_detour : Fun K "find_detour" "find_detour" s_find_detour f_find_detour fd_find_detour
  b_find_detour : Binds K fd_find_detour ["web", "plan", "road"] []
  g_find_detour : mg "find_detour" = some (.ref f_find_detour)
  f_find_reason : Addr
  fd_find_reason : FuncData
  F_find_reason : Fun K "find_reason" "find_reason" s_find_reason f_find_reason fd_find_reason
  b_find_reason : Binds K fd_find_reason ["web", "plan", "road"] []
  g_find_reason : mg "find_reason" = some (.ref f_find_reason)
  f_find_breach : Addr
  fd_find_breach : FuncData
  F_find_breach : Fun K "find_breach" "find_breach" s_find_breach f_find_breach fd_find_breach
  b_find_breach : Binds K fd_find_breach ["web", "plan"] []
  g_find_breach : mg "find_breach" = some (.ref f_find_breach)
  f_taken : Addr
  fd_taken : FuncData
  F_taken : Fun K "taken" "taken" s_taken f_taken fd_taken
  b_taken : Binds K fd_taken ["plan", "step"] []
  g_taken : mg "taken" = some (.ref f_taken)
  f_holds : Addr
  fd_holds : FuncData
  F_holds : Fun K "holds" "holds" s_holds f_holds fd_holds
  b_holds : Binds K fd_holds ["web", "plan"] []
  g_holds : mg "holds" = some (.ref f_holds)
  f_options : Addr
  fd_options : FuncData
  F_options : Fun K "options" "options" s_options f_options fd_options
  b_options : Binds K fd_options ["web", "plan"] []
  g_options : mg "options" = some (.ref f_options)
  f_find_against : Addr
  fd_find_against : FuncData
  F_find_against : Fun K "find_against" "find_against" s_find_against f_find_against fd_find_against
  b_find_against : Binds K fd_find_against ["web", "plan", "step"] []
  g_find_against : mg "find_against" = some (.ref f_find_against)
  f__law_open : Addr
  fd__law_open : FuncData
  F__law_open : Fun K "_law_open" "_law_open" s__law_open f__law_open fd__law_open
  b__law_open : Binds K fd__law_open ["script"] []
  g__law_open : mg "_law_open" = some (.ref f__law_open)
  f__law_spread : Addr
  fd__law_spread : FuncData
  F__law_spread : Fun K "_law_spread" "_law_spread" s__law_spread f__law_spread fd__law_spread
  b__law_spread : Binds K fd__law_spread ["cell", "at"] []
  g__law_spread : mg "_law_spread" = some (.ref f__law_spread)
  f__law_take : Addr
  fd__law_take : FuncData
  F__law_take : Fun K "_law_take" "_law_take" s__law_take f__law_take fd__law_take
  b__law_take : Binds K fd__law_take ["pen", "amount"] []
  g__law_take : mg "_law_take" = some (.ref f__law_take)
  f__law_same : Addr
  fd__law_same : FuncData
  F__law_same : Fun K "_law_same" "_law_same" s__law_same f__law_same fd__law_same
  b__law_same : Binds K fd__law_same ["found", "due"] []
  g__law_same : mg "_law_same" = some (.ref f__law_same)
  f__law_one_of : Addr
  fd__law_one_of : FuncData
  F__law_one_of : Fun K "_law_one_of" "_law_one_of" s__law_one_of f__law_one_of fd__law_one_of
  b__law_one_of : Binds K fd__law_one_of ["pen", "some"] []
  g__law_one_of : mg "_law_one_of" = some (.ref f__law_one_of)
  f__law_is_integer : Addr
  fd__law_is_integer : FuncData
  F__law_is_integer : Fun K "_law_is_integer" "_law_is_integer" s__law_is_integer f__law_is_integer fd__law_is_integer
  b__law_is_integer : Binds K fd__law_is_integer ["held"] []
  g__law_is_integer : mg "_law_is_integer" = some (.ref f__law_is_integer)
  f__law_draw_bounds : Addr
  fd__law_draw_bounds : FuncData
  F__law_draw_bounds : Fun K "_law_draw_bounds" "_law_draw_bounds" s__law_draw_bounds f__law_draw_bounds fd__law_draw_bounds
  b__law_draw_bounds : Binds K fd__law_draw_bounds ["pen"] []
  g__law_draw_bounds : mg "_law_draw_bounds" = some (.ref f__law_draw_bounds)
  f__law_draw_web : Addr
  fd__law_draw_web : FuncData
  F__law_draw_web : Fun K "_law_draw_web" "_law_draw_web" s__law_draw_web f__law_draw_web fd__law_draw_web
  b__law_draw_web : Binds K fd__law_draw_web ["pen", "houses", "most"] []
  g__law_draw_web : mg "_law_draw_web" = some (.ref f__law_draw_web)
  f__law_fits : Addr
  fd__law_fits : FuncData
  F__law_fits : Fun K "_law_fits" "_law_fits" s__law_fits f__law_fits fd__law_fits
  b__law_fits : Binds K fd__law_fits ["web", "given"] []
  g__law_fits : mg "_law_fits" = some (.ref f__law_fits)
  f__law_reach : Addr
  fd__law_reach : FuncData
  F__law_reach : Fun K "_law_reach" "_law_reach" s__law_reach f__law_reach fd__law_reach
  b__law_reach : Binds K fd__law_reach ["web", "roads", "house"] []
  g__law_reach : mg "_law_reach" = some (.ref f__law_reach)
  f__law_is_apart : Addr
  fd__law_is_apart : FuncData
  F__law_is_apart : Fun K "_law_is_apart" "_law_is_apart" s__law_is_apart f__law_is_apart fd__law_is_apart
  b__law_is_apart : Binds K fd__law_is_apart ["web", "roads", "road"] []
  g__law_is_apart : mg "_law_is_apart" = some (.ref f__law_is_apart)
  f__law_least_total : Addr
  fd__law_least_total : FuncData
  F__law_least_total : Fun K "_law_least_total" "_law_least_total" s__law_least_total f__law_least_total fd__law_least_total
  b__law_least_total : Binds K fd__law_least_total ["web", "lengths"] []
  g__law_least_total : mg "_law_least_total" = some (.ref f__law_least_total)
  f__law_with : Addr
  fd__law_with : FuncData
  F__law_with : Fun K "_law_with" "_law_with" s__law_with f__law_with fd__law_with
  b__law_with : Binds K fd__law_with ["web", "road", "low", "high"] []
  g__law_with : mg "_law_with" = some (.ref f__law_with)
  f__law_holds : Addr
  fd__law_holds : FuncData
  F__law_holds : Fun K "_law_holds" "_law_holds" s__law_holds f__law_holds fd__law_holds
  b__law_holds : Binds K fd__law_holds ["web", "plan"] []
  g__law_holds : mg "_law_holds" = some (.ref f__law_holds)
  f__law_serves : Addr
  fd__law_serves : FuncData
  F__law_serves : Fun K "_law_serves" "_law_serves" s__law_serves f__law_serves fd__law_serves
  b__law_serves : Binds K fd__law_serves ["web", "plan", "lengths"] []
  g__law_serves : mg "_law_serves" = some (.ref f__law_serves)
  f__law_draw_plan : Addr
  fd__law_draw_plan : FuncData
  F__law_draw_plan : Fun K "_law_draw_plan" "_law_draw_plan" s__law_draw_plan f__law_draw_plan fd__law_draw_plan
  b__law_draw_plan : Binds K fd__law_draw_plan ["pen", "web", "least"] []
  g__law_draw_plan : mg "_law_draw_plan" = some (.ref f__law_draw_plan)
  f__law_draw_near_fixed : Addr
  fd__law_draw_near_fixed : FuncData
  F__law_draw_near_fixed : Fun K "_law_draw_near_fixed" "_law_draw_near_fixed" s__law_draw_near_fixed f__law_draw_near_fixed fd__law_draw_near_fixed
  b__law_draw_near_fixed : Binds K fd__law_draw_near_fixed ["pen", "houses", "most"] []
  g__law_draw_near_fixed : mg "_law_draw_near_fixed" = some (.ref f__law_draw_near_fixed)
  f__law_taken : Addr
  fd__law_taken : FuncData
  F__law_taken : Fun K "_law_taken" "_law_taken" s__law_taken f__law_taken fd__law_taken
  b__law_taken : Binds K fd__law_taken ["plan", "word", "road"] []
  g__law_taken : mg "_law_taken" = some (.ref f__law_taken)
  f_law : Addr
  fd_law : FuncData
  F_law : Fun K "law" "law" s_law f_law fd_law
  b_law : Binds K fd_law ["script"] []
  g_law : mg "law" = some (.ref f_law)
  n_bool : mg "bool" = none
  n_enumerate : mg "enumerate" = none
  n_int : mg "int" = none
  n_isinstance : mg "isinstance" = none
  n_len : mg "len" = none
  n_list : mg "list" = none
  n_max : mg "max" = none
  n_min : mg "min" = none
  n_range : mg "range" = none
  n_repr : mg "repr" = none
  n_sorted : mg "sorted" = none
  n_str : mg "str" = none
  n_tuple : mg "tuple" = none
  n_zip : mg "zip" = none
  ct_BUILD : Tok
  c_BUILD : mg "BUILD" = some (.str "build" ct_BUILD)
  ct_DROP : Tok
  c_DROP : mg "DROP" = some (.str "drop" ct_DROP)
theorem ok_reached {P : Program} {w : World} {K : PySem.W.Frag} {mg : Str → Option Value} {base : Heap} (T : Tx K mg) : FnG P w K mg base CX0 1 T.f_reached T.fd_reached ["pairs", "house"] (spF K 2 m_reached) := fn_ok T.F_reached sc_reached fun cdv A outer s H E hr => by
    have hu := hr.hu
    have hgd := hr.gd
    have nd := sc_reached.nd
    exact (ss_cons (ss_par (i := 2) (j := 3) rfl nd (sr_lst (sa_cons (sr_name 1) sa_nil)) sr_bl)
    (ss_cons (ss_while PassesOwn.never (st_tru (sb_name 3)) (ss_cons (ss_set (i := 3) nd sr_bl)
    (ss_one (ss_for (vs := [4, 5]) PassesOwn.never rfl (si_seq (sr_name 0)) (sg_tup rfl (sgs_cons (sg_name 4 nd) (sgs_cons (sg_name 5 nd) sgs_nil))) (ss_one (ss_if (st_cmp (dop_ne hu) (sb_of (sr_cmp (dop_in hu) (sb_name 4) (sb_name 2) rfl)) (sb_of (sr_cmp (dop_in hu) (sb_name 5) (sb_name 2) rfl)) (nomark _)) (ss_cons (ss_expr (sr_mut (i := 2) PySem.F.plainAttrs_list PySem.F.slot_list_append PySem.F.type_list_append dm_append (sa_cons (sr_ite (st_cmp (dop_in hu) (sb_name 4) (sb_name 2) rfl) (sr_name 5) (sr_name 4)) sa_nil)))
    (ss_one (ss_set (i := 3) nd sr_bl))) ss_nil))))))
    (ss_one (ss_ret (sr_callB (dcall_sortedA hu) (by rfl) T.n_sorted bb_sorted (sbs_cons (sb_name 2) sbs_nil))))))
theorem ok_low_of {P : Program} {w : World} {K : PySem.W.Frag} {mg : Str → Option Value} {base : Heap} (T : Tx K mg) : FnG P w K mg base CX0 1 T.f_low_of T.fd_low_of ["web", "road"] (spF K 2 m_low_of) := fn_ok T.F_low_of sc_low_of fun cdv A outer s H E hr => by
    have hu := hr.hu
    have hgd := hr.gd
    have nd := sc_low_of.nd
    exact (ss_one (ss_ret (sr_ix (dix hu) (sb_of (sr_ix (dix hu) (sb_of (sr_ix (dix hu) (sb_name 0) (sb_of sr_int) fun _ _ => rfl)) (sb_name 1) fun _ _ => rfl)) (sb_of sr_int) fun _ _ => rfl)))
theorem ok_high_of {P : Program} {w : World} {K : PySem.W.Frag} {mg : Str → Option Value} {base : Heap} (T : Tx K mg) : FnG P w K mg base CX0 1 T.f_high_of T.fd_high_of ["web", "road"] (spF K 2 m_high_of) := fn_ok T.F_high_of sc_high_of fun cdv A outer s H E hr => by
    have hu := hr.hu
    have hgd := hr.gd
    have nd := sc_high_of.nd
    exact (ss_one (ss_ret (sr_ix (dix hu) (sb_of (sr_ix (dix hu) (sb_of (sr_ix (dix hu) (sb_name 0) (sb_of sr_int) fun _ _ => rfl)) (sb_name 1) fun _ _ => rfl)) (sb_of sr_int) fun _ _ => rfl)))
theorem ok_raised {P : Program} {w : World} {K : PySem.W.Frag} {mg : Str → Option Value} {base : Heap} (T : Tx K mg) : FnG P w K mg base CX0 1 T.f_raised T.fd_raised ["web", "some"] (spF K 2 m_raised) := fn_ok T.F_raised sc_raised fun cdv A outer s H E hr => by
    have hu := hr.hu
    have hgd := hr.gd
    have nd := sc_raised.nd
    exact (ss_cons (ss_set (i := 2) nd (sr_lst sa_nil))
    (ss_cons (ss_for (vs := [3, 4, 5, 6, 7]) PassesOwn.never rfl (si_enumS (by rfl) T.n_enumerate (sa_cons (sr_ix (dix hu) (sb_name 0) (sb_of sr_int) fun _ _ => rfl) sa_nil)) (sg_tup rfl (sgs_cons (sg_name 3 nd) (sgs_cons (sg_tup rfl (sgs_cons (sg_name 4 nd) (sgs_cons (sg_name 5 nd) (sgs_cons (sg_name 6 nd) (sgs_cons (sg_name 7 nd) sgs_nil))))) sgs_nil))) (ss_one (ss_expr (sr_mut (i := 2) PySem.F.plainAttrs_list PySem.F.slot_list_append PySem.F.type_list_append dm_append (sa_cons (sr_ite (st_cmp (dop_in hu) (sb_name 3) (sb_name 1) rfl) (sr_name 7) (sr_name 6)) sa_nil)))))
    (ss_one (ss_ret (sr_callTy dcall_tuple (by rfl) T.n_tuple bb_tuple (sbs_cons (sb_name 2) sbs_nil))))))
theorem ok_other_roads {P : Program} {w : World} {K : PySem.W.Frag} {mg : Str → Option Value} {base : Heap} (T : Tx K mg) : FnG P w K mg base CX0 1 T.f_other_roads T.fd_other_roads ["web", "some"] (spF K 2 m_other_roads) := fn_ok T.F_other_roads sc_other_roads fun cdv A outer s H E hr => by
    have hu := hr.hu
    have hgd := hr.gd
    have nd := sc_other_roads.nd
    exact (ss_one (ss_ret (sr_lc [1] [("road", 2)] rfl nd (si_range1 (by rfl) T.n_range (sa_cons (sr_callB dcall_len (by rfl) T.n_len bb_len (sbs_cons (sb_of (sr_ix (dix hu) (sb_name 0) (sb_of sr_int) fun _ _ => rfl)) sbs_nil)) sa_nil)) (blkOk_by (N := N_other_roads) (sc := defScope s_other_roads) (by decide +kernel)) (fun _ _ _ _ _ => (sg_name 2 nd)) (fun _ _ _ _ _ => (sts_one (st_cmp (dop_notin hu) (sb_name 2) (sb_name 1) rfl))) (fun _ _ _ _ _ => (sr_name 2)))))
theorem ok_ends_of {P : Program} {w : World} {K : PySem.W.Frag} {mg : Str → Option Value} {base : Heap} (T : Tx K mg) : FnG P w K mg base CX0 1 T.f_ends_of T.fd_ends_of ["web", "road"] (spF K 2 m_ends_of) := fn_ok T.F_ends_of sc_ends_of fun cdv A outer s H E hr => by
    have hu := hr.hu
    have hgd := hr.gd
    have nd := sc_ends_of.nd
    exact (ss_one (ss_ret (sr_slice (sb_of (sr_ix (dix hu) (sb_of (sr_ix (dix hu) (sb_name 0) (sb_of sr_int) fun _ _ => rfl)) (sb_name 1) fun _ _ => rfl)) sp_none (sp_some (sb_of sr_int)))))
theorem ok_beyond {P : Program} {w : World} {K : PySem.W.Frag} {mg : Str → Option Value} {base : Heap} (T : Tx K mg) : FnG P w K mg base CX0 2 T.f_beyond T.fd_beyond ["web", "road", "house"] (spF K 3 m_beyond) := fn_ok T.F_beyond sc_beyond fun cdv A outer s H E hr => by
    have hu := hr.hu
    have hgd := hr.gd
    have nd := sc_beyond.nd
    exact (ss_cons (ss_asg (vs := [3, 4]) (sr_call (ok_ends_of T) (hr.mono (by omega)) (by rfl) T.g_ends_of T.F_ends_of.kp T.b_ends_of (fun ds st r h => fnM_len h) (sa_cons (sr_name 0) (sa_cons (sr_name 1) sa_nil))) (sg_tup rfl (sgs_cons (sg_name 3 nd) (sgs_cons (sg_name 4 nd) sgs_nil))))
    (ss_cons (ss_if (st_cmp (dop_eq hu) (sb_name 2) (sb_name 3) (nomark _)) (ss_one (ss_retOwn 4)) ss_nil)
    (ss_one (ss_ret (sr_ite (st_cmp (dop_eq hu) (sb_name 2) (sb_name 4) (nomark _)) (sr_name 3) sr_non)))))
theorem ok_ways_on {P : Program} {w : World} {K : PySem.W.Frag} {mg : Str → Option Value} {base : Heap} (T : Tx K mg) : ∀ k : Nat, FnG P w K mg base CX0 (k + 3) T.f_ways_on T.fd_ways_on ["web", "some", "here", "goal", "seen"] (spF K 5 (m_ways_on k))
  | 0 => fn_void
  | k + 1 => fn_ok T.F_ways_on sc_ways_on fun cdv A outer s H E hr => by
    have hu := hr.hu
    have hgd := hr.gd
    have nd := sc_ways_on.nd
    have hrec := ok_ways_on (P := P) (w := w) (base := base) T k
    have hlen := len_ways_on k
    exact (ss_cons (ss_if (st_cmp (dop_eq hu) (sb_name 2) (sb_name 3) (nomark _)) (ss_one (ss_ret (sr_lst (sa_cons (sr_tup sa_nil) sa_nil)))) ss_nil)
    (ss_cons (ss_set (i := 5) nd (sr_lst sa_nil))
    (ss_cons (ss_for (vs := [6]) PassesOwn.never rfl (si_seq (sr_name 1)) (sg_name 6 nd) (ss_cons (ss_set (i := 7) nd (sr_call (ok_beyond T) (hr.mono (by omega)) (by rfl) T.g_beyond T.F_beyond.kp T.b_beyond (fun ds st r h => fnM_len h) (sa_cons (sr_name 0) (sa_cons (sr_name 6) (sa_cons (sr_name 2) sa_nil)))))
    (ss_one (ss_if (sw_st (sw_and (st_cmp dop_isnot (sb_name 7) (sb_of sr_non) (nomark _)) (sw_and1 (st_cmp (dop_notin hu) (sb_name 7) (sb_name 4) rfl)))) (ss_one (ss_expr (sr_mut (i := 5) PySem.F.plainAttrs_list PySem.F.slot_list_extend PySem.F.type_list_extend dm_extend (sa_cons (sr_lc [6] [("way", 8)] rfl nd (si_seq (sr_call hrec (hr.mono (by omega)) (by rfl) T.g_ways_on T.F_ways_on.kp T.b_ways_on (fun ds st r h => hlen ds st r h) (sa_cons (sr_name 0) (sa_cons (sr_name 1) (sa_cons (sr_name 7) (sa_cons (sr_name 3) (sa_cons (sr_bin dop_add (sb_name 4) (sb_of (sr_lst (sa_cons (sr_name 7) sa_nil)))) sa_nil))))))) (blkOk_by (N := N_ways_on) (sc := defScope s_ways_on) (by decide +kernel)) (fun _ _ _ _ _ => (sg_name 8 nd)) (fun _ _ _ _ _ => sts_nil) (fun _ _ _ _ _ => (sr_bin dop_add (sb_of (sr_tup (sa_cons (sr_name 6) sa_nil))) (sb_name 8)))) sa_nil)))) ss_nil))))
    (ss_one (ss_retOwn 5)))))
theorem ok_detours_by {P : Program} {w : World} {K : PySem.W.Frag} {mg : Str → Option Value} {base : Heap} (T : Tx K mg) : FnG P w K mg base CX0 11 T.f_detours_by T.fd_detours_by ["web", "road", "some"] (spF K 3 m_detours_by) := fn_ok T.F_detours_by sc_detours_by fun cdv A outer s H E hr => by
    have hu := hr.hu
    have hgd := hr.gd
    have nd := sc_detours_by.nd
    exact (ss_cons (ss_asg (vs := [3, 4]) (sr_call (ok_ends_of T) (hr.mono (by omega)) (by rfl) T.g_ends_of T.F_ends_of.kp T.b_ends_of (fun ds st r h => fnM_len h) (sa_cons (sr_name 0) (sa_cons (sr_name 1) sa_nil))) (sg_tup rfl (sgs_cons (sg_name 3 nd) (sgs_cons (sg_name 4 nd) sgs_nil))))
    (ss_one (ss_ret (sr_callB (dcall_sortedA hu) (by rfl) T.n_sorted bb_sorted (sbs_cons (sb_of (sr_call (ok_ways_on T 7) (hr.mono (by omega)) (by rfl) T.g_ways_on T.F_ways_on.kp T.b_ways_on (fun ds st r h => len_ways_on 7 ds st r h) (sa_cons (sr_name 0) (sa_cons (sr_lc [1] [("one", 5)] rfl nd (si_seq (sr_name 2)) (blkOk_by (N := N_detours_by) (sc := defScope s_detours_by) (by decide +kernel)) (fun _ _ _ _ _ => (sg_name 5 nd)) (fun _ _ _ _ _ => (sts_one (st_cmp (dop_ne hu) (sb_name 5) (sb_name 1) (nomark _)))) (fun _ _ _ _ _ => (sr_name 5))) (sa_cons (sr_name 3) (sa_cons (sr_name 4) (sa_cons (sr_lst (sa_cons (sr_name 3) sa_nil)) sa_nil))))))) sbs_nil)))))
theorem ok_first_detour {P : Program} {w : World} {K : PySem.W.Frag} {mg : Str → Option Value} {base : Heap} (T : Tx K mg) : FnG P w K mg base CX0 12 T.f_first_detour T.fd_first_detour ["web", "road", "some"] (spF K 3 m_first_detour) := fn_ok T.F_first_detour sc_first_detour fun cdv A outer s H E hr => by
    have hu := hr.hu
    have hgd := hr.gd
    have nd := sc_first_detour.nd
    exact (ss_cons (ss_set (i := 3) nd (sr_call (ok_detours_by T) (hr.mono (by omega)) (by rfl) T.g_detours_by T.F_detours_by.kp T.b_detours_by (fun ds st r h => fnM_len h) (sa_cons (sr_name 0) (sa_cons (sr_name 1) (sa_cons (sr_name 2) sa_nil)))))
    (ss_one (ss_ret (sr_ite (st_cmp (dop_ne hu) (sb_name 3) (sb_of (sr_lst sa_nil)) (nomark _)) (sr_ix (dix hu) (sb_name 3) (sb_of sr_int) fun _ _ => rfl) sr_non))))
theorem ok_first_side {P : Program} {w : World} {K : PySem.W.Frag} {mg : Str → Option Value} {base : Heap} (T : Tx K mg) : FnG P w K mg base CX0 2 T.f_first_side T.fd_first_side ["web", "road", "some"] (spF K 3 m_first_side) := fn_ok T.F_first_side sc_first_side fun cdv A outer s H E hr => by
    have hu := hr.hu
    have hgd := hr.gd
    have nd := sc_first_side.nd
    exact (ss_cons (ss_asg (vs := [3, 4]) (sr_call (ok_ends_of T) (hr.mono (by omega)) (by rfl) T.g_ends_of T.F_ends_of.kp T.b_ends_of (fun ds st r h => fnM_len h) (sa_cons (sr_name 0) (sa_cons (sr_name 1) sa_nil))) (sg_tup rfl (sgs_cons (sg_name 3 nd) (sgs_cons (sg_name 4 nd) sgs_nil))))
    (ss_cons (ss_set (i := 5) nd (sr_call (ok_reached T) (hr.mono (by omega)) (by rfl) T.g_reached T.F_reached.kp T.b_reached (fun ds st r h => fnM_len h) (sa_cons (sr_lc [0, 1] [("one", 6)] rfl nd (si_seq (sr_name 2)) (blkOk_by (N := N_first_side) (sc := defScope s_first_side) (by decide +kernel)) (fun _ _ _ _ _ => (sg_name 6 nd)) (fun _ _ _ _ _ => (sts_one (st_cmp (dop_ne hu) (sb_name 6) (sb_name 1) (nomark _)))) (fun _ _ _ _ _ => (sr_call (ok_ends_of T) (hr.mono (by omega)) (by rfl) T.g_ends_of T.F_ends_of.kp T.b_ends_of (fun ds st r h => fnM_len h) (sa_cons (sr_name 0) (sa_cons (sr_name 6) sa_nil))))) (sa_cons (sr_name 3) sa_nil))))
    (ss_one (ss_ret (sr_ite (st_cmp (dop_in hu) (sb_name 4) (sb_name 5) rfl) sr_non (sr_callTy dcall_tuple (by rfl) T.n_tuple bb_tuple (sbs_cons (sb_name 5) sbs_nil)))))))
theorem ok_decided {P : Program} {w : World} {K : PySem.W.Frag} {mg : Str → Option Value} {base : Heap} (T : Tx K mg) : FnG P w K mg base CX0 1 T.f_decided T.fd_decided ["plan"] (spF K 1 m_decided) := fn_ok T.F_decided sc_decided fun cdv A outer s H E hr => by
    have hu := hr.hu
    have hgd := hr.gd
    have nd := sc_decided.nd
    exact (ss_one (ss_ret (sr_callB (dcall_sortedA hu) (by rfl) T.n_sorted bb_sorted (sbs_cons (sb_of (sr_bin dop_add (sb_of (sr_ix (dix hu) (sb_name 0) (sb_of sr_int) fun _ _ => rfl)) (sb_of (sr_ix (dix hu) (sb_name 0) (sb_of sr_int) fun _ _ => rfl)))) sbs_nil))))
theorem ok_find_side {P : Program} {w : World} {K : PySem.W.Frag} {mg : Str → Option Value} {base : Heap} (T : Tx K mg) : FnG P w K mg base CX0 3 T.f_find_side T.fd_find_side ["web", "plan", "road"] (spF K 3 m_find_side) := fn_ok T.F_find_side sc_find_side fun cdv A outer s H E hr => by
    have hu := hr.hu
    have hgd := hr.gd
    have nd := sc_find_side.nd
    exact (ss_cons (ss_asg (vs := [3, 4]) (sr_name 1) (sg_tup rfl (sgs_cons (sg_name 3 nd) (sgs_cons (sg_name 4 nd) sgs_nil))))
    (ss_cons (ss_setLc (i := 5) [3, 0, 2] [("one", 6)] rfl nd (sw_true rfl rfl rfl (by decide +kernel)) (si_seq (sr_call (ok_other_roads T) (hr.mono (by omega)) (by rfl) T.g_other_roads T.F_other_roads.kp T.b_other_roads (fun ds st r h => fnM_len h) (sa_cons (sr_name 0) (sa_cons (sr_name 4) sa_nil)))) (blkOk_by (N := N_find_side) (sc := defScope s_find_side) (by decide +kernel)) (fun _ _ _ _ _ => (sg_name 6 nd)) (fun _ _ _ _ _ => (sts_one (sw_st (sw_or (st_cmp (dop_in hu) (sb_name 6) (sb_name 3) rfl) (sw_or1 (st_cmp (dop_lt hu) (sb_of (sr_call (ok_low_of T) (hr.mono (by omega)) (by rfl) T.g_low_of T.F_low_of.kp T.b_low_of (fun ds st r h => fnM_len h) (sa_cons (sr_name 0) (sa_cons (sr_name 6) sa_nil)))) (sb_of (sr_call (ok_high_of T) (hr.mono (by omega)) (by rfl) T.g_high_of T.F_high_of.kp T.b_high_of (fun ds st r h => fnM_len h) (sa_cons (sr_name 0) (sa_cons (sr_name 2) sa_nil)))) (nomark _))))))) (fun _ _ _ _ _ => (sr_name 6)))
    (ss_one (ss_ret (sr_call (ok_first_side T) (hr.mono (by omega)) (by rfl) T.g_first_side T.F_first_side.kp T.b_first_side (fun ds st r h => fnM_len h) (sa_cons (sr_name 0) (sa_cons (sr_name 2) (sa_cons (sr_name 5) sa_nil))))))))
theorem ok_find_detour {P : Program} {w : World} {K : PySem.W.Frag} {mg : Str → Option Value} {base : Heap} (T : Tx K mg) : FnG P w K mg base CX0 13 T.f_find_detour T.fd_find_detour ["web", "plan", "road"] (spF K 3 m_find_detour) := fn_ok T.F_find_detour sc_find_detour fun cdv A outer s H E hr => by
    have hu := hr.hu
    have hgd := hr.gd
    have nd := sc_find_detour.nd
    exact (ss_one (ss_ret (sr_call (ok_first_detour T) (hr.mono (by omega)) (by rfl) T.g_first_detour T.F_first_detour.kp T.b_first_detour (fun ds st r h => fnM_len h) (sa_cons (sr_name 0) (sa_cons (sr_name 2) (sa_cons (sr_lc [0, 2] [("one", 3)] rfl nd (si_seq (sr_call (ok_other_roads T) (hr.mono (by omega)) (by rfl) T.g_other_roads T.F_other_roads.kp T.b_other_roads (fun ds st r h => fnM_len h) (sa_cons (sr_name 0) (sa_cons (sr_ix (dix hu) (sb_name 1) (sb_of sr_int) fun _ _ => rfl) sa_nil)))) (blkOk_by (N := N_find_detour) (sc := defScope s_find_detour) (by decide +kernel)) (fun _ _ _ _ _ => (sg_name 3 nd)) (fun _ _ _ _ _ => (sts_one (st_cmp dop_le (sb_of (sr_call (ok_high_of T) (hr.mono (by omega)) (by rfl) T.g_high_of T.F_high_of.kp T.b_high_of (fun ds st r h => fnM_len h) (sa_cons (sr_name 0) (sa_cons (sr_name 3) sa_nil)))) (sb_of (sr_call (ok_low_of T) (hr.mono (by omega)) (by rfl) T.g_low_of T.F_low_of.kp T.b_low_of (fun ds st r h => fnM_len h) (sa_cons (sr_name 0) (sa_cons (sr_name 2) sa_nil)))) (nomark _)))) (fun _ _ _ _ _ => (sr_name 3))) sa_nil))))))
theorem ok_find_reason {P : Program} {w : World} {K : PySem.W.Frag} {mg : Str → Option Value} {base : Heap} (T : Tx K mg) : FnG P w K mg base CX0 14 T.f_find_reason T.fd_find_reason ["web", "plan", "road"] (spF K 3 m_find_reason) := fn_ok T.F_find_reason sc_find_reason fun cdv A outer s H E hr => by
    have hu := hr.hu
    have hgd := hr.gd
    have nd := sc_find_reason.nd
    exact (ss_one (ss_ret (sr_ite (st_cmp (dop_in hu) (sb_name 2) (sb_of (sr_ix (dix hu) (sb_name 1) (sb_of sr_int) fun _ _ => rfl)) rfl) (sr_call (ok_find_side T) (hr.mono (by omega)) (by rfl) T.g_find_side T.F_find_side.kp T.b_find_side (fun ds st r h => fnM_len h) (sa_cons (sr_name 0) (sa_cons (sr_name 1) (sa_cons (sr_name 2) sa_nil)))) (sr_call (ok_find_detour T) (hr.mono (by omega)) (by rfl) T.g_find_detour T.F_find_detour.kp T.b_find_detour (fun ds st r h => fnM_len h) (sa_cons (sr_name 0) (sa_cons (sr_name 1) (sa_cons (sr_name 2) sa_nil)))))))
theorem ok_find_breach {P : Program} {w : World} {K : PySem.W.Frag} {mg : Str → Option Value} {base : Heap} (T : Tx K mg) : FnG P w K mg base CX0 15 T.f_find_breach T.fd_find_breach ["web", "plan"] (spF K 2 m_find_breach) := fn_ok T.F_find_breach sc_find_breach fun cdv A outer s H E hr => by
    have hu := hr.hu
    have hgd := hr.gd
    have nd := sc_find_breach.nd
    exact (ss_cons (ss_for (vs := [2]) PassesOwn.never rfl (si_seq (sr_call (ok_decided T) (hr.mono (by omega)) (by rfl) T.g_decided T.F_decided.kp T.b_decided (fun ds st r h => fnM_len h) (sa_cons (sr_name 1) sa_nil))) (sg_name 2 nd) (ss_one (ss_if (st_cmp dop_is (sb_of (sr_call (ok_find_reason T) (hr.mono (by omega)) (by rfl) T.g_find_reason T.F_find_reason.kp T.b_find_reason (fun ds st r h => fnM_len h) (sa_cons (sr_name 0) (sa_cons (sr_name 1) (sa_cons (sr_name 2) sa_nil))))) (sb_of sr_non) (nomark _)) (ss_one (ss_ret (sr_call (ok_raised T) (hr.mono (by omega)) (by rfl) T.g_raised T.F_raised.kp T.b_raised (fun ds st r h => fnM_len h) (sa_cons (sr_name 0) (sa_cons (sr_ite (st_cmp (dop_in hu) (sb_name 2) (sb_of (sr_ix (dix hu) (sb_name 1) (sb_of sr_int) fun _ _ => rfl)) rfl) (sr_lst (sa_cons (sr_name 2) sa_nil)) (sr_call (ok_other_roads T) (hr.mono (by omega)) (by rfl) T.g_other_roads T.F_other_roads.kp T.b_other_roads (fun ds st r h => fnM_len h) (sa_cons (sr_name 0) (sa_cons (sr_lst (sa_cons (sr_name 2) sa_nil)) sa_nil)))) sa_nil))))) ss_nil)))
    (ss_one (ss_ret sr_non)))
theorem ok_taken {P : Program} {w : World} {K : PySem.W.Frag} {mg : Str → Option Value} {base : Heap} (T : Tx K mg) : FnG P w K mg base CX0 1 T.f_taken T.fd_taken ["plan", "step"] (spF K 2 m_taken) := fn_ok T.F_taken sc_taken fun cdv A outer s H E hr => by
    have hu := hr.hu
    have hgd := hr.gd
    have nd := sc_taken.nd
    exact (ss_cons (ss_asg (vs := [2, 3]) (sr_name 0) (sg_tup rfl (sgs_cons (sg_name 2 nd) (sgs_cons (sg_name 3 nd) sgs_nil))))
    (ss_cons (ss_asg (vs := [4, 5]) (sr_name 1) (sg_tup rfl (sgs_cons (sg_name 4 nd) (sgs_cons (sg_name 5 nd) sgs_nil))))
    (ss_cons (ss_if (st_cmp (dop_eq hu) (sb_name 4) (sb_of (sr_gstr rfl T.c_BUILD)) (nomark _)) (ss_one (ss_ret (sr_tup (sa_cons (sr_callTy dcall_tuple (by rfl) T.n_tuple bb_tuple (sbs_cons (sb_of (sr_callB (dcall_sortedA hu) (by rfl) T.n_sorted bb_sorted (sbs_cons (sb_of (sr_bin dop_add (sb_name 2) (sb_of (sr_tup (sa_cons (sr_name 5) sa_nil))))) sbs_nil))) sbs_nil)) (sa_cons (sr_name 3) sa_nil))))) ss_nil)
    (ss_one (ss_ret (sr_tup (sa_cons (sr_name 2) (sa_cons (sr_callTy dcall_tuple (by rfl) T.n_tuple bb_tuple (sbs_cons (sb_of (sr_callB (dcall_sortedA hu) (by rfl) T.n_sorted bb_sorted (sbs_cons (sb_of (sr_bin dop_add (sb_name 3) (sb_of (sr_tup (sa_cons (sr_name 5) sa_nil))))) sbs_nil))) sbs_nil)) sa_nil))))))))
theorem ok_holds {P : Program} {w : World} {K : PySem.W.Frag} {mg : Str → Option Value} {base : Heap} (T : Tx K mg) : FnG P w K mg base CX0 16 T.f_holds T.fd_holds ["web", "plan"] (spF K 2 m_holds) := fn_ok T.F_holds sc_holds fun cdv A outer s H E hr => by
    have hu := hr.hu
    have hgd := hr.gd
    have nd := sc_holds.nd
    exact (ss_one (ss_ret (sr_cmp dop_is (sb_of (sr_call (ok_find_breach T) (hr.mono (by omega)) (by rfl) T.g_find_breach T.F_find_breach.kp T.b_find_breach (fun ds st r h => fnM_len h) (sa_cons (sr_name 0) (sa_cons (sr_name 1) sa_nil)))) (sb_of sr_non) (nomark _))))
theorem ok_options {P : Program} {w : World} {K : PySem.W.Frag} {mg : Str → Option Value} {base : Heap} (T : Tx K mg) : FnG P w K mg base CX0 17 T.f_options T.fd_options ["web", "plan"] (spF K 2 m_options) := fn_ok T.F_options sc_options fun cdv A outer s H E hr => by
    have hu := hr.hu
    have hgd := hr.gd
    have nd := sc_options.nd
    exact (ss_cons (ss_set (i := 2) nd (sr_call (ok_other_roads T) (hr.mono (by omega)) (by rfl) T.g_other_roads T.F_other_roads.kp T.b_other_roads (fun ds st r h => fnM_len h) (sa_cons (sr_name 0) (sa_cons (sr_call (ok_decided T) (hr.mono (by omega)) (by rfl) T.g_decided T.F_decided.kp T.b_decided (fun ds st r h => fnM_len h) (sa_cons (sr_name 1) sa_nil)) sa_nil))))
    (ss_cons (ss_set (i := 3) nd (sr_bin dop_add (sb_of (sr_lc [] [("road", 4)] rfl nd (si_seq (sr_name 2)) (blkOk_by (N := N_options) (sc := defScope s_options) (by decide +kernel)) (fun _ _ _ _ _ => (sg_name 4 nd)) (fun _ _ _ _ _ => sts_nil) (fun _ _ _ _ _ => (sr_tup (sa_cons (sr_gstr rfl T.c_BUILD) (sa_cons (sr_name 4) sa_nil)))))) (sb_of (sr_lc [] [("road", 4)] rfl nd (si_seq (sr_name 2)) (blkOk_by (N := N_options) (sc := defScope s_options) (by decide +kernel)) (fun _ _ _ _ _ => (sg_name 4 nd)) (fun _ _ _ _ _ => sts_nil) (fun _ _ _ _ _ => (sr_tup (sa_cons (sr_gstr rfl T.c_DROP) (sa_cons (sr_name 4) sa_nil))))))))
    (ss_one (ss_ret (sr_lc [0, 1] [("step", 5)] rfl nd (si_seq (sr_name 3)) (blkOk_by (N := N_options) (sc := defScope s_options) (by decide +kernel)) (fun _ _ _ _ _ => (sg_name 5 nd)) (fun _ _ _ _ _ => (sts_one (st_tru (sb_of (sr_call (ok_holds T) (hr.mono (by omega)) (by rfl) T.g_holds T.F_holds.kp T.b_holds (fun ds st r h => fnM_len h) (sa_cons (sr_name 0) (sa_cons (sr_call (ok_taken T) (hr.mono (by omega)) (by rfl) T.g_taken T.F_taken.kp T.b_taken (fun ds st r h => fnM_len h) (sa_cons (sr_name 1) (sa_cons (sr_name 5) sa_nil))) sa_nil))))))) (fun _ _ _ _ _ => (sr_name 5)))))))
theorem ok_find_against {P : Program} {w : World} {K : PySem.W.Frag} {mg : Str → Option Value} {base : Heap} (T : Tx K mg) : FnG P w K mg base CX0 16 T.f_find_against T.fd_find_against ["web", "plan", "step"] (spF K 3 m_find_against) := fn_ok T.F_find_against sc_find_against fun cdv A outer s H E hr => by
    have hu := hr.hu
    have hgd := hr.gd
    have nd := sc_find_against.nd
    exact (ss_one (ss_ret (sr_call (ok_find_breach T) (hr.mono (by omega)) (by rfl) T.g_find_breach T.F_find_breach.kp T.b_find_breach (fun ds st r h => fnM_len h) (sa_cons (sr_name 0) (sa_cons (sr_call (ok_taken T) (hr.mono (by omega)) (by rfl) T.g_taken T.F_taken.kp T.b_taken (fun ds st r h => fnM_len h) (sa_cons (sr_name 1) (sa_cons (sr_name 2) sa_nil))) sa_nil)))))
theorem ok__law_open {P : Program} {w : World} {K : PySem.W.Frag} {mg : Str → Option Value} {base : Heap} (T : Tx K mg) : FnG P w K mg base CX0 1 T.f__law_open T.fd__law_open ["script"] (spF K 1 m__law_open) := fn_ok T.F__law_open sc__law_open fun cdv A outer s H E hr => by
    have hu := hr.hu
    have hgd := hr.gd
    have nd := sc__law_open.nd
    exact (ss_cons (ss_set (i := 1) nd (sr_callTy dcall_list (by rfl) T.n_list bb_list (sbs_cons (sb_of (sr_slice (sb_name 0) sp_none (sp_some (sb_of sr_int)))) sbs_nil)))
    (ss_cons (ss_for (vs := [2, 3]) PassesOwn.never rfl (si_enumS (by rfl) T.n_enumerate (sa_cons (sr_slice (sb_name 0) (sp_some (sb_of sr_int)) (sp_some (sb_of sr_int))) sa_nil)) (sg_tup rfl (sgs_cons (sg_name 2 nd) (sgs_cons (sg_name 3 nd) sgs_nil))) (ss_one (ss_setI (i := 1) (dset hu) (sb_of (sr_bin dop_mod (sb_name 2) (sb_of sr_int))) (sr_bin dop_add (sb_of (sr_ix (dix hu) (sb_name 1) (sb_of (sr_bin dop_mod (sb_name 2) (sb_of sr_int))) fun _ _ => rfl)) (sb_name 3)))))
    (ss_one (ss_ret (sr_lst (sa_cons (sr_name 1) (sa_cons sr_int (sa_cons sr_int sa_nil))))))))
theorem ok__law_spread {P : Program} {w : World} {K : PySem.W.Frag} {mg : Str → Option Value} {base : Heap} (T : Tx K mg) : FnG P w K mg base CX0 1 T.f__law_spread T.fd__law_spread ["cell", "at"] (spF K 2 m__law_spread) := fn_ok T.F__law_spread sc__law_spread fun cdv A outer s H E hr => by
    have hu := hr.hu
    have hgd := hr.gd
    have nd := sc__law_spread.nd
    exact (ss_cons (ss_if (st_cmp dop_ge (sb_name 0) (sb_of (sr_bin dop_pow (sb_of sr_int) (sb_of sr_int))) (nomark _)) (ss_one (ss_retOwn 0)) ss_nil)
    (ss_cons (ss_set (i := 2) nd (sr_lst (sa_cons sr_int (sa_cons sr_int (sa_cons sr_int (sa_cons sr_int (sa_cons sr_int (sa_cons sr_int (sa_cons sr_int (sa_cons sr_int sa_nil))))))))))
    (ss_cons (ss_set (i := 2) nd (sr_bin dop_add (sb_name 2) (sb_of (sr_lst (sa_cons sr_int (sa_cons sr_int (sa_cons sr_int (sa_cons sr_int (sa_cons sr_int sa_nil)))))))))
    (ss_cons (ss_set (i := 3) nd (sr_bin dop_mod (sb_of (sr_bin dop_pow (sb_of (sr_bin dop_add (sb_of (sr_bin dop_add (sb_of (sr_bin dop_mul (sb_of (sr_bin dop_mod (sb_name 0) (sb_of sr_int))) (sb_of (sr_bin dop_add (sb_of (sr_bin dop_mul (sb_of sr_int) (sb_name 1))) (sb_of sr_int))))) (sb_of (sr_bin dop_mul (sb_name 1) (sb_of sr_int))))) (sb_of sr_int))) (sb_of sr_int))) (sb_of (sr_ix (dix hu) (sb_name 2) (sb_of (sr_bin dop_mod (sb_name 1) (sb_of sr_int))) fun _ _ => rfl))))
    (ss_cons (ss_set (i := 4) nd (sr_bin dop_mod (sb_of (sr_bin dop_pow (sb_of (sr_bin dop_add (sb_of (sr_bin dop_add (sb_of (sr_bin dop_mul (sb_name 3) (sb_of (sr_bin dop_add (sb_name 1) (sb_of sr_int))))) (sb_of (sr_bin dop_mod (sb_name 0) (sb_of sr_int))))) (sb_of sr_int))) (sb_of sr_int))) (sb_of (sr_ix (dix hu) (sb_name 2) (sb_of (sr_bin dop_mod (sb_of (sr_bin dop_add (sb_name 1) (sb_of sr_int))) (sb_of sr_int))) fun _ _ => rfl))))
    (ss_cons (ss_set (i := 5) nd (sr_bin dop_mod (sb_of (sr_bin dop_pow (sb_of (sr_bin dop_add (sb_of (sr_bin dop_add (sb_name 4) (sb_of (sr_bin dop_mod (sb_name 3) (sb_of sr_int))))) (sb_name 1))) (sb_of sr_int))) (sb_of (sr_ix (dix hu) (sb_name 2) (sb_of (sr_bin dop_mod (sb_of (sr_bin dop_add (sb_name 1) (sb_of sr_int))) (sb_of sr_int))) fun _ _ => rfl))))
    (ss_one (ss_ret (sr_bin dop_add (sb_of (sr_bin dop_mul (sb_of (sr_bin dop_add (sb_of (sr_bin dop_mul (sb_name 3) (sb_of sr_int))) (sb_name 4))) (sb_of sr_int))) (sb_name 5))))))))))
theorem ok__law_take {P : Program} {w : World} {K : PySem.W.Frag} {mg : Str → Option Value} {base : Heap} (T : Tx K mg) : FnG P w K mg base CX0 2 T.f__law_take T.fd__law_take ["pen", "amount"] (spF K 2 m__law_take) := fn_ok T.F__law_take sc__law_take fun cdv A outer s H E hr => by
    have hu := hr.hu
    have hgd := hr.gd
    have nd := sc__law_take.nd
    exact (ss_cons (ss_if (st_cmp (dop_lt hu) (sb_of (sr_ix (dix hu) (sb_name 0) (sb_of sr_int) fun _ _ => rfl)) (sb_name 1) (nomark _)) (ss_cons (ss_set (i := 2) nd (sr_ix (dix hu) (sb_name 0) (sb_of sr_int) fun _ _ => rfl))
    (ss_cons (ss_set (i := 3) nd sr_int)
    (ss_cons (ss_if (st_cmp (dop_lt hu) (sb_name 2) (sb_of (sr_callB dcall_len (by rfl) T.n_len bb_len (sbs_cons (sb_of (sr_ix (dix hu) (sb_name 0) (sb_of sr_int) fun _ _ => rfl)) sbs_nil))) (nomark _)) (ss_one (ss_set (i := 3) nd (sr_ix (dix hu) (sb_of (sr_ix (dix hu) (sb_name 0) (sb_of sr_int) fun _ _ => rfl)) (sb_name 2) fun _ _ => rfl))) (ss_one (ss_if (st_cmp dop_gt (sb_of (sr_callB dcall_len (by rfl) T.n_len bb_len (sbs_cons (sb_of (sr_ix (dix hu) (sb_name 0) (sb_of sr_int) fun _ _ => rfl)) sbs_nil))) (sb_of sr_int) (nomark _)) (ss_one (ss_set (i := 3) nd (sr_bin dop_mod (sb_of (sr_ix (dix hu) (sb_of (sr_ix (dix hu) (sb_name 0) (sb_of sr_int) fun _ _ => rfl)) (sb_of (sr_bin dop_mod (sb_of (sr_bin dop_add (sb_of (sr_bin dop_mul (sb_name 2) (sb_of sr_int))) (sb_of sr_int))) (sb_of (sr_callB dcall_len (by rfl) T.n_len bb_len (sbs_cons (sb_of (sr_ix (dix hu) (sb_name 0) (sb_of sr_int) fun _ _ => rfl)) sbs_nil))))) fun _ _ => rfl)) (sb_of (sr_bin dop_add (sb_of (sr_bin dop_pow (sb_of sr_int) (sb_of sr_int))) (sb_name 2)))))) ss_nil)))
    (ss_cons (ss_setI (i := 0) (dset hu) (sb_of sr_int) (sr_bin dop_add (sb_name 2) (sb_of sr_int)))
    (ss_one (ss_setI (i := 0) (dset hu) (sb_of sr_int) (sr_call (ok__law_spread T) (hr.mono (by omega)) (by rfl) T.g__law_spread T.F__law_spread.kp T.b__law_spread (fun ds st r h => fnM_len h) (sa_cons (sr_name 3) (sa_cons (sr_name 2) sa_nil))))))))) ss_nil)
    (ss_cons (ss_set (i := 4) nd (sr_bin dop_mod (sb_of (sr_ix (dix hu) (sb_name 0) (sb_of sr_int) fun _ _ => rfl)) (sb_name 1)))
    (ss_cons (ss_setI (i := 0) (dset hu) (sb_of sr_int) (sr_bin dop_fdiv (sb_of (sr_ix (dix hu) (sb_name 0) (sb_of sr_int) fun _ _ => rfl)) (sb_name 1)))
    (ss_one (ss_retOwn 4)))))
theorem ok__law_same {P : Program} {w : World} {K : PySem.W.Frag} {mg : Str → Option Value} {base : Heap} (T : Tx K mg) : ∀ k : Nat, FnG P w K mg base CX0 (k + 1) T.f__law_same T.fd__law_same ["found", "due"] (spF K 2 (m__law_same k))
  | 0 => fn_void
  | k + 1 => fn_ok T.F__law_same sc__law_same fun cdv A outer s H E hr => by
    have hu := hr.hu
    have hgd := hr.gd
    have nd := sc__law_same.nd
    have hrec := ok__law_same (P := P) (w := w) (base := base) T k
    have hlen := len__law_same k
    exact (ss_cons (ss_if (sw_st (sw_or (st_cmp dop_is (sb_name 1) (sb_of sr_non) (nomark _)) (sw_or1 (st_cmp dop_is (sb_name 0) (sb_of sr_non) (nomark _))))) (ss_one (ss_ret (sr_and (sr_cmp dop_is (sb_name 1) (sb_of sr_non) (nomark _)) (sr_one (sr_cmp dop_is (sb_name 0) (sb_of sr_non) (nomark _)))))) ss_nil)
    (ss_cons (ss_if (sw_st (sw_or (st_tru (sb_of (sr_isi (by rfl) T.n_isinstance (by rfl) T.n_bool bb_bool (sb_name 1)))) (sw_or1 (st_tru (sb_of (sr_isi (by rfl) T.n_isinstance (by rfl) T.n_bool bb_bool (sb_name 0))))))) (ss_one (ss_ret (sr_and (sr_isi (by rfl) T.n_isinstance (by rfl) T.n_bool bb_bool (sb_name 1)) (sr_and (sr_isi (by rfl) T.n_isinstance (by rfl) T.n_bool bb_bool (sb_name 0)) (sr_one (sr_cmp (dop_eq hu) (sb_name 0) (sb_name 1) (nomark _))))))) ss_nil)
    (ss_cons (ss_if (st_tru (sb_of (sr_isi2 (by rfl) T.n_isinstance (by rfl) T.n_int bb_int (by rfl) T.n_str bb_str (sb_name 1)))) (ss_cons (ss_if (st_cmp (dop_ne hu) (sb_of (sr_isi (by rfl) T.n_isinstance (by rfl) T.n_int bb_int (sb_name 0))) (sb_of (sr_isi (by rfl) T.n_isinstance (by rfl) T.n_int bb_int (sb_name 1))) (nomark _)) (ss_one (ss_ret sr_bl)) ss_nil)
    (ss_one (ss_ret (sr_and (sr_isi2 (by rfl) T.n_isinstance (by rfl) T.n_int bb_int (by rfl) T.n_str bb_str (sb_name 0)) (sr_one (sr_cmp (dop_eq hu) (sb_name 0) (sb_name 1) (nomark _))))))) ss_nil)
    (ss_cons (ss_if (sw_st (sw_or (st_cmp (dop_ne hu) (sb_of (sr_isi (by rfl) T.n_isinstance (by rfl) T.n_tuple bb_tuple (sb_name 1))) (sb_of (sr_isi (by rfl) T.n_isinstance (by rfl) T.n_tuple bb_tuple (sb_name 0))) (nomark _)) (sw_or1 (st_cmp (dop_ne hu) (sb_of (sr_isi (by rfl) T.n_isinstance (by rfl) T.n_list bb_list (sb_name 1))) (sb_of (sr_isi (by rfl) T.n_isinstance (by rfl) T.n_list bb_list (sb_name 0))) (nomark _))))) (ss_one (ss_ret sr_bl)) ss_nil)
    (ss_cons (ss_if (st_cmp (dop_ne hu) (sb_of (sr_callB dcall_len (by rfl) T.n_len bb_len (sbs_cons (sb_name 0) sbs_nil))) (sb_of (sr_callB dcall_len (by rfl) T.n_len bb_len (sbs_cons (sb_name 1) sbs_nil))) (nomark _)) (ss_one (ss_ret sr_bl)) ss_nil)
    (ss_one (ss_ret (sr_cmp (dop_notin hu) (sb_of sr_bl) (sb_of (sr_lc [] [("one", 2), ("other", 3)] rfl nd (si_zip (by rfl) T.n_zip (sa_cons (sr_name 0) (sa_cons (sr_name 1) sa_nil))) (blkOk_by (N := N__law_same) (sc := defScope s__law_same) (by decide +kernel)) (fun _ _ _ _ _ => (sg_tup rfl (sgs_cons (sg_name 2 nd) (sgs_cons (sg_name 3 nd) sgs_nil)))) (fun _ _ _ _ _ => sts_nil) (fun _ _ _ _ _ => (sr_call hrec (hr.mono (by omega)) (by rfl) T.g__law_same T.F__law_same.kp T.b__law_same (fun ds st r h => hlen ds st r h) (sa_cons (sr_name 2) (sa_cons (sr_name 3) sa_nil)))))) rfl))))))))
theorem ok__law_one_of {P : Program} {w : World} {K : PySem.W.Frag} {mg : Str → Option Value} {base : Heap} (T : Tx K mg) : FnG P w K mg base CX0 3 T.f__law_one_of T.fd__law_one_of ["pen", "some"] (spF K 2 m__law_one_of) := fn_ok T.F__law_one_of sc__law_one_of fun cdv A outer s H E hr => by
    have hu := hr.hu
    have hgd := hr.gd
    have nd := sc__law_one_of.nd
    exact (ss_one (ss_ret (sr_ix (dix hu) (sb_name 1) (sb_of (sr_call (ok__law_take T) (hr.mono (by omega)) (by rfl) T.g__law_take T.F__law_take.kp T.b__law_take (fun ds st r h => fnM_len h) (sa_cons (sr_name 0) (sa_cons (sr_callB dcall_len (by rfl) T.n_len bb_len (sbs_cons (sb_name 1) sbs_nil)) sa_nil)))) fun _ _ => rfl)))
theorem ok__law_is_integer {P : Program} {w : World} {K : PySem.W.Frag} {mg : Str → Option Value} {base : Heap} (T : Tx K mg) : FnG P w K mg base CX0 1 T.f__law_is_integer T.fd__law_is_integer ["held"] (spF K 1 m__law_is_integer) := fn_ok T.F__law_is_integer sc__law_is_integer fun cdv A outer s H E hr => by
    have hu := hr.hu
    have hgd := hr.gd
    have nd := sc__law_is_integer.nd
    exact (ss_one (ss_ret (sr_and (sr_isi (by rfl) T.n_isinstance (by rfl) T.n_int bb_int (sb_name 0)) (sr_one (sr_not (sr_isi (by rfl) T.n_isinstance (by rfl) T.n_bool bb_bool (sb_name 0)))))))
theorem ok__law_draw_bounds {P : Program} {w : World} {K : PySem.W.Frag} {mg : Str → Option Value} {base : Heap} (T : Tx K mg) : FnG P w K mg base CX0 4 T.f__law_draw_bounds T.fd__law_draw_bounds ["pen"] (spF K 1 m__law_draw_bounds) := fn_ok T.F__law_draw_bounds sc__law_draw_bounds fun cdv A outer s H E hr => by
    have hu := hr.hu
    have hgd := hr.gd
    have nd := sc__law_draw_bounds.nd
    exact (ss_cons (ss_set (i := 1) nd (sr_call (ok__law_one_of T) (hr.mono (by omega)) (by rfl) T.g__law_one_of T.F__law_one_of.kp T.b__law_one_of (fun ds st r h => fnM_len h) (sa_cons (sr_name 0) (sa_cons (sr_lst (sa_cons sr_int (sa_cons sr_int (sa_cons sr_int (sa_cons sr_int (sa_cons sr_int (sa_cons (sr_call (ok__law_take T) (hr.mono (by omega)) (by rfl) T.g__law_take T.F__law_take.kp T.b__law_take (fun ds st r h => fnM_len h) (sa_cons (sr_name 0) (sa_cons sr_int sa_nil))) (sa_cons (sr_call (ok__law_take T) (hr.mono (by omega)) (by rfl) T.g__law_take T.F__law_take.kp T.b__law_take (fun ds st r h => fnM_len h) (sa_cons (sr_name 0) (sa_cons sr_int sa_nil))) sa_nil)))))))) sa_nil))))
    (ss_one (ss_ret (sr_tup (sa_cons (sr_name 1) (sa_cons (sr_callB (dcall_minA rfl hu) (by rfl) T.n_min bb_min (sbs_cons (sb_of sr_int) (sbs_cons (sb_of (sr_bin dop_add (sb_name 1) (sb_of (sr_call (ok__law_one_of T) (hr.mono (by omega)) (by rfl) T.g__law_one_of T.F__law_one_of.kp T.b__law_one_of (fun ds st r h => fnM_len h) (sa_cons (sr_name 0) (sa_cons (sr_lst (sa_cons sr_int (sa_cons sr_int (sa_cons sr_int (sa_cons sr_int (sa_cons sr_int (sa_cons (sr_call (ok__law_take T) (hr.mono (by omega)) (by rfl) T.g__law_take T.F__law_take.kp T.b__law_take (fun ds st r h => fnM_len h) (sa_cons (sr_name 0) (sa_cons sr_int sa_nil))) (sa_cons (sr_call (ok__law_take T) (hr.mono (by omega)) (by rfl) T.g__law_take T.F__law_take.kp T.b__law_take (fun ds st r h => fnM_len h) (sa_cons (sr_name 0) (sa_cons sr_int sa_nil))) sa_nil)))))))) sa_nil)))))) sbs_nil))) sa_nil))))))
theorem ok__law_draw_web {P : Program} {w : World} {K : PySem.W.Frag} {mg : Str → Option Value} {base : Heap} (T : Tx K mg) : FnG P w K mg base CX0 5 T.f__law_draw_web T.fd__law_draw_web ["pen", "houses", "most"] (spF K 3 m__law_draw_web) := fn_ok T.F__law_draw_web sc__law_draw_web fun cdv A outer s H E hr => by
    have hu := hr.hu
    have hgd := hr.gd
    have nd := sc__law_draw_web.nd
    exact (ss_cons (ss_par (i := 3) (j := 4) rfl nd (sr_bin dop_add (sb_of sr_int) (sb_of (sr_call (ok__law_take T) (hr.mono (by omega)) (by rfl) T.g__law_take T.F__law_take.kp T.b__law_take (fun ds st r h => fnM_len h) (sa_cons (sr_name 0) (sa_cons (sr_name 1) sa_nil))))) (sr_lst sa_nil))
    (ss_cons (ss_for (vs := [5]) PassesOwn.never rfl (si_range2 (by rfl) T.n_range (sa_cons sr_int (sa_cons (sr_name 3) sa_nil))) (sg_name 5 nd) (ss_one (ss_expr (sr_mut (i := 4) PySem.F.plainAttrs_list PySem.F.slot_list_insert PySem.F.type_list_insert dm_insert (sa_cons (sr_call (ok__law_take T) (hr.mono (by omega)) (by rfl) T.g__law_take T.F__law_take.kp T.b__law_take (fun ds st r h => fnM_len h) (sa_cons (sr_name 0) (sa_cons (sr_bin dop_add (sb_of (sr_callB dcall_len (by rfl) T.n_len bb_len (sbs_cons (sb_name 4) sbs_nil))) (sb_of sr_int)) sa_nil))) (sa_cons (sr_bin dop_add (sb_of (sr_tup (sa_cons (sr_call (ok__law_take T) (hr.mono (by omega)) (by rfl) T.g__law_take T.F__law_take.kp T.b__law_take (fun ds st r h => fnM_len h) (sa_cons (sr_name 0) (sa_cons (sr_name 5) sa_nil))) (sa_cons (sr_name 5) sa_nil)))) (sb_of (sr_call (ok__law_draw_bounds T) (hr.mono (by omega)) (by rfl) T.g__law_draw_bounds T.F__law_draw_bounds.kp T.b__law_draw_bounds (fun ds st r h => fnM_len h) (sa_cons (sr_name 0) sa_nil)))) sa_nil))))))
    (ss_cons (ss_for (vs := [6]) PassesOwn.never rfl (si_range1 (by rfl) T.n_range (sa_cons (sr_call (ok__law_take T) (hr.mono (by omega)) (by rfl) T.g__law_take T.F__law_take.kp T.b__law_take (fun ds st r h => fnM_len h) (sa_cons (sr_name 0) (sa_cons (sr_bin dop_add (sb_name 2) (sb_of sr_int)) sa_nil))) sa_nil)) (sg_name 6 nd) (ss_one (ss_if (sw_st (sw_and (st_cmp dop_gt (sb_name 3) (sb_of sr_int) (nomark _)) (sw_and1 (st_cmp (dop_lt hu) (sb_of (sr_callB dcall_len (by rfl) T.n_len bb_len (sbs_cons (sb_name 4) sbs_nil))) (sb_name 2) (nomark _))))) (ss_cons (ss_set (i := 7) nd (sr_bin dop_add (sb_of sr_int) (sb_of (sr_call (ok__law_take T) (hr.mono (by omega)) (by rfl) T.g__law_take T.F__law_take.kp T.b__law_take (fun ds st r h => fnM_len h) (sa_cons (sr_name 0) (sa_cons (sr_bin dop_sub (sb_name 3) (sb_of sr_int)) sa_nil))))))
    (ss_one (ss_expr (sr_mut (i := 4) PySem.F.plainAttrs_list PySem.F.slot_list_insert PySem.F.type_list_insert dm_insert (sa_cons (sr_call (ok__law_take T) (hr.mono (by omega)) (by rfl) T.g__law_take T.F__law_take.kp T.b__law_take (fun ds st r h => fnM_len h) (sa_cons (sr_name 0) (sa_cons (sr_bin dop_add (sb_of (sr_callB dcall_len (by rfl) T.n_len bb_len (sbs_cons (sb_name 4) sbs_nil))) (sb_of sr_int)) sa_nil))) (sa_cons (sr_bin dop_add (sb_of (sr_tup (sa_cons (sr_call (ok__law_take T) (hr.mono (by omega)) (by rfl) T.g__law_take T.F__law_take.kp T.b__law_take (fun ds st r h => fnM_len h) (sa_cons (sr_name 0) (sa_cons (sr_name 7) sa_nil))) (sa_cons (sr_name 7) sa_nil)))) (sb_of (sr_call (ok__law_draw_bounds T) (hr.mono (by omega)) (by rfl) T.g__law_draw_bounds T.F__law_draw_bounds.kp T.b__law_draw_bounds (fun ds st r h => fnM_len h) (sa_cons (sr_name 0) sa_nil)))) sa_nil)))))) ss_nil)))
    (ss_cons (ss_par (i := 8) (j := 9) rfl nd (sr_lst sa_nil) (sr_lst sa_nil))
    (ss_cons (ss_for (vs := [5]) PassesOwn.never rfl (si_range1 (by rfl) T.n_range (sa_cons (sr_name 3) sa_nil)) (sg_name 5 nd) (ss_one (ss_expr (sr_mut (i := 8) PySem.F.plainAttrs_list PySem.F.slot_list_insert PySem.F.type_list_insert dm_insert (sa_cons (sr_call (ok__law_take T) (hr.mono (by omega)) (by rfl) T.g__law_take T.F__law_take.kp T.b__law_take (fun ds st r h => fnM_len h) (sa_cons (sr_name 0) (sa_cons (sr_bin dop_add (sb_name 5) (sb_of sr_int)) sa_nil))) (sa_cons (sr_name 5) sa_nil))))))
    (ss_cons (ss_for (vs := [10, 7, 11, 12]) PassesOwn.never rfl (si_seq (sr_name 4)) (sg_tup rfl (sgs_cons (sg_name 10 nd) (sgs_cons (sg_name 7 nd) (sgs_cons (sg_name 11 nd) (sgs_cons (sg_name 12 nd) sgs_nil))))) (ss_one (ss_expr (sr_mut (i := 9) PySem.F.plainAttrs_list PySem.F.slot_list_append PySem.F.type_list_append dm_append (sa_cons (sr_tup (sa_cons (sr_callB (dcall_minA rfl hu) (by rfl) T.n_min bb_min (sbs_cons (sb_of (sr_ix (dix hu) (sb_name 8) (sb_name 10) fun _ _ => rfl)) (sbs_cons (sb_of (sr_ix (dix hu) (sb_name 8) (sb_name 7) fun _ _ => rfl)) sbs_nil))) (sa_cons (sr_callB (dcall_maxA rfl hu) (by rfl) T.n_max bb_max (sbs_cons (sb_of (sr_ix (dix hu) (sb_name 8) (sb_name 10) fun _ _ => rfl)) (sbs_cons (sb_of (sr_ix (dix hu) (sb_name 8) (sb_name 7) fun _ _ => rfl)) sbs_nil))) (sa_cons (sr_name 11) (sa_cons (sr_name 12) sa_nil))))) sa_nil)))))
    (ss_one (ss_ret (sr_tup (sa_cons (sr_name 3) (sa_cons (sr_callTy dcall_tuple (by rfl) T.n_tuple bb_tuple (sbs_cons (sb_name 9) sbs_nil)) sa_nil)))))))))))
theorem ok__law_fits {P : Program} {w : World} {K : PySem.W.Frag} {mg : Str → Option Value} {base : Heap} (T : Tx K mg) : FnG P w K mg base CX0 2 T.f__law_fits T.fd__law_fits ["web", "given"] (spF K 2 m__law_fits) := fn_ok T.F__law_fits sc__law_fits fun cdv A outer s H E hr => by
    have hu := hr.hu
    have hgd := hr.gd
    have nd := sc__law_fits.nd
    exact (ss_cons (ss_if (sw_st (sw_or (st_not (st_tru (sb_of (sr_isi (by rfl) T.n_isinstance (by rfl) T.n_tuple bb_tuple (sb_name 1))))) (sw_or1 (st_cmp (dop_ne hu) (sb_of (sr_callB dcall_len (by rfl) T.n_len bb_len (sbs_cons (sb_name 1) sbs_nil))) (sb_of (sr_callB dcall_len (by rfl) T.n_len bb_len (sbs_cons (sb_of (sr_ix (dix hu) (sb_name 0) (sb_of sr_int) fun _ _ => rfl)) sbs_nil))) (nomark _))))) (ss_one (ss_ret sr_bl)) ss_nil)
    (ss_cons (ss_for (vs := [2, 3]) PassesOwn.never rfl (si_zip (by rfl) T.n_zip (sa_cons (sr_name 1) (sa_cons (sr_ix (dix hu) (sb_name 0) (sb_of sr_int) fun _ _ => rfl) sa_nil))) (sg_tup rfl (sgs_cons (sg_name 2 nd) (sgs_cons (sg_name 3 nd) sgs_nil))) (ss_one (ss_if (sw_st (sw_or (st_not (st_tru (sb_of (sr_call (ok__law_is_integer T) (hr.mono (by omega)) (by rfl) T.g__law_is_integer T.F__law_is_integer.kp T.b__law_is_integer (fun ds st r h => fnM_len h) (sa_cons (sr_name 2) sa_nil))))) (sw_or1 (st_not (st_chain dop_le dop_le (sb_of (sr_ix (dix hu) (sb_name 3) (sb_of sr_int) fun _ _ => rfl)) (sb_name 2) (sb_of (sr_ix (dix hu) (sb_name 3) (sb_of sr_int) fun _ _ => rfl))))))) (ss_one (ss_ret sr_bl)) ss_nil)))
    (ss_one (ss_ret sr_bl))))
theorem ok__law_reach {P : Program} {w : World} {K : PySem.W.Frag} {mg : Str → Option Value} {base : Heap} (T : Tx K mg) : FnG P w K mg base CX0 1 T.f__law_reach T.fd__law_reach ["web", "roads", "house"] (spF K 3 m__law_reach) := fn_ok T.F__law_reach sc__law_reach fun cdv A outer s H E hr => by
    have hu := hr.hu
    have hgd := hr.gd
    have nd := sc__law_reach.nd
    exact (ss_cons (ss_par (i := 3) (j := 4) rfl nd (sr_lst (sa_cons (sr_name 2) sa_nil)) (sr_lst (sa_cons (sr_name 2) sa_nil)))
    (ss_cons (ss_while PassesOwn.never (st_cmp (dop_ne hu) (sb_name 4) (sb_of (sr_lst sa_nil)) (nomark _)) (ss_cons (ss_set (i := 5) nd (sr_mut0 (i := 4) PySem.F.plainAttrs_list PySem.F.slot_list_pop PySem.F.type_list_pop dm_pop))
    (ss_one (ss_for (vs := [6]) PassesOwn.never rfl (si_seq (sr_name 1)) (sg_name 6 nd) (ss_cons (ss_asg (vs := [7, 8]) (sr_slice (sb_of (sr_ix (dix hu) (sb_of (sr_ix (dix hu) (sb_name 0) (sb_of sr_int) fun _ _ => rfl)) (sb_name 6) fun _ _ => rfl)) sp_none (sp_some (sb_of sr_int))) (sg_tup rfl (sgs_cons (sg_name 7 nd) (sgs_cons (sg_name 8 nd) sgs_nil))))
    (ss_one (ss_for (vs := [9]) PassesOwn.never rfl (si_seq (sr_lst (sa_cons (sr_name 7) (sa_cons (sr_name 8) sa_nil)))) (sg_name 9 nd) (ss_one (ss_if (sw_st (sw_and (st_cmp (dop_in hu) (sb_name 5) (sb_of (sr_tup (sa_cons (sr_name 7) (sa_cons (sr_name 8) sa_nil)))) rfl) (sw_and1 (st_cmp (dop_notin hu) (sb_name 9) (sb_name 3) rfl)))) (ss_cons (ss_expr (sr_mut (i := 3) PySem.F.plainAttrs_list PySem.F.slot_list_append PySem.F.type_list_append dm_append (sa_cons (sr_name 9) sa_nil)))
    (ss_one (ss_expr (sr_mut (i := 4) PySem.F.plainAttrs_list PySem.F.slot_list_append PySem.F.type_list_append dm_append (sa_cons (sr_name 9) sa_nil))))) ss_nil)))))))))
    (ss_one (ss_ret (sr_callB (dcall_sortedA hu) (by rfl) T.n_sorted bb_sorted (sbs_cons (sb_name 3) sbs_nil))))))
theorem ok__law_is_apart {P : Program} {w : World} {K : PySem.W.Frag} {mg : Str → Option Value} {base : Heap} (T : Tx K mg) : FnG P w K mg base CX0 2 T.f__law_is_apart T.fd__law_is_apart ["web", "roads", "road"] (spF K 3 m__law_is_apart) := fn_ok T.F__law_is_apart sc__law_is_apart fun cdv A outer s H E hr => by
    have hu := hr.hu
    have hgd := hr.gd
    have nd := sc__law_is_apart.nd
    exact (ss_cons (ss_asg (vs := [3, 4]) (sr_slice (sb_of (sr_ix (dix hu) (sb_of (sr_ix (dix hu) (sb_name 0) (sb_of sr_int) fun _ _ => rfl)) (sb_name 2) fun _ _ => rfl)) sp_none (sp_some (sb_of sr_int))) (sg_tup rfl (sgs_cons (sg_name 3 nd) (sgs_cons (sg_name 4 nd) sgs_nil))))
    (ss_one (ss_ret (sr_cmp (dop_notin hu) (sb_name 4) (sb_of (sr_call (ok__law_reach T) (hr.mono (by omega)) (by rfl) T.g__law_reach T.F__law_reach.kp T.b__law_reach (fun ds st r h => fnM_len h) (sa_cons (sr_name 0) (sa_cons (sr_lc [2] [("one", 5)] rfl nd (si_seq (sr_name 1)) (blkOk_by (N := N__law_is_apart) (sc := defScope s__law_is_apart) (by decide +kernel)) (fun _ _ _ _ _ => (sg_name 5 nd)) (fun _ _ _ _ _ => (sts_one (st_cmp (dop_ne hu) (sb_name 5) (sb_name 2) (nomark _)))) (fun _ _ _ _ _ => (sr_name 5))) (sa_cons (sr_name 3) sa_nil))))) rfl))))
theorem ok__law_least_total {P : Program} {w : World} {K : PySem.W.Frag} {mg : Str → Option Value} {base : Heap} (T : Tx K mg) : FnG P w K mg base CX0 1 T.f__law_least_total T.fd__law_least_total ["web", "lengths"] (spF K 2 m__law_least_total) := fn_ok T.F__law_least_total sc__law_least_total fun cdv A outer s H E hr => by
    have hu := hr.hu
    have hgd := hr.gd
    have nd := sc__law_least_total.nd
    exact (ss_cons (ss_parC (i := 2) (j := 3) rfl nd (sr_lst (sa_cons sr_int sa_nil)) sr_int)
    (ss_cons (ss_while PassesOwn.never (st_cmp (dop_lt hu) (sb_of (sr_callB dcall_len (by rfl) T.n_len bb_len (sbs_cons (sb_name 2) sbs_nil))) (sb_of (sr_ix (dix hu) (sb_name 0) (sb_of sr_int) fun _ _ => rfl)) (nomark _)) (ss_cons (ss_setLcQ (i := 4) [2] [("road", 8), ("one", 9)] rfl nd (sw_true rfl rfl rfl (by decide +kernel)) (si_enumS (by rfl) T.n_enumerate (sa_cons (sr_ix (dix hu) (sb_name 0) (sb_of sr_int) fun _ _ => rfl) sa_nil)) (blkOk_by (N := N__law_least_total) (sc := defScope s__law_least_total) (by decide +kernel)) (fun _ _ _ _ _ => (sg_tup rfl (sgs_cons (sg_name 8 nd) (sgs_cons (sg_name 9 nd) sgs_nil)))) (fun _ _ _ _ _ => (sts_one (st_cmp (dop_ne hu) (sb_of (sr_cmp (dop_in hu) (sb_of (sr_ix (dix hu) (sb_name 9) (sb_of sr_int) fun _ _ => rfl)) (sb_name 2) rfl)) (sb_of (sr_cmp (dop_in hu) (sb_of (sr_ix (dix hu) (sb_name 9) (sb_of sr_int) fun _ _ => rfl)) (sb_name 2) rfl)) (nomark _)))) (fun _ _ _ _ _ => (sr_name 8)))
    (ss_cons (ss_set (i := 5) nd (sr_ix (dix hu) (sb_of (sr_callB (dcall_minA rfl hu) (by rfl) T.n_min bb_min (sbs_cons (sb_of (sr_lc [1] [("road", 8)] rfl nd (si_seq (sr_name 4)) (blkOk_by (N := N__law_least_total) (sc := defScope s__law_least_total) (by decide +kernel)) (fun _ _ _ _ _ => (sg_name 8 nd)) (fun _ _ _ _ _ => sts_nil) (fun _ _ _ _ _ => (sr_tup (sa_cons (sr_ix (dix hu) (sb_name 1) (sb_name 8) fun _ _ => rfl) (sa_cons (sr_name 8) sa_nil)))))) sbs_nil))) (sb_of sr_int) fun _ _ => rfl))
    (ss_cons (ss_set (i := 3) nd (sr_bin dop_add (sb_name 3) (sb_of (sr_ix (dix hu) (sb_name 1) (sb_name 5) fun _ _ => rfl))))
    (ss_cons (ss_asg (vs := [6, 7]) (sr_slice (sb_of (sr_ix (dix hu) (sb_of (sr_ix (dix hu) (sb_name 0) (sb_of sr_int) fun _ _ => rfl)) (sb_name 5) fun _ _ => rfl)) sp_none (sp_some (sb_of sr_int))) (sg_tup rfl (sgs_cons (sg_name 6 nd) (sgs_cons (sg_name 7 nd) sgs_nil))))
    (ss_one (ss_expr (sr_mut (i := 2) PySem.F.plainAttrs_list PySem.F.slot_list_append PySem.F.type_list_append dm_append (sa_cons (sr_ite (st_cmp (dop_in hu) (sb_name 6) (sb_name 2) rfl) (sr_name 7) (sr_name 6)) sa_nil)))))))))
    (ss_one (ss_retOwn 3))))
theorem ok__law_with {P : Program} {w : World} {K : PySem.W.Frag} {mg : Str → Option Value} {base : Heap} (T : Tx K mg) : FnG P w K mg base CX0 1 T.f__law_with T.fd__law_with ["web", "road", "low", "high"] (spF K 4 m__law_with) := fn_ok T.F__law_with sc__law_with fun cdv A outer s H E hr => by
    have hu := hr.hu
    have hgd := hr.gd
    have nd := sc__law_with.nd
    exact (ss_one (ss_ret (sr_tup (sa_cons (sr_ix (dix hu) (sb_name 0) (sb_of sr_int) fun _ _ => rfl) (sa_cons (sr_bin dop_add (sb_of (sr_bin dop_add (sb_of (sr_slice (sb_of (sr_ix (dix hu) (sb_name 0) (sb_of sr_int) fun _ _ => rfl)) sp_none (sp_some (sb_name 1)))) (sb_of (sr_tup (sa_cons (sr_bin dop_add (sb_of (sr_slice (sb_of (sr_ix (dix hu) (sb_of (sr_ix (dix hu) (sb_name 0) (sb_of sr_int) fun _ _ => rfl)) (sb_name 1) fun _ _ => rfl)) sp_none (sp_some (sb_of sr_int)))) (sb_of (sr_tup (sa_cons (sr_name 2) (sa_cons (sr_name 3) sa_nil))))) sa_nil))))) (sb_of (sr_slice (sb_of (sr_ix (dix hu) (sb_name 0) (sb_of sr_int) fun _ _ => rfl)) (sp_some (sb_of (sr_bin dop_add (sb_name 1) (sb_of sr_int)))) sp_none))) sa_nil)))))
theorem ok__law_holds {P : Program} {w : World} {K : PySem.W.Frag} {mg : Str → Option Value} {base : Heap} (T : Tx K mg) : FnG P w K mg base CX0 3 T.f__law_holds T.fd__law_holds ["web", "plan"] (spF K 2 m__law_holds) := fn_ok T.F__law_holds sc__law_holds fun cdv A outer s H E hr => by
    have hu := hr.hu
    have hgd := hr.gd
    have nd := sc__law_holds.nd
    exact (ss_cons (ss_asg (vs := [2, 3]) (sr_name 1) (sg_tup rfl (sgs_cons (sg_name 2 nd) (sgs_cons (sg_name 3 nd) sgs_nil))))
    (ss_cons (ss_setLc (i := 4) [3] [("road", 5)] rfl nd (sw_true rfl rfl rfl (by decide +kernel)) (si_range1 (by rfl) T.n_range (sa_cons (sr_callB dcall_len (by rfl) T.n_len bb_len (sbs_cons (sb_of (sr_ix (dix hu) (sb_name 0) (sb_of sr_int) fun _ _ => rfl)) sbs_nil)) sa_nil)) (blkOk_by (N := N__law_holds) (sc := defScope s__law_holds) (by decide +kernel)) (fun _ _ _ _ _ => (sg_name 5 nd)) (fun _ _ _ _ _ => (sts_one (st_cmp (dop_notin hu) (sb_name 5) (sb_name 3) rfl))) (fun _ _ _ _ _ => (sr_name 5)))
    (ss_cons (ss_for (vs := [5]) PassesOwn.never rfl (si_seq (sr_name 2)) (sg_name 5 nd) (ss_cons (ss_set (i := 6) nd (sr_ix (dix hu) (sb_of (sr_ix (dix hu) (sb_of (sr_ix (dix hu) (sb_name 0) (sb_of sr_int) fun _ _ => rfl)) (sb_name 5) fun _ _ => rfl)) (sb_of sr_int) fun _ _ => rfl))
    (ss_one (ss_if (st_not (st_tru (sb_of (sr_call (ok__law_is_apart T) (hr.mono (by omega)) (by rfl) T.g__law_is_apart T.F__law_is_apart.kp T.b__law_is_apart (fun ds st r h => fnM_len h) (sa_cons (sr_name 0) (sa_cons (sr_lc [2, 6, 0] [("one", 8)] rfl nd (si_seq (sr_name 4)) (blkOk_by (N := N__law_holds) (sc := defScope s__law_holds) (by decide +kernel)) (fun _ _ _ _ _ => (sg_name 8 nd)) (fun _ _ _ _ _ => (sts_one (sw_st (sw_or (st_cmp (dop_in hu) (sb_name 8) (sb_name 2) rfl) (sw_or1 (st_cmp (dop_lt hu) (sb_of (sr_ix (dix hu) (sb_of (sr_ix (dix hu) (sb_of (sr_ix (dix hu) (sb_name 0) (sb_of sr_int) fun _ _ => rfl)) (sb_name 8) fun _ _ => rfl)) (sb_of sr_int) fun _ _ => rfl)) (sb_name 6) (nomark _))))))) (fun _ _ _ _ _ => (sr_name 8))) (sa_cons (sr_name 5) sa_nil))))))) (ss_one (ss_ret sr_bl)) ss_nil))))
    (ss_cons (ss_for (vs := [5]) PassesOwn.never rfl (si_seq (sr_name 3)) (sg_name 5 nd) (ss_cons (ss_set (i := 7) nd (sr_ix (dix hu) (sb_of (sr_ix (dix hu) (sb_of (sr_ix (dix hu) (sb_name 0) (sb_of sr_int) fun _ _ => rfl)) (sb_name 5) fun _ _ => rfl)) (sb_of sr_int) fun _ _ => rfl))
    (ss_one (ss_if (st_tru (sb_of (sr_call (ok__law_is_apart T) (hr.mono (by omega)) (by rfl) T.g__law_is_apart T.F__law_is_apart.kp T.b__law_is_apart (fun ds st r h => fnM_len h) (sa_cons (sr_name 0) (sa_cons (sr_lc [7, 0] [("one", 8)] rfl nd (si_seq (sr_name 4)) (blkOk_by (N := N__law_holds) (sc := defScope s__law_holds) (by decide +kernel)) (fun _ _ _ _ _ => (sg_name 8 nd)) (fun _ _ _ _ _ => (sts_one (st_cmp dop_le (sb_of (sr_ix (dix hu) (sb_of (sr_ix (dix hu) (sb_of (sr_ix (dix hu) (sb_name 0) (sb_of sr_int) fun _ _ => rfl)) (sb_name 8) fun _ _ => rfl)) (sb_of sr_int) fun _ _ => rfl)) (sb_name 7) (nomark _)))) (fun _ _ _ _ _ => (sr_name 8))) (sa_cons (sr_name 5) sa_nil)))))) (ss_one (ss_ret sr_bl)) ss_nil))))
    (ss_one (ss_ret sr_bl))))))
theorem ok__law_serves {P : Program} {w : World} {K : PySem.W.Frag} {mg : Str → Option Value} {base : Heap} (T : Tx K mg) : FnG P w K mg base CX0 3 T.f__law_serves T.fd__law_serves ["web", "plan", "lengths"] (spF K 3 m__law_serves) := fn_ok T.F__law_serves sc__law_serves fun cdv A outer s H E hr => by
    have hu := hr.hu
    have hgd := hr.gd
    have nd := sc__law_serves.nd
    exact (ss_cons (ss_asg (vs := [3, 4]) (sr_name 1) (sg_tup rfl (sgs_cons (sg_name 3 nd) (sgs_cons (sg_name 4 nd) sgs_nil))))
    (ss_cons (ss_set (i := 5) nd (sr_call (ok__law_least_total T) (hr.mono (by omega)) (by rfl) T.g__law_least_total T.F__law_least_total.kp T.b__law_least_total (fun ds st r h => fnM_len h) (sa_cons (sr_name 0) (sa_cons (sr_name 2) sa_nil))))
    (ss_cons (ss_parC (i := 6) (j := 7) rfl nd (sr_lst sa_nil) sr_int)
    (ss_cons (ss_setLc (i := 8) [4, 2, 3] [("road", 11)] rfl nd (sw_true rfl rfl rfl (by decide +kernel)) (si_range1 (by rfl) T.n_range (sa_cons (sr_callB dcall_len (by rfl) T.n_len bb_len (sbs_cons (sb_of (sr_ix (dix hu) (sb_name 0) (sb_of sr_int) fun _ _ => rfl)) sbs_nil)) sa_nil)) (blkOk_by (N := N__law_serves) (sc := defScope s__law_serves) (by decide +kernel)) (fun _ _ _ _ _ => (sg_name 11 nd)) (fun _ _ _ _ _ => (sts_one (st_cmp (dop_notin hu) (sb_name 11) (sb_name 4) rfl))) (fun _ _ _ _ _ => (sr_tup (sa_cons (sr_ix (dix hu) (sb_name 2) (sb_name 11) fun _ _ => rfl) (sa_cons (sr_cmp (dop_notin hu) (sb_name 11) (sb_name 3) rfl) (sa_cons (sr_name 11) sa_nil))))))
    (ss_cons (ss_for (vs := [9, 10, 11]) PassesOwn.never rfl (si_seq (sr_callB (dcall_sortedA hu) (by rfl) T.n_sorted bb_sorted (sbs_cons (sb_name 8) sbs_nil))) (sg_tup rfl (sgs_cons (sg_name 9 nd) (sgs_cons (sg_name 10 nd) (sgs_cons (sg_name 11 nd) sgs_nil)))) (ss_one (ss_if (st_tru (sb_of (sr_quiet (sr_call (ok__law_is_apart T) (hr.mono (by omega)) (by rfl) T.g__law_is_apart T.F__law_is_apart.kp T.b__law_is_apart (fun ds st r h => fnM_len h) (sa_cons (sr_name 0) (sa_cons (sr_name 6) (sa_cons (sr_name 11) sa_nil))))))) (ss_cons (ss_expr (sr_mut (i := 6) PySem.F.plainAttrs_list PySem.F.slot_list_append PySem.F.type_list_append dm_append (sa_cons (sr_name 11) sa_nil)))
    (ss_one (ss_set (i := 7) nd (sr_bin dop_add (sb_name 7) (sb_name 9))))) ss_nil)))
    (ss_one (ss_ret (sr_and (sr_cmp (dop_eq hu) (sb_of (sr_callB dcall_len (by rfl) T.n_len bb_len (sbs_cons (sb_name 6) sbs_nil))) (sb_of (sr_bin dop_sub (sb_of (sr_ix (dix hu) (sb_name 0) (sb_of sr_int) fun _ _ => rfl)) (sb_of sr_int))) (nomark _)) (sr_and (sr_cmp (dop_eq hu) (sb_name 7) (sb_name 5) (nomark _)) (sr_one (sr_cmp (dop_notin hu) (sb_of sr_bl) (sb_of (sr_quietL (sr_lc [6] [("road", 11)] rfl nd (si_seq (sr_name 3)) (blkOk_by (N := N__law_serves) (sc := defScope s__law_serves) (by decide +kernel)) (fun _ _ _ _ _ => (sg_name 11 nd)) (fun _ _ _ _ _ => sts_nil) (fun _ _ _ _ _ => (sr_cmp (dop_in hu) (sb_name 11) (sb_name 6) rfl))))) rfl)))))))))))
theorem ok__law_draw_plan {P : Program} {w : World} {K : PySem.W.Frag} {mg : Str → Option Value} {base : Heap} (T : Tx K mg) : FnG P w K mg base CX0 4 T.f__law_draw_plan T.fd__law_draw_plan ["pen", "web", "least"] (spF K 3 m__law_draw_plan) := fn_ok T.F__law_draw_plan sc__law_draw_plan fun cdv A outer s H E hr => by
    have hu := hr.hu
    have hgd := hr.gd
    have nd := sc__law_draw_plan.nd
    exact (ss_cons (ss_set (i := 3) nd (sr_tup (sa_cons (sr_tup sa_nil) (sa_cons (sr_tup sa_nil) sa_nil))))
    (ss_cons (ss_for (vs := [4]) PassesOwn.never rfl (si_range1 (by rfl) T.n_range (sa_cons (sr_bin dop_add (sb_name 2) (sb_of (sr_call (ok__law_take T) (hr.mono (by omega)) (by rfl) T.g__law_take T.F__law_take.kp T.b__law_take (fun ds st r h => fnM_len h) (sa_cons (sr_name 0) (sa_cons sr_int sa_nil))))) sa_nil)) (sg_name 4 nd) (ss_cons (ss_set (i := 5) nd (sr_call (ok__law_take T) (hr.mono (by omega)) (by rfl) T.g__law_take T.F__law_take.kp T.b__law_take (fun ds st r h => fnM_len h) (sa_cons (sr_name 0) (sa_cons (sr_callB (dcall_maxA rfl hu) (by rfl) T.n_max bb_max (sbs_cons (sb_of sr_int) (sbs_cons (sb_of (sr_callB dcall_len (by rfl) T.n_len bb_len (sbs_cons (sb_of (sr_ix (dix hu) (sb_name 1) (sb_of sr_int) fun _ _ => rfl)) sbs_nil))) sbs_nil))) sa_nil))))
    (ss_one (ss_if (sw_st (sw_and (st_cmp (dop_lt hu) (sb_name 5) (sb_of (sr_callB dcall_len (by rfl) T.n_len bb_len (sbs_cons (sb_of (sr_ix (dix hu) (sb_name 1) (sb_of sr_int) fun _ _ => rfl)) sbs_nil))) (nomark _)) (sw_and1 (st_cmp (dop_notin hu) (sb_name 5) (sb_of (sr_bin dop_add (sb_of (sr_ix (dix hu) (sb_name 3) (sb_of sr_int) fun _ _ => rfl)) (sb_of (sr_ix (dix hu) (sb_name 3) (sb_of sr_int) fun _ _ => rfl)))) rfl)))) (ss_cons (ss_set (i := 6) nd (sr_lst (sa_cons (sr_tup (sa_cons (sr_callTy dcall_tuple (by rfl) T.n_tuple bb_tuple (sbs_cons (sb_of (sr_callB (dcall_sortedA hu) (by rfl) T.n_sorted bb_sorted (sbs_cons (sb_of (sr_bin dop_add (sb_of (sr_ix (dix hu) (sb_name 3) (sb_of sr_int) fun _ _ => rfl)) (sb_of (sr_tup (sa_cons (sr_name 5) sa_nil))))) sbs_nil))) sbs_nil)) (sa_cons (sr_ix (dix hu) (sb_name 3) (sb_of sr_int) fun _ _ => rfl) sa_nil))) (sa_cons (sr_tup (sa_cons (sr_ix (dix hu) (sb_name 3) (sb_of sr_int) fun _ _ => rfl) (sa_cons (sr_callTy dcall_tuple (by rfl) T.n_tuple bb_tuple (sbs_cons (sb_of (sr_callB (dcall_sortedA hu) (by rfl) T.n_sorted bb_sorted (sbs_cons (sb_of (sr_bin dop_add (sb_of (sr_ix (dix hu) (sb_name 3) (sb_of sr_int) fun _ _ => rfl)) (sb_of (sr_tup (sa_cons (sr_name 5) sa_nil))))) sbs_nil))) sbs_nil)) sa_nil))) sa_nil))))
    (ss_cons (ss_set (i := 7) nd (sr_call (ok__law_one_of T) (hr.mono (by omega)) (by rfl) T.g__law_one_of T.F__law_one_of.kp T.b__law_one_of (fun ds st r h => fnM_len h) (sa_cons (sr_name 0) (sa_cons (sr_name 6) sa_nil))))
    (ss_one (ss_set (i := 3) nd (sr_ite (st_tru (sb_of (sr_call (ok__law_holds T) (hr.mono (by omega)) (by rfl) T.g__law_holds T.F__law_holds.kp T.b__law_holds (fun ds st r h => fnM_len h) (sa_cons (sr_name 1) (sa_cons (sr_name 7) sa_nil))))) (sr_name 7) (sr_name 3)))))) ss_nil))))
    (ss_one (ss_retOwn 3))))
theorem ok__law_draw_near_fixed {P : Program} {w : World} {K : PySem.W.Frag} {mg : Str → Option Value} {base : Heap} (T : Tx K mg) : FnG P w K mg base CX0 6 T.f__law_draw_near_fixed T.fd__law_draw_near_fixed ["pen", "houses", "most"] (spF K 3 m__law_draw_near_fixed) := fn_ok T.F__law_draw_near_fixed sc__law_draw_near_fixed fun cdv A outer s H E hr => by
    have hu := hr.hu
    have hgd := hr.gd
    have nd := sc__law_draw_near_fixed.nd
    exact (ss_cons (ss_set (i := 3) nd (sr_call (ok__law_draw_web T) (hr.mono (by omega)) (by rfl) T.g__law_draw_web T.F__law_draw_web.kp T.b__law_draw_web (fun ds st r h => fnM_len h) (sa_cons (sr_name 0) (sa_cons (sr_name 1) (sa_cons (sr_name 2) sa_nil)))))
    (ss_cons (ss_for (vs := [4]) PassesOwn.never rfl (si_range1 (by rfl) T.n_range (sa_cons (sr_callB dcall_len (by rfl) T.n_len bb_len (sbs_cons (sb_of (sr_ix (dix hu) (sb_name 3) (sb_of sr_int) fun _ _ => rfl)) sbs_nil)) sa_nil)) (sg_name 4 nd) (ss_one (ss_if (st_cmp dop_gt (sb_of (sr_call (ok__law_take T) (hr.mono (by omega)) (by rfl) T.g__law_take T.F__law_take.kp T.b__law_take (fun ds st r h => fnM_len h) (sa_cons (sr_name 0) (sa_cons sr_int sa_nil)))) (sb_of sr_int) (nomark _)) (ss_cons (ss_set (i := 5) nd (sr_call (ok__law_take T) (hr.mono (by omega)) (by rfl) T.g__law_take T.F__law_take.kp T.b__law_take (fun ds st r h => fnM_len h) (sa_cons (sr_name 0) (sa_cons sr_int sa_nil))))
    (ss_one (ss_set (i := 3) nd (sr_call (ok__law_with T) (hr.mono (by omega)) (by rfl) T.g__law_with T.F__law_with.kp T.b__law_with (fun ds st r h => fnM_len h) (sa_cons (sr_name 3) (sa_cons (sr_name 4) (sa_cons (sr_name 5) (sa_cons (sr_bin dop_add (sb_name 5) (sb_of (sr_call (ok__law_one_of T) (hr.mono (by omega)) (by rfl) T.g__law_one_of T.F__law_one_of.kp T.b__law_one_of (fun ds st r h => fnM_len h) (sa_cons (sr_name 0) (sa_cons (sr_lst (sa_cons sr_int (sa_cons sr_int (sa_cons sr_int sa_nil)))) sa_nil))))) sa_nil)))))))) ss_nil)))
    (ss_one (ss_retOwn 3))))
theorem ok__law_taken {P : Program} {w : World} {K : PySem.W.Frag} {mg : Str → Option Value} {base : Heap} (T : Tx K mg) : FnG P w K mg base CX0 1 T.f__law_taken T.fd__law_taken ["plan", "word", "road"] (spF K 3 m__law_taken) := fn_ok T.F__law_taken sc__law_taken fun cdv A outer s H E hr => by
    have hu := hr.hu
    have hgd := hr.gd
    have nd := sc__law_taken.nd
    exact (ss_cons (ss_if (st_cmp (dop_eq hu) (sb_name 1) (sb_of sr_str) (nomark _)) (ss_one (ss_ret (sr_tup (sa_cons (sr_callTy dcall_tuple (by rfl) T.n_tuple bb_tuple (sbs_cons (sb_of (sr_callB (dcall_sortedA hu) (by rfl) T.n_sorted bb_sorted (sbs_cons (sb_of (sr_bin dop_add (sb_of (sr_ix (dix hu) (sb_name 0) (sb_of sr_int) fun _ _ => rfl)) (sb_of (sr_tup (sa_cons (sr_name 2) sa_nil))))) sbs_nil))) sbs_nil)) (sa_cons (sr_ix (dix hu) (sb_name 0) (sb_of sr_int) fun _ _ => rfl) sa_nil))))) ss_nil)
    (ss_one (ss_ret (sr_tup (sa_cons (sr_ix (dix hu) (sb_name 0) (sb_of sr_int) fun _ _ => rfl) (sa_cons (sr_callTy dcall_tuple (by rfl) T.n_tuple bb_tuple (sbs_cons (sb_of (sr_callB (dcall_sortedA hu) (by rfl) T.n_sorted bb_sorted (sbs_cons (sb_of (sr_bin dop_add (sb_of (sr_ix (dix hu) (sb_name 0) (sb_of sr_int) fun _ _ => rfl)) (sb_of (sr_tup (sa_cons (sr_name 2) sa_nil))))) sbs_nil))) sbs_nil)) sa_nil))))))
theorem ok_law {P : Program} {w : World} {K : PySem.W.Frag} {mg : Str → Option Value} {base : Heap} (T : Tx K mg) : FnG P w K mg base CX0 18 T.f_law T.fd_law ["script"] (spF K 1 m_law) := fn_ok T.F_law sc_law fun cdv A outer s H E hr => by
    have hu := hr.hu
    have hgd := hr.gd
    have nd := sc_law.nd
    exact (ss_cons (ss_setC (i := 1) nd (sr_call (ok__law_open T) (hr.mono (by omega)) (by rfl) T.g__law_open T.F__law_open.kp T.b__law_open (fun ds st r h => fnM_len h) (sa_cons (sr_name 0) sa_nil)))
    (ss_cons (ss_for (vs := [2]) PassesOwn.never rfl (si_range1 (by rfl) T.n_range (sa_cons sr_int sa_nil)) (sg_name 2 nd) (ss_cons (ss_set (i := 3) nd (sr_ite (st_cmp dop_gt (sb_name 2) (sb_of sr_int) (nomark _)) (sr_call (ok__law_draw_near_fixed T) (hr.mono (by omega)) (by rfl) T.g__law_draw_near_fixed T.F__law_draw_near_fixed.kp T.b__law_draw_near_fixed (fun ds st r h => fnM_len h) (sa_cons (sr_name 1) (sa_cons sr_int (sa_cons (sr_ix (dix hu) (sb_of (sr_lst (sa_cons sr_int (sa_cons sr_int (sa_cons sr_int sa_nil))))) (sb_name 2) fun _ _ => rfl) sa_nil)))) (sr_call (ok__law_draw_web T) (hr.mono (by omega)) (by rfl) T.g__law_draw_web T.F__law_draw_web.kp T.b__law_draw_web (fun ds st r h => fnM_len h) (sa_cons (sr_name 1) (sa_cons sr_int (sa_cons sr_int sa_nil))))))
    (ss_cons (ss_set (i := 4) nd (sr_call (ok__law_draw_plan T) (hr.mono (by omega)) (by rfl) T.g__law_draw_plan T.F__law_draw_plan.kp T.b__law_draw_plan (fun ds st r h => fnM_len h) (sa_cons (sr_name 1) (sa_cons (sr_name 3) (sa_cons (sr_bin dop_mul (sb_of sr_int) (sb_name 2)) sa_nil)))))
    (ss_cons (ss_par (i := 5) (j := 6) rfl nd (sr_callB (dcall_repr hu hgd) (by rfl) T.n_repr bb_repr (sbs_cons (sb_of (sr_tup (sa_cons (sr_name 3) (sa_cons (sr_name 4) sa_nil)))) sbs_nil)) (sr_lst sa_nil))
    (ss_cons (ss_for (vs := [7]) PassesOwn.never rfl (si_seq (sr_lst (sa_cons sr_str (sa_cons sr_str sa_nil)))) (sg_name 7 nd) (ss_one (ss_for (vs := [8]) PassesOwn.never rfl (si_range1 (by rfl) T.n_range (sa_cons (sr_callB dcall_len (by rfl) T.n_len bb_len (sbs_cons (sb_of (sr_ix (dix hu) (sb_name 3) (sb_of sr_int) fun _ _ => rfl)) sbs_nil)) sa_nil)) (sg_name 8 nd) (ss_one (ss_if (st_cmp (dop_notin hu) (sb_name 8) (sb_of (sr_bin dop_add (sb_of (sr_ix (dix hu) (sb_name 4) (sb_of sr_int) fun _ _ => rfl)) (sb_of (sr_ix (dix hu) (sb_name 4) (sb_of sr_int) fun _ _ => rfl)))) rfl) (ss_cons (ss_set (i := 9) nd (sr_call (ok__law_taken T) (hr.mono (by omega)) (by rfl) T.g__law_taken T.F__law_taken.kp T.b__law_taken (fun ds st r h => fnM_len h) (sa_cons (sr_name 4) (sa_cons (sr_name 7) (sa_cons (sr_name 8) sa_nil)))))
    (ss_cons (ss_set (i := 10) nd (sr_call (ok__law_holds T) (hr.mono (by omega)) (by rfl) T.g__law_holds T.F__law_holds.kp T.b__law_holds (fun ds st r h => fnM_len h) (sa_cons (sr_name 3) (sa_cons (sr_name 9) sa_nil))))
    (ss_cons (ss_set (i := 6) nd (sr_bin dop_add (sb_name 6) (sb_of (sr_bin dop_mul (sb_of (sr_lst (sa_cons (sr_tup (sa_cons (sr_name 7) (sa_cons (sr_name 8) sa_nil))) sa_nil))) (sb_of (sr_callTy dcall_int (by rfl) T.n_int bb_int (sbs_cons (sb_name 10) sbs_nil)))))))
    (ss_cons (ss_set (i := 11) nd (sr_call (ok_find_against T) (hr.mono (by omega)) (by rfl) T.g_find_against T.F_find_against.kp T.b_find_against (fun ds st r h => fnM_len h) (sa_cons (sr_name 3) (sa_cons (sr_name 4) (sa_cons (sr_tup (sa_cons (sr_name 7) (sa_cons (sr_name 8) sa_nil))) sa_nil)))))
    (ss_cons (ss_if (sw_st (sw_or (st_not (st_tru (sb_of (sr_quiet (sr_call (ok__law_same T 5) (hr.mono (by omega)) (by rfl) T.g__law_same T.F__law_same.kp T.b__law_same (fun ds st r h => len__law_same 5 ds st r h) (sa_cons (sr_call (ok_taken T) (hr.mono (by omega)) (by rfl) T.g_taken T.F_taken.kp T.b_taken (fun ds st r h => fnM_len h) (sa_cons (sr_name 4) (sa_cons (sr_tup (sa_cons (sr_name 7) (sa_cons (sr_name 8) sa_nil))) sa_nil))) (sa_cons (sr_name 9) sa_nil))))))) (sw_or1 (st_cmp (dop_ne hu) (sb_of (sr_cmp dop_is (sb_name 11) (sb_of sr_non) (nomark _))) (sb_name 10) (nomark _))))) (ss_one (ss_ret sr_bl)) ss_nil)
    (ss_cons (ss_if (st_cmp (dop_ne hu) (sb_of (sr_call (ok_find_against T) (hr.mono (by omega)) (by rfl) T.g_find_against T.F_find_against.kp T.b_find_against (fun ds st r h => fnM_len h) (sa_cons (sr_name 3) (sa_cons (sr_name 4) (sa_cons (sr_tup (sa_cons (sr_name 7) (sa_cons (sr_name 8) sa_nil))) sa_nil))))) (sb_name 11) (nomark _)) (ss_one (ss_ret sr_bl)) ss_nil)
    (ss_one (ss_if (sw_st (sw_and (st_cmp dop_isnot (sb_name 11) (sb_of sr_non) (nomark _)) (sw_and1 (sw_st (sw_or (st_not (st_tru (sb_of (sr_call (ok__law_fits T) (hr.mono (by omega)) (by rfl) T.g__law_fits T.F__law_fits.kp T.b__law_fits (fun ds st r h => fnM_len h) (sa_cons (sr_name 3) (sa_cons (sr_name 11) sa_nil)))))) (sw_or1 (st_tru (sb_of (sr_call (ok__law_serves T) (hr.mono (by omega)) (by rfl) T.g__law_serves T.F__law_serves.kp T.b__law_serves (fun ds st r h => fnM_len h) (sa_cons (sr_name 3) (sa_cons (sr_name 9) (sa_cons (sr_name 11) sa_nil)))))))))))) (ss_one (ss_ret sr_bl)) ss_nil)))))))) ss_nil)))))
    (ss_one (ss_for (vs := [12]) PassesOwn.never rfl (si_range1 (by rfl) T.n_range (sa_cons sr_int sa_nil)) (sg_name 12 nd) (ss_cons (ss_set (i := 13) nd (sr_call (ok_options T) (hr.mono (by omega)) (by rfl) T.g_options T.F_options.kp T.b_options (fun ds st r h => fnM_len h) (sa_cons (sr_name 3) (sa_cons (sr_name 4) sa_nil))))
    (ss_cons (ss_if (sw_st (sw_or (st_not (st_tru (sb_of (sr_quiet (sr_call (ok__law_same T 5) (hr.mono (by omega)) (by rfl) T.g__law_same T.F__law_same.kp T.b__law_same (fun ds st r h => len__law_same 5 ds st r h) (sa_cons (sr_name 13) (sa_cons (sr_name 6) sa_nil))))))) (sw_or1 (st_cmp (dop_ne hu) (sb_of (sr_callB (dcall_repr hu hgd) (by rfl) T.n_repr bb_repr (sbs_cons (sb_of (sr_tup (sa_cons (sr_name 3) (sa_cons (sr_name 4) sa_nil)))) sbs_nil))) (sb_name 5) (nomark _))))) (ss_one (ss_ret sr_bl)) ss_nil)
    (ss_one (ss_expr (sr_mut (i := 13) PySem.F.plainAttrs_list PySem.F.slot_list_append PySem.F.type_list_append dm_append (sa_cons sr_non sa_nil)))))))))))))
    (ss_one (ss_ret sr_bl))))
set_option maxHeartbeats 0 in
theorem all_mk {l : PySem.W.OpenLaw} {w : World} {K : PySem.W.Frag} {h : Heap} {mg : Str → Option Value} {fa : Addr} (X : K.In h) (G : h.Ns mainGlobals mg) (hfa : mg "law" = some (.ref fa))
    {f0 : Addr} {od0 an0 : Option Addr} {sl0 : Array (Option Value)} {oc0 kV0 dc0 pm0 cd0 ct0 : Value}
    {f1 : Addr} {od1 an1 : Option Addr} {sl1 : Array (Option Value)} {oc1 kV1 dc1 pm1 cd1 ct1 : Value}
    {f2 : Addr} {od2 an2 : Option Addr} {sl2 : Array (Option Value)} {oc2 kV2 dc2 pm2 cd2 ct2 : Value}
    {f3 : Addr} {od3 an3 : Option Addr} {sl3 : Array (Option Value)} {oc3 kV3 dc3 pm3 cd3 ct3 : Value}
    {f4 : Addr} {od4 an4 : Option Addr} {sl4 : Array (Option Value)} {oc4 kV4 dc4 pm4 cd4 ct4 : Value}
    {f5 : Addr} {od5 an5 : Option Addr} {sl5 : Array (Option Value)} {oc5 kV5 dc5 pm5 cd5 ct5 : Value}
    {f6 : Addr} {od6 an6 : Option Addr} {sl6 : Array (Option Value)} {oc6 kV6 dc6 pm6 cd6 ct6 : Value}
    {f7 : Addr} {od7 an7 : Option Addr} {sl7 : Array (Option Value)} {oc7 kV7 dc7 pm7 cd7 ct7 : Value}
    {f8 : Addr} {od8 an8 : Option Addr} {sl8 : Array (Option Value)} {oc8 kV8 dc8 pm8 cd8 ct8 : Value}
    {f9 : Addr} {od9 an9 : Option Addr} {sl9 : Array (Option Value)} {oc9 kV9 dc9 pm9 cd9 ct9 : Value}
    {f10 : Addr} {od10 an10 : Option Addr} {sl10 : Array (Option Value)} {oc10 kV10 dc10 pm10 cd10 ct10 : Value}
    {f11 : Addr} {od11 an11 : Option Addr} {sl11 : Array (Option Value)} {oc11 kV11 dc11 pm11 cd11 ct11 : Value}
    {f12 : Addr} {od12 an12 : Option Addr} {sl12 : Array (Option Value)} {oc12 kV12 dc12 pm12 cd12 ct12 : Value}
    {f13 : Addr} {od13 an13 : Option Addr} {sl13 : Array (Option Value)} {oc13 kV13 dc13 pm13 cd13 ct13 : Value}
    {f14 : Addr} {od14 an14 : Option Addr} {sl14 : Array (Option Value)} {oc14 kV14 dc14 pm14 cd14 ct14 : Value}
    {f15 : Addr} {od15 an15 : Option Addr} {sl15 : Array (Option Value)} {oc15 kV15 dc15 pm15 cd15 ct15 : Value}
    {f16 : Addr} {od16 an16 : Option Addr} {sl16 : Array (Option Value)} {oc16 kV16 dc16 pm16 cd16 ct16 : Value}
    {f17 : Addr} {od17 an17 : Option Addr} {sl17 : Array (Option Value)} {oc17 kV17 dc17 pm17 cd17 ct17 : Value}
    {f18 : Addr} {od18 an18 : Option Addr} {sl18 : Array (Option Value)} {oc18 kV18 dc18 pm18 cd18 ct18 : Value}
    {f19 : Addr} {od19 an19 : Option Addr} {sl19 : Array (Option Value)} {oc19 kV19 dc19 pm19 cd19 ct19 : Value}
    {f20 : Addr} {od20 an20 : Option Addr} {sl20 : Array (Option Value)} {oc20 kV20 dc20 pm20 cd20 ct20 : Value}
    {f21 : Addr} {od21 an21 : Option Addr} {sl21 : Array (Option Value)} {oc21 kV21 dc21 pm21 cd21 ct21 : Value}
    {f22 : Addr} {od22 an22 : Option Addr} {sl22 : Array (Option Value)} {oc22 kV22 dc22 pm22 cd22 ct22 : Value}
    {f23 : Addr} {od23 an23 : Option Addr} {sl23 : Array (Option Value)} {oc23 kV23 dc23 pm23 cd23 ct23 : Value}
    {f24 : Addr} {od24 an24 : Option Addr} {sl24 : Array (Option Value)} {oc24 kV24 dc24 pm24 cd24 ct24 : Value}
    {f25 : Addr} {od25 an25 : Option Addr} {sl25 : Array (Option Value)} {oc25 kV25 dc25 pm25 cd25 ct25 : Value}
    {f26 : Addr} {od26 an26 : Option Addr} {sl26 : Array (Option Value)} {oc26 kV26 dc26 pm26 cd26 ct26 : Value}
    {f27 : Addr} {od27 an27 : Option Addr} {sl27 : Array (Option Value)} {oc27 kV27 dc27 pm27 cd27 ct27 : Value}
    {f28 : Addr} {od28 an28 : Option Addr} {sl28 : Array (Option Value)} {oc28 kV28 dc28 pm28 cd28 ct28 : Value}
    {f29 : Addr} {od29 an29 : Option Addr} {sl29 : Array (Option Value)} {oc29 kV29 dc29 pm29 cd29 ct29 : Value}
    {f30 : Addr} {od30 an30 : Option Addr} {sl30 : Array (Option Value)} {oc30 kV30 dc30 pm30 cd30 ct30 : Value}
    {f31 : Addr} {od31 an31 : Option Addr} {sl31 : Array (Option Value)} {oc31 kV31 dc31 pm31 cd31 ct31 : Value}
    {f32 : Addr} {od32 an32 : Option Addr} {sl32 : Array (Option Value)} {oc32 kV32 dc32 pm32 cd32 ct32 : Value}
    {f33 : Addr} {od33 an33 : Option Addr} {sl33 : Array (Option Value)} {oc33 kV33 dc33 pm33 cd33 ct33 : Value}
    {f34 : Addr} {od34 an34 : Option Addr} {sl34 : Array (Option Value)} {oc34 kV34 dc34 pm34 cd34 ct34 : Value}
    {f35 : Addr} {od35 an35 : Option Addr} {sl35 : Array (Option Value)} {oc35 kV35 dc35 pm35 cd35 ct35 : Value}
    {f36 : Addr} {od36 an36 : Option Addr} {sl36 : Array (Option Value)} {oc36 kV36 dc36 pm36 cd36 ct36 : Value}
    {f37 : Addr} {od37 an37 : Option Addr} {sl37 : Array (Option Value)} {oc37 kV37 dc37 pm37 cd37 ct37 : Value}
    {f38 : Addr} {od38 an38 : Option Addr} {sl38 : Array (Option Value)} {oc38 kV38 dc38 pm38 cd38 ct38 : Value}
    {ct_BUILD : Tok}
    {ct_DROP : Tok}
    (a0 : PySem.W.nsIn K mainGlobals "reached" = some (some (.ref f0))) (l0 : K.lookup f0 = some ⟨oc0, od0, .func (PySem.W.fnOf "reached" "reached" (defArgs s_reached) (defBody s_reached) (defScope s_reached) .none kV0 dc0 pm0 an0 cd0 ct0), sl0⟩) (c0 : PySem.W.codeIn K cd0 "reached" = true) (k0 : PySem.W.keepIn K (.ref f0) = true)
    (a1 : PySem.W.nsIn K mainGlobals "low_of" = some (some (.ref f1))) (l1 : K.lookup f1 = some ⟨oc1, od1, .func (PySem.W.fnOf "low_of" "low_of" (defArgs s_low_of) (defBody s_low_of) (defScope s_low_of) .none kV1 dc1 pm1 an1 cd1 ct1), sl1⟩) (c1 : PySem.W.codeIn K cd1 "low_of" = true) (k1 : PySem.W.keepIn K (.ref f1) = true)
    (a2 : PySem.W.nsIn K mainGlobals "high_of" = some (some (.ref f2))) (l2 : K.lookup f2 = some ⟨oc2, od2, .func (PySem.W.fnOf "high_of" "high_of" (defArgs s_high_of) (defBody s_high_of) (defScope s_high_of) .none kV2 dc2 pm2 an2 cd2 ct2), sl2⟩) (c2 : PySem.W.codeIn K cd2 "high_of" = true) (k2 : PySem.W.keepIn K (.ref f2) = true)
    (a3 : PySem.W.nsIn K mainGlobals "raised" = some (some (.ref f3))) (l3 : K.lookup f3 = some ⟨oc3, od3, .func (PySem.W.fnOf "raised" "raised" (defArgs s_raised) (defBody s_raised) (defScope s_raised) .none kV3 dc3 pm3 an3 cd3 ct3), sl3⟩) (c3 : PySem.W.codeIn K cd3 "raised" = true) (k3 : PySem.W.keepIn K (.ref f3) = true)
    (a4 : PySem.W.nsIn K mainGlobals "other_roads" = some (some (.ref f4))) (l4 : K.lookup f4 = some ⟨oc4, od4, .func (PySem.W.fnOf "other_roads" "other_roads" (defArgs s_other_roads) (defBody s_other_roads) (defScope s_other_roads) .none kV4 dc4 pm4 an4 cd4 ct4), sl4⟩) (c4 : PySem.W.codeIn K cd4 "other_roads" = true) (k4 : PySem.W.keepIn K (.ref f4) = true)
    (a5 : PySem.W.nsIn K mainGlobals "ends_of" = some (some (.ref f5))) (l5 : K.lookup f5 = some ⟨oc5, od5, .func (PySem.W.fnOf "ends_of" "ends_of" (defArgs s_ends_of) (defBody s_ends_of) (defScope s_ends_of) .none kV5 dc5 pm5 an5 cd5 ct5), sl5⟩) (c5 : PySem.W.codeIn K cd5 "ends_of" = true) (k5 : PySem.W.keepIn K (.ref f5) = true)
    (a6 : PySem.W.nsIn K mainGlobals "beyond" = some (some (.ref f6))) (l6 : K.lookup f6 = some ⟨oc6, od6, .func (PySem.W.fnOf "beyond" "beyond" (defArgs s_beyond) (defBody s_beyond) (defScope s_beyond) .none kV6 dc6 pm6 an6 cd6 ct6), sl6⟩) (c6 : PySem.W.codeIn K cd6 "beyond" = true) (k6 : PySem.W.keepIn K (.ref f6) = true)
    (a7 : PySem.W.nsIn K mainGlobals "ways_on" = some (some (.ref f7))) (l7 : K.lookup f7 = some ⟨oc7, od7, .func (PySem.W.fnOf "ways_on" "ways_on" (defArgs s_ways_on) (defBody s_ways_on) (defScope s_ways_on) .none kV7 dc7 pm7 an7 cd7 ct7), sl7⟩) (c7 : PySem.W.codeIn K cd7 "ways_on" = true) (k7 : PySem.W.keepIn K (.ref f7) = true)
    (a8 : PySem.W.nsIn K mainGlobals "detours_by" = some (some (.ref f8))) (l8 : K.lookup f8 = some ⟨oc8, od8, .func (PySem.W.fnOf "detours_by" "detours_by" (defArgs s_detours_by) (defBody s_detours_by) (defScope s_detours_by) .none kV8 dc8 pm8 an8 cd8 ct8), sl8⟩) (c8 : PySem.W.codeIn K cd8 "detours_by" = true) (k8 : PySem.W.keepIn K (.ref f8) = true)
    (a9 : PySem.W.nsIn K mainGlobals "first_detour" = some (some (.ref f9))) (l9 : K.lookup f9 = some ⟨oc9, od9, .func (PySem.W.fnOf "first_detour" "first_detour" (defArgs s_first_detour) (defBody s_first_detour) (defScope s_first_detour) .none kV9 dc9 pm9 an9 cd9 ct9), sl9⟩) (c9 : PySem.W.codeIn K cd9 "first_detour" = true) (k9 : PySem.W.keepIn K (.ref f9) = true)
    (a10 : PySem.W.nsIn K mainGlobals "first_side" = some (some (.ref f10))) (l10 : K.lookup f10 = some ⟨oc10, od10, .func (PySem.W.fnOf "first_side" "first_side" (defArgs s_first_side) (defBody s_first_side) (defScope s_first_side) .none kV10 dc10 pm10 an10 cd10 ct10), sl10⟩) (c10 : PySem.W.codeIn K cd10 "first_side" = true) (k10 : PySem.W.keepIn K (.ref f10) = true)
    (a11 : PySem.W.nsIn K mainGlobals "decided" = some (some (.ref f11))) (l11 : K.lookup f11 = some ⟨oc11, od11, .func (PySem.W.fnOf "decided" "decided" (defArgs s_decided) (defBody s_decided) (defScope s_decided) .none kV11 dc11 pm11 an11 cd11 ct11), sl11⟩) (c11 : PySem.W.codeIn K cd11 "decided" = true) (k11 : PySem.W.keepIn K (.ref f11) = true)
    (a12 : PySem.W.nsIn K mainGlobals "find_side" = some (some (.ref f12))) (l12 : K.lookup f12 = some ⟨oc12, od12, .func (PySem.W.fnOf "find_side" "find_side" (defArgs s_find_side) (defBody s_find_side) (defScope s_find_side) .none kV12 dc12 pm12 an12 cd12 ct12), sl12⟩) (c12 : PySem.W.codeIn K cd12 "find_side" = true) (k12 : PySem.W.keepIn K (.ref f12) = true)
    (a13 : PySem.W.nsIn K mainGlobals "find_detour" = some (some (.ref f13))) (l13 : K.lookup f13 = some ⟨oc13, od13, .func (PySem.W.fnOf "find_detour" "find_detour" (defArgs s_find_detour) (defBody s_find_detour) (defScope s_find_detour) .none kV13 dc13 pm13 an13 cd13 ct13), sl13⟩) (c13 : PySem.W.codeIn K cd13 "find_detour" = true) (k13 : PySem.W.keepIn K (.ref f13) = true)
    (a14 : PySem.W.nsIn K mainGlobals "find_reason" = some (some (.ref f14))) (l14 : K.lookup f14 = some ⟨oc14, od14, .func (PySem.W.fnOf "find_reason" "find_reason" (defArgs s_find_reason) (defBody s_find_reason) (defScope s_find_reason) .none kV14 dc14 pm14 an14 cd14 ct14), sl14⟩) (c14 : PySem.W.codeIn K cd14 "find_reason" = true) (k14 : PySem.W.keepIn K (.ref f14) = true)
    (a15 : PySem.W.nsIn K mainGlobals "find_breach" = some (some (.ref f15))) (l15 : K.lookup f15 = some ⟨oc15, od15, .func (PySem.W.fnOf "find_breach" "find_breach" (defArgs s_find_breach) (defBody s_find_breach) (defScope s_find_breach) .none kV15 dc15 pm15 an15 cd15 ct15), sl15⟩) (c15 : PySem.W.codeIn K cd15 "find_breach" = true) (k15 : PySem.W.keepIn K (.ref f15) = true)
    (a16 : PySem.W.nsIn K mainGlobals "taken" = some (some (.ref f16))) (l16 : K.lookup f16 = some ⟨oc16, od16, .func (PySem.W.fnOf "taken" "taken" (defArgs s_taken) (defBody s_taken) (defScope s_taken) .none kV16 dc16 pm16 an16 cd16 ct16), sl16⟩) (c16 : PySem.W.codeIn K cd16 "taken" = true) (k16 : PySem.W.keepIn K (.ref f16) = true)
    (a17 : PySem.W.nsIn K mainGlobals "holds" = some (some (.ref f17))) (l17 : K.lookup f17 = some ⟨oc17, od17, .func (PySem.W.fnOf "holds" "holds" (defArgs s_holds) (defBody s_holds) (defScope s_holds) .none kV17 dc17 pm17 an17 cd17 ct17), sl17⟩) (c17 : PySem.W.codeIn K cd17 "holds" = true) (k17 : PySem.W.keepIn K (.ref f17) = true)
    (a18 : PySem.W.nsIn K mainGlobals "options" = some (some (.ref f18))) (l18 : K.lookup f18 = some ⟨oc18, od18, .func (PySem.W.fnOf "options" "options" (defArgs s_options) (defBody s_options) (defScope s_options) .none kV18 dc18 pm18 an18 cd18 ct18), sl18⟩) (c18 : PySem.W.codeIn K cd18 "options" = true) (k18 : PySem.W.keepIn K (.ref f18) = true)
    (a19 : PySem.W.nsIn K mainGlobals "find_against" = some (some (.ref f19))) (l19 : K.lookup f19 = some ⟨oc19, od19, .func (PySem.W.fnOf "find_against" "find_against" (defArgs s_find_against) (defBody s_find_against) (defScope s_find_against) .none kV19 dc19 pm19 an19 cd19 ct19), sl19⟩) (c19 : PySem.W.codeIn K cd19 "find_against" = true) (k19 : PySem.W.keepIn K (.ref f19) = true)
    (a20 : PySem.W.nsIn K mainGlobals "_law_open" = some (some (.ref f20))) (l20 : K.lookup f20 = some ⟨oc20, od20, .func (PySem.W.fnOf "_law_open" "_law_open" (defArgs s__law_open) (defBody s__law_open) (defScope s__law_open) .none kV20 dc20 pm20 an20 cd20 ct20), sl20⟩) (c20 : PySem.W.codeIn K cd20 "_law_open" = true) (k20 : PySem.W.keepIn K (.ref f20) = true)
    (a21 : PySem.W.nsIn K mainGlobals "_law_spread" = some (some (.ref f21))) (l21 : K.lookup f21 = some ⟨oc21, od21, .func (PySem.W.fnOf "_law_spread" "_law_spread" (defArgs s__law_spread) (defBody s__law_spread) (defScope s__law_spread) .none kV21 dc21 pm21 an21 cd21 ct21), sl21⟩) (c21 : PySem.W.codeIn K cd21 "_law_spread" = true) (k21 : PySem.W.keepIn K (.ref f21) = true)
    (a22 : PySem.W.nsIn K mainGlobals "_law_take" = some (some (.ref f22))) (l22 : K.lookup f22 = some ⟨oc22, od22, .func (PySem.W.fnOf "_law_take" "_law_take" (defArgs s__law_take) (defBody s__law_take) (defScope s__law_take) .none kV22 dc22 pm22 an22 cd22 ct22), sl22⟩) (c22 : PySem.W.codeIn K cd22 "_law_take" = true) (k22 : PySem.W.keepIn K (.ref f22) = true)
    (a23 : PySem.W.nsIn K mainGlobals "_law_same" = some (some (.ref f23))) (l23 : K.lookup f23 = some ⟨oc23, od23, .func (PySem.W.fnOf "_law_same" "_law_same" (defArgs s__law_same) (defBody s__law_same) (defScope s__law_same) .none kV23 dc23 pm23 an23 cd23 ct23), sl23⟩) (c23 : PySem.W.codeIn K cd23 "_law_same" = true) (k23 : PySem.W.keepIn K (.ref f23) = true)
    (a24 : PySem.W.nsIn K mainGlobals "_law_one_of" = some (some (.ref f24))) (l24 : K.lookup f24 = some ⟨oc24, od24, .func (PySem.W.fnOf "_law_one_of" "_law_one_of" (defArgs s__law_one_of) (defBody s__law_one_of) (defScope s__law_one_of) .none kV24 dc24 pm24 an24 cd24 ct24), sl24⟩) (c24 : PySem.W.codeIn K cd24 "_law_one_of" = true) (k24 : PySem.W.keepIn K (.ref f24) = true)
    (a25 : PySem.W.nsIn K mainGlobals "_law_is_integer" = some (some (.ref f25))) (l25 : K.lookup f25 = some ⟨oc25, od25, .func (PySem.W.fnOf "_law_is_integer" "_law_is_integer" (defArgs s__law_is_integer) (defBody s__law_is_integer) (defScope s__law_is_integer) .none kV25 dc25 pm25 an25 cd25 ct25), sl25⟩) (c25 : PySem.W.codeIn K cd25 "_law_is_integer" = true) (k25 : PySem.W.keepIn K (.ref f25) = true)
    (a26 : PySem.W.nsIn K mainGlobals "_law_draw_bounds" = some (some (.ref f26))) (l26 : K.lookup f26 = some ⟨oc26, od26, .func (PySem.W.fnOf "_law_draw_bounds" "_law_draw_bounds" (defArgs s__law_draw_bounds) (defBody s__law_draw_bounds) (defScope s__law_draw_bounds) .none kV26 dc26 pm26 an26 cd26 ct26), sl26⟩) (c26 : PySem.W.codeIn K cd26 "_law_draw_bounds" = true) (k26 : PySem.W.keepIn K (.ref f26) = true)
    (a27 : PySem.W.nsIn K mainGlobals "_law_draw_web" = some (some (.ref f27))) (l27 : K.lookup f27 = some ⟨oc27, od27, .func (PySem.W.fnOf "_law_draw_web" "_law_draw_web" (defArgs s__law_draw_web) (defBody s__law_draw_web) (defScope s__law_draw_web) .none kV27 dc27 pm27 an27 cd27 ct27), sl27⟩) (c27 : PySem.W.codeIn K cd27 "_law_draw_web" = true) (k27 : PySem.W.keepIn K (.ref f27) = true)
    (a28 : PySem.W.nsIn K mainGlobals "_law_fits" = some (some (.ref f28))) (l28 : K.lookup f28 = some ⟨oc28, od28, .func (PySem.W.fnOf "_law_fits" "_law_fits" (defArgs s__law_fits) (defBody s__law_fits) (defScope s__law_fits) .none kV28 dc28 pm28 an28 cd28 ct28), sl28⟩) (c28 : PySem.W.codeIn K cd28 "_law_fits" = true) (k28 : PySem.W.keepIn K (.ref f28) = true)
    (a29 : PySem.W.nsIn K mainGlobals "_law_reach" = some (some (.ref f29))) (l29 : K.lookup f29 = some ⟨oc29, od29, .func (PySem.W.fnOf "_law_reach" "_law_reach" (defArgs s__law_reach) (defBody s__law_reach) (defScope s__law_reach) .none kV29 dc29 pm29 an29 cd29 ct29), sl29⟩) (c29 : PySem.W.codeIn K cd29 "_law_reach" = true) (k29 : PySem.W.keepIn K (.ref f29) = true)
    (a30 : PySem.W.nsIn K mainGlobals "_law_is_apart" = some (some (.ref f30))) (l30 : K.lookup f30 = some ⟨oc30, od30, .func (PySem.W.fnOf "_law_is_apart" "_law_is_apart" (defArgs s__law_is_apart) (defBody s__law_is_apart) (defScope s__law_is_apart) .none kV30 dc30 pm30 an30 cd30 ct30), sl30⟩) (c30 : PySem.W.codeIn K cd30 "_law_is_apart" = true) (k30 : PySem.W.keepIn K (.ref f30) = true)
    (a31 : PySem.W.nsIn K mainGlobals "_law_least_total" = some (some (.ref f31))) (l31 : K.lookup f31 = some ⟨oc31, od31, .func (PySem.W.fnOf "_law_least_total" "_law_least_total" (defArgs s__law_least_total) (defBody s__law_least_total) (defScope s__law_least_total) .none kV31 dc31 pm31 an31 cd31 ct31), sl31⟩) (c31 : PySem.W.codeIn K cd31 "_law_least_total" = true) (k31 : PySem.W.keepIn K (.ref f31) = true)
    (a32 : PySem.W.nsIn K mainGlobals "_law_with" = some (some (.ref f32))) (l32 : K.lookup f32 = some ⟨oc32, od32, .func (PySem.W.fnOf "_law_with" "_law_with" (defArgs s__law_with) (defBody s__law_with) (defScope s__law_with) .none kV32 dc32 pm32 an32 cd32 ct32), sl32⟩) (c32 : PySem.W.codeIn K cd32 "_law_with" = true) (k32 : PySem.W.keepIn K (.ref f32) = true)
    (a33 : PySem.W.nsIn K mainGlobals "_law_holds" = some (some (.ref f33))) (l33 : K.lookup f33 = some ⟨oc33, od33, .func (PySem.W.fnOf "_law_holds" "_law_holds" (defArgs s__law_holds) (defBody s__law_holds) (defScope s__law_holds) .none kV33 dc33 pm33 an33 cd33 ct33), sl33⟩) (c33 : PySem.W.codeIn K cd33 "_law_holds" = true) (k33 : PySem.W.keepIn K (.ref f33) = true)
    (a34 : PySem.W.nsIn K mainGlobals "_law_serves" = some (some (.ref f34))) (l34 : K.lookup f34 = some ⟨oc34, od34, .func (PySem.W.fnOf "_law_serves" "_law_serves" (defArgs s__law_serves) (defBody s__law_serves) (defScope s__law_serves) .none kV34 dc34 pm34 an34 cd34 ct34), sl34⟩) (c34 : PySem.W.codeIn K cd34 "_law_serves" = true) (k34 : PySem.W.keepIn K (.ref f34) = true)
    (a35 : PySem.W.nsIn K mainGlobals "_law_draw_plan" = some (some (.ref f35))) (l35 : K.lookup f35 = some ⟨oc35, od35, .func (PySem.W.fnOf "_law_draw_plan" "_law_draw_plan" (defArgs s__law_draw_plan) (defBody s__law_draw_plan) (defScope s__law_draw_plan) .none kV35 dc35 pm35 an35 cd35 ct35), sl35⟩) (c35 : PySem.W.codeIn K cd35 "_law_draw_plan" = true) (k35 : PySem.W.keepIn K (.ref f35) = true)
    (a36 : PySem.W.nsIn K mainGlobals "_law_draw_near_fixed" = some (some (.ref f36))) (l36 : K.lookup f36 = some ⟨oc36, od36, .func (PySem.W.fnOf "_law_draw_near_fixed" "_law_draw_near_fixed" (defArgs s__law_draw_near_fixed) (defBody s__law_draw_near_fixed) (defScope s__law_draw_near_fixed) .none kV36 dc36 pm36 an36 cd36 ct36), sl36⟩) (c36 : PySem.W.codeIn K cd36 "_law_draw_near_fixed" = true) (k36 : PySem.W.keepIn K (.ref f36) = true)
    (a37 : PySem.W.nsIn K mainGlobals "_law_taken" = some (some (.ref f37))) (l37 : K.lookup f37 = some ⟨oc37, od37, .func (PySem.W.fnOf "_law_taken" "_law_taken" (defArgs s__law_taken) (defBody s__law_taken) (defScope s__law_taken) .none kV37 dc37 pm37 an37 cd37 ct37), sl37⟩) (c37 : PySem.W.codeIn K cd37 "_law_taken" = true) (k37 : PySem.W.keepIn K (.ref f37) = true)
    (a38 : PySem.W.nsIn K mainGlobals "law" = some (some (.ref f38))) (l38 : K.lookup f38 = some ⟨oc38, od38, .func (PySem.W.fnOf "law" "law" (defArgs s_law) (defBody s_law) (defScope s_law) .none kV38 dc38 pm38 an38 cd38 ct38), sl38⟩) (c38 : PySem.W.codeIn K cd38 "law" = true) (k38 : PySem.W.keepIn K (.ref f38) = true)
    (z_bool : PySem.W.nsIn K mainGlobals "bool" = some none)
    (z_enumerate : PySem.W.nsIn K mainGlobals "enumerate" = some none)
    (z_int : PySem.W.nsIn K mainGlobals "int" = some none)
    (z_isinstance : PySem.W.nsIn K mainGlobals "isinstance" = some none)
    (z_len : PySem.W.nsIn K mainGlobals "len" = some none)
    (z_list : PySem.W.nsIn K mainGlobals "list" = some none)
    (z_max : PySem.W.nsIn K mainGlobals "max" = some none)
    (z_min : PySem.W.nsIn K mainGlobals "min" = some none)
    (z_range : PySem.W.nsIn K mainGlobals "range" = some none)
    (z_repr : PySem.W.nsIn K mainGlobals "repr" = some none)
    (z_sorted : PySem.W.nsIn K mainGlobals "sorted" = some none)
    (z_str : PySem.W.nsIn K mainGlobals "str" = some none)
    (z_tuple : PySem.W.nsIn K mainGlobals "tuple" = some none)
    (z_zip : PySem.W.nsIn K mainGlobals "zip" = some none)
    (z_BUILD : PySem.W.nsIn K mainGlobals "BUILD" = some (some (.str "build" ct_BUILD)))
    (z_DROP : PySem.W.nsIn K mainGlobals "DROP" = some (some (.str "drop" ct_DROP))) :
    ∃ fd : FuncData, (∀ (s : Shared) (v : Value), BindsTo s fd ⟨[v], []⟩ [("script", v)]) ∧ ∀ base : Heap, FnG l.prog w K mg base CX0 18 fa fd ["script"] (spF K 1 m_law) := by
  have e := hfa.symm.trans (PySem.W.mg_of X G a38)
  cases e
  exact ⟨PySem.W.fnOf "law" "law" (defArgs s_law) (defBody s_law) (defScope s_law) .none kV38 dc38 pm38 an38 cd38 ct38, fun s v => .of_eq rfl, fun base => ok_law (T :=
    { f_reached := f0, fd_reached := _, F_reached := fun_mk (st := s_reached) l0 c0 k0, b_reached := (fun_mk (st := s_reached) l0 c0 k0).binds fun _ _ _ _ _ _ us hl => match us, hl with | [_, _], _ => rfl, g_reached := PySem.W.mg_of X G a0,
      f_low_of := f1, fd_low_of := _, F_low_of := fun_mk (st := s_low_of) l1 c1 k1, b_low_of := (fun_mk (st := s_low_of) l1 c1 k1).binds fun _ _ _ _ _ _ us hl => match us, hl with | [_, _], _ => rfl, g_low_of := PySem.W.mg_of X G a1,
      f_high_of := f2, fd_high_of := _, F_high_of := fun_mk (st := s_high_of) l2 c2 k2, b_high_of := (fun_mk (st := s_high_of) l2 c2 k2).binds fun _ _ _ _ _ _ us hl => match us, hl with | [_, _], _ => rfl, g_high_of := PySem.W.mg_of X G a2,
      f_raised := f3, fd_raised := _, F_raised := fun_mk (st := s_raised) l3 c3 k3, b_raised := (fun_mk (st := s_raised) l3 c3 k3).binds fun _ _ _ _ _ _ us hl => match us, hl with | [_, _], _ => rfl, g_raised := PySem.W.mg_of X G a3,
      f_other_roads := f4, fd_other_roads := _, F_other_roads := fun_mk (st := s_other_roads) l4 c4 k4, b_other_roads := (fun_mk (st := s_other_roads) l4 c4 k4).binds fun _ _ _ _ _ _ us hl => match us, hl with | [_, _], _ => rfl, g_other_roads := PySem.W.mg_of X G a4,
      f_ends_of := f5, fd_ends_of := _, F_ends_of := fun_mk (st := s_ends_of) l5 c5 k5, b_ends_of := (fun_mk (st := s_ends_of) l5 c5 k5).binds fun _ _ _ _ _ _ us hl => match us, hl with | [_, _], _ => rfl, g_ends_of := PySem.W.mg_of X G a5,
      f_beyond := f6, fd_beyond := _, F_beyond := fun_mk (st := s_beyond) l6 c6 k6, b_beyond := (fun_mk (st := s_beyond) l6 c6 k6).binds fun _ _ _ _ _ _ us hl => match us, hl with | [_, _, _], _ => rfl, g_beyond := PySem.W.mg_of X G a6,
      f_ways_on := f7, fd_ways_on := _, F_ways_on := fun_mk (st := s_ways_on) l7 c7 k7, b_ways_on := (fun_mk (st := s_ways_on) l7 c7 k7).binds fun _ _ _ _ _ _ us hl => match us, hl with | [_, _, _, _, _], _ => rfl, g_ways_on := PySem.W.mg_of X G a7,
      f_detours_by := f8, fd_detours_by := _, F_detours_by := fun_mk (st := s_detours_by) l8 c8 k8, b_detours_by := (fun_mk (st := s_detours_by) l8 c8 k8).binds fun _ _ _ _ _ _ us hl => match us, hl with | [_, _, _], _ => rfl, g_detours_by := PySem.W.mg_of X G a8,
      f_first_detour := f9, fd_first_detour := _, F_first_detour := fun_mk (st := s_first_detour) l9 c9 k9, b_first_detour := (fun_mk (st := s_first_detour) l9 c9 k9).binds fun _ _ _ _ _ _ us hl => match us, hl with | [_, _, _], _ => rfl, g_first_detour := PySem.W.mg_of X G a9,
      f_first_side := f10, fd_first_side := _, F_first_side := fun_mk (st := s_first_side) l10 c10 k10, b_first_side := (fun_mk (st := s_first_side) l10 c10 k10).binds fun _ _ _ _ _ _ us hl => match us, hl with | [_, _, _], _ => rfl, g_first_side := PySem.W.mg_of X G a10,
      f_decided := f11, fd_decided := _, F_decided := fun_mk (st := s_decided) l11 c11 k11, b_decided := (fun_mk (st := s_decided) l11 c11 k11).binds fun _ _ _ _ _ _ us hl => match us, hl with | [_], _ => rfl, g_decided := PySem.W.mg_of X G a11,
      f_find_side := f12, fd_find_side := _, F_find_side := fun_mk (st := s_find_side) l12 c12 k12, b_find_side := (fun_mk (st := s_find_side) l12 c12 k12).binds fun _ _ _ _ _ _ us hl => match us, hl with | [_, _, _], _ => rfl, g_find_side := PySem.W.mg_of X G a12,
      f_find_detour := f13, fd_find_detour := _, F_find_detour := fun_mk (st := s_find_detour) l13 c13 k13, b_find_detour := (fun_mk (st := s_find_detour) l13 c13 k13).binds fun _ _ _ _ _ _ us hl => match us, hl with | [_, _, _], _ => rfl, g_find_detour := PySem.W.mg_of X G a13,
      f_find_reason := f14, fd_find_reason := _, F_find_reason := fun_mk (st := s_find_reason) l14 c14 k14, b_find_reason := (fun_mk (st := s_find_reason) l14 c14 k14).binds fun _ _ _ _ _ _ us hl => match us, hl with | [_, _, _], _ => rfl, g_find_reason := PySem.W.mg_of X G a14,
      f_find_breach := f15, fd_find_breach := _, F_find_breach := fun_mk (st := s_find_breach) l15 c15 k15, b_find_breach := (fun_mk (st := s_find_breach) l15 c15 k15).binds fun _ _ _ _ _ _ us hl => match us, hl with | [_, _], _ => rfl, g_find_breach := PySem.W.mg_of X G a15,
      f_taken := f16, fd_taken := _, F_taken := fun_mk (st := s_taken) l16 c16 k16, b_taken := (fun_mk (st := s_taken) l16 c16 k16).binds fun _ _ _ _ _ _ us hl => match us, hl with | [_, _], _ => rfl, g_taken := PySem.W.mg_of X G a16,
      f_holds := f17, fd_holds := _, F_holds := fun_mk (st := s_holds) l17 c17 k17, b_holds := (fun_mk (st := s_holds) l17 c17 k17).binds fun _ _ _ _ _ _ us hl => match us, hl with | [_, _], _ => rfl, g_holds := PySem.W.mg_of X G a17,
      f_options := f18, fd_options := _, F_options := fun_mk (st := s_options) l18 c18 k18, b_options := (fun_mk (st := s_options) l18 c18 k18).binds fun _ _ _ _ _ _ us hl => match us, hl with | [_, _], _ => rfl, g_options := PySem.W.mg_of X G a18,
      f_find_against := f19, fd_find_against := _, F_find_against := fun_mk (st := s_find_against) l19 c19 k19, b_find_against := (fun_mk (st := s_find_against) l19 c19 k19).binds fun _ _ _ _ _ _ us hl => match us, hl with | [_, _, _], _ => rfl, g_find_against := PySem.W.mg_of X G a19,
      f__law_open := f20, fd__law_open := _, F__law_open := fun_mk (st := s__law_open) l20 c20 k20, b__law_open := (fun_mk (st := s__law_open) l20 c20 k20).binds fun _ _ _ _ _ _ us hl => match us, hl with | [_], _ => rfl, g__law_open := PySem.W.mg_of X G a20,
      f__law_spread := f21, fd__law_spread := _, F__law_spread := fun_mk (st := s__law_spread) l21 c21 k21, b__law_spread := (fun_mk (st := s__law_spread) l21 c21 k21).binds fun _ _ _ _ _ _ us hl => match us, hl with | [_, _], _ => rfl, g__law_spread := PySem.W.mg_of X G a21,
      f__law_take := f22, fd__law_take := _, F__law_take := fun_mk (st := s__law_take) l22 c22 k22, b__law_take := (fun_mk (st := s__law_take) l22 c22 k22).binds fun _ _ _ _ _ _ us hl => match us, hl with | [_, _], _ => rfl, g__law_take := PySem.W.mg_of X G a22,
      f__law_same := f23, fd__law_same := _, F__law_same := fun_mk (st := s__law_same) l23 c23 k23, b__law_same := (fun_mk (st := s__law_same) l23 c23 k23).binds fun _ _ _ _ _ _ us hl => match us, hl with | [_, _], _ => rfl, g__law_same := PySem.W.mg_of X G a23,
      f__law_one_of := f24, fd__law_one_of := _, F__law_one_of := fun_mk (st := s__law_one_of) l24 c24 k24, b__law_one_of := (fun_mk (st := s__law_one_of) l24 c24 k24).binds fun _ _ _ _ _ _ us hl => match us, hl with | [_, _], _ => rfl, g__law_one_of := PySem.W.mg_of X G a24,
      f__law_is_integer := f25, fd__law_is_integer := _, F__law_is_integer := fun_mk (st := s__law_is_integer) l25 c25 k25, b__law_is_integer := (fun_mk (st := s__law_is_integer) l25 c25 k25).binds fun _ _ _ _ _ _ us hl => match us, hl with | [_], _ => rfl, g__law_is_integer := PySem.W.mg_of X G a25,
      f__law_draw_bounds := f26, fd__law_draw_bounds := _, F__law_draw_bounds := fun_mk (st := s__law_draw_bounds) l26 c26 k26, b__law_draw_bounds := (fun_mk (st := s__law_draw_bounds) l26 c26 k26).binds fun _ _ _ _ _ _ us hl => match us, hl with | [_], _ => rfl, g__law_draw_bounds := PySem.W.mg_of X G a26,
      f__law_draw_web := f27, fd__law_draw_web := _, F__law_draw_web := fun_mk (st := s__law_draw_web) l27 c27 k27, b__law_draw_web := (fun_mk (st := s__law_draw_web) l27 c27 k27).binds fun _ _ _ _ _ _ us hl => match us, hl with | [_, _, _], _ => rfl, g__law_draw_web := PySem.W.mg_of X G a27,
      f__law_fits := f28, fd__law_fits := _, F__law_fits := fun_mk (st := s__law_fits) l28 c28 k28, b__law_fits := (fun_mk (st := s__law_fits) l28 c28 k28).binds fun _ _ _ _ _ _ us hl => match us, hl with | [_, _], _ => rfl, g__law_fits := PySem.W.mg_of X G a28,
      f__law_reach := f29, fd__law_reach := _, F__law_reach := fun_mk (st := s__law_reach) l29 c29 k29, b__law_reach := (fun_mk (st := s__law_reach) l29 c29 k29).binds fun _ _ _ _ _ _ us hl => match us, hl with | [_, _, _], _ => rfl, g__law_reach := PySem.W.mg_of X G a29,
      f__law_is_apart := f30, fd__law_is_apart := _, F__law_is_apart := fun_mk (st := s__law_is_apart) l30 c30 k30, b__law_is_apart := (fun_mk (st := s__law_is_apart) l30 c30 k30).binds fun _ _ _ _ _ _ us hl => match us, hl with | [_, _, _], _ => rfl, g__law_is_apart := PySem.W.mg_of X G a30,
      f__law_least_total := f31, fd__law_least_total := _, F__law_least_total := fun_mk (st := s__law_least_total) l31 c31 k31, b__law_least_total := (fun_mk (st := s__law_least_total) l31 c31 k31).binds fun _ _ _ _ _ _ us hl => match us, hl with | [_, _], _ => rfl, g__law_least_total := PySem.W.mg_of X G a31,
      f__law_with := f32, fd__law_with := _, F__law_with := fun_mk (st := s__law_with) l32 c32 k32, b__law_with := (fun_mk (st := s__law_with) l32 c32 k32).binds fun _ _ _ _ _ _ us hl => match us, hl with | [_, _, _, _], _ => rfl, g__law_with := PySem.W.mg_of X G a32,
      f__law_holds := f33, fd__law_holds := _, F__law_holds := fun_mk (st := s__law_holds) l33 c33 k33, b__law_holds := (fun_mk (st := s__law_holds) l33 c33 k33).binds fun _ _ _ _ _ _ us hl => match us, hl with | [_, _], _ => rfl, g__law_holds := PySem.W.mg_of X G a33,
      f__law_serves := f34, fd__law_serves := _, F__law_serves := fun_mk (st := s__law_serves) l34 c34 k34, b__law_serves := (fun_mk (st := s__law_serves) l34 c34 k34).binds fun _ _ _ _ _ _ us hl => match us, hl with | [_, _, _], _ => rfl, g__law_serves := PySem.W.mg_of X G a34,
      f__law_draw_plan := f35, fd__law_draw_plan := _, F__law_draw_plan := fun_mk (st := s__law_draw_plan) l35 c35 k35, b__law_draw_plan := (fun_mk (st := s__law_draw_plan) l35 c35 k35).binds fun _ _ _ _ _ _ us hl => match us, hl with | [_, _, _], _ => rfl, g__law_draw_plan := PySem.W.mg_of X G a35,
      f__law_draw_near_fixed := f36, fd__law_draw_near_fixed := _, F__law_draw_near_fixed := fun_mk (st := s__law_draw_near_fixed) l36 c36 k36, b__law_draw_near_fixed := (fun_mk (st := s__law_draw_near_fixed) l36 c36 k36).binds fun _ _ _ _ _ _ us hl => match us, hl with | [_, _, _], _ => rfl, g__law_draw_near_fixed := PySem.W.mg_of X G a36,
      f__law_taken := f37, fd__law_taken := _, F__law_taken := fun_mk (st := s__law_taken) l37 c37 k37, b__law_taken := (fun_mk (st := s__law_taken) l37 c37 k37).binds fun _ _ _ _ _ _ us hl => match us, hl with | [_, _, _], _ => rfl, g__law_taken := PySem.W.mg_of X G a37,
      f_law := fa, fd_law := _, F_law := fun_mk (st := s_law) l38 c38 k38, b_law := (fun_mk (st := s_law) l38 c38 k38).binds fun _ _ _ _ _ _ us hl => match us, hl with | [_], _ => rfl, g_law := PySem.W.mg_of X G a38,
      n_bool := PySem.W.mg_none_of X G z_bool,
      n_enumerate := PySem.W.mg_none_of X G z_enumerate,
      n_int := PySem.W.mg_none_of X G z_int,
      n_isinstance := PySem.W.mg_none_of X G z_isinstance,
      n_len := PySem.W.mg_none_of X G z_len,
      n_list := PySem.W.mg_none_of X G z_list,
      n_max := PySem.W.mg_none_of X G z_max,
      n_min := PySem.W.mg_none_of X G z_min,
      n_range := PySem.W.mg_none_of X G z_range,
      n_repr := PySem.W.mg_none_of X G z_repr,
      n_sorted := PySem.W.mg_none_of X G z_sorted,
      n_str := PySem.W.mg_none_of X G z_str,
      n_tuple := PySem.W.mg_none_of X G z_tuple,
      n_zip := PySem.W.mg_none_of X G z_zip,
      ct_BUILD := ct_BUILD, c_BUILD := PySem.W.mg_of X G z_BUILD,
      ct_DROP := ct_DROP, c_DROP := PySem.W.mg_of X G z_DROP })⟩
end G

namespace Pv
inductive Ctl (σ R : Type) where
  | nx (v : σ) | bk (v : σ) | rt (r : R)
section
variable {α β σ R τ : Type}
def forP (b : α → σ → Option σ) : List α → σ → Option σ
  | [], v => some v
  | x :: xs, v => (b x v).bind fun w => forP b xs w
def forC (b : α → σ → Option (Ctl σ R)) : List α → σ → Option (R ⊕ σ)
  | [], v => some (.inr v)
  | x :: xs, v => (b x v).bind fun c => match c with
    | .nx w => forC b xs w
    | .bk w => some (.inr w)
    | .rt r => some (.inl r)
/-- how it goes on behind a loop with ways out -/
def contC {γ : Type} (f : R → Option γ) (g : σ → Option γ) : R ⊕ σ → Option γ
  | .inl r => f r
  | .inr w => g w
@[simp] theorem contC_l {γ : Type} (f : R → Option γ) (g : σ → Option γ) (r : R) : contC f g (.inl r) = f r := rfl
@[simp] theorem contC_r {γ : Type} (f : R → Option γ) (g : σ → Option γ) (w : σ) : contC f g (.inr w) = g w := rfl
def whP (c : σ → Option Bool) (b : σ → Option σ) : Nat → σ → Option σ
  | 0, _ => none
  | n + 1, v => (c v).bind fun t => if t = true then (b v).bind fun w => whP c b n w else some v
def whC (c : σ → Option Bool) (b : σ → Option (Ctl σ R)) : Nat → σ → Option (R ⊕ σ)
  | 0, _ => none
  | n + 1, v => (c v).bind fun t => if t = true then (b v).bind fun k => match k with
      | .nx w => whC c b n w
      | .bk w => some (.inr w)
      | .rt r => some (.inl r)
    else some (.inr v)
def lcT (c : α → Bool) (e : α → β) (xs : List α) : Option (List β) := if xs.length ≤ 1000000 then some ((xs.filter c).map e) else none
def lcG (c : α → Option Bool) (e : α → Option β) : List α → Option (List β)
  | [] => some []
  | x :: xs => (c x).bind fun b => if b = true then (e x).bind fun y => (lcG c e xs).map fun ys => y :: ys else lcG c e xs
def lcP (c : α → Option Bool) (e : α → Option β) (xs : List α) : Option (List β) := if xs.length ≤ 1000000 then lcG c e xs else none
def lcH (c : α → τ → Option (Bool × τ)) (e : α → τ → Option (β × τ)) : List α → τ → Option (List β × τ)
  | [], t => some ([], t)
  | x :: xs, t => (c x t).bind fun b => if b.1 = true then (e x b.2).bind fun y => (lcH c e xs y.2).map fun ys => (y.1 :: ys.1, ys.2) else lcH c e xs b.2
def lcS (c : α → τ → Option (Bool × τ)) (e : α → τ → Option (β × τ)) (xs : List α) (t : τ) : Option (List β × τ) := if xs.length ≤ 1000000 then lcH c e xs t else none
def addP (a b : List α) : Option (List α) := if a.length + b.length ≤ 1000000 then some (a ++ b) else none
def appP (a : List α) (x : α) : Option (List α) := if a.length < 1000000 then some (a ++ [x]) else none
def insP (a : List α) (i : Nat) (x : α) : Option (List α) := if a.length < 1000000 ∧ i < 1000000 then some (a.take i ++ [x] ++ a.drop i) else none
def popP (a : List α) : Option (α × List α) := a[a.length - 1]?.map fun x => (x, a.dropLast)
def rngP (n : Nat) : Option (List Nat) := if n ≤ 1000000 then some (List.range n) else none
def rng2P (a b : Nat) : Option (List Nat) := if a ≤ 1000000 ∧ b ≤ 1000000 then some (List.range' a (b - a)) else none
/-- pairs with their numbers -/
def numd (xs : List α) : List (Nat × α) := (List.range xs.length).zip xs
def natP (i : Int) : Option Nat := if 0 ≤ i then some i.toNat else none
def setP (a : List α) (i : Nat) (x : α) : Option (List α) := if i < a.length then some (a.set i x) else none
theorem bs {o : Option α} {f : α → Option β} {b : β} : o.bind f = some b → ∃ a, o = some a ∧ f a = some b := by
  cases o with
  | none => intro h; cases h
  | some a => intro h; exact ⟨a, rfl, h⟩
theorem ite_t {b : Bool} {x y : Option α} {r : α} (h : b = true) (hp : (if b = true then x else y) = some r) : x = some r := by rwa [if_pos h] at hp
theorem ite_f {b : Bool} {x y : Option α} {r : α} (h : b = false) (hp : (if b = true then x else y) = some r) : y = some r := by rwa [if_neg (by simp [h])] at hp
theorem lcG_T {c : α → Bool} {e : α → β} : ∀ xs : List α, lcG (fun x => some (c x)) (fun x => some (e x)) xs = some ((xs.filter c).map e)
  | [] => rfl
  | x :: xs => by
    unfold lcG
    cases h : c x with
    | true => simp [h, lcG_T xs]
    | false => simp [h, lcG_T xs]
theorem lcT_P {c : α → Bool} {e : α → β} (xs : List α) : lcP (fun x => some (c x)) (fun x => some (e x)) xs = lcT c e xs := by
  unfold lcP lcT; rw [lcG_T]
end
end Pv

namespace Pv
open PySem PySem.Spec L2
def lC {α : Type} (f : α → D) (xs : List α) : D := .lst (xs.map f)
def tC {α : Type} (f : α → D) (xs : List α) : D := .tup (xs.map f)
def oC {α : Type} (f : α → D) : Option α → D
  | some a => f a
  | none => .non
def p1 {α : Type} (f : α → D) (x : α) : D := .tup [f x]
def p2 {α β : Type} (f : α → D) (g : β → D) (x : α × β) : D := .tup [f x.1, g x.2]
def p3 {α β γ : Type} (f : α → D) (g : β → D) (h : γ → D) (x : α × β × γ) : D := .tup [f x.1, g x.2.1, h x.2.2]
def p4 {α β γ δ : Type} (f : α → D) (g : β → D) (h : γ → D) (k : δ → D) (x : α × β × γ × δ) : D := .tup [f x.1, g x.2.1, h x.2.2.1, k x.2.2.2]
def p5 {α β γ δ ε : Type} (f : α → D) (g : β → D) (h : γ → D) (k : δ → D) (l : ε → D) (x : α × β × γ × δ × ε) : D := .tup [f x.1, g x.2.1, h x.2.2.1, k x.2.2.2.1, l x.2.2.2.2]
def h2 {α β : Type} (f : α → D) (g : β → D) (x : α × β) : D := .lst [f x.1, g x.2]
def h3 {α β γ : Type} (f : α → D) (g : β → D) (h : γ → D) (x : α × β × γ) : D := .lst [f x.1, g x.2.1, h x.2.2]
def uC (_ : Unit) : D := .non
/-- any value -/
def rw (d : D) : D := match d with
  | .hd _ => .non
  | d => d
class Nh (d : D) : Prop where
  nh : ∀ s, deref s d = d
instance (i : Int) : Nh (.int i) := ⟨fun _ => rfl⟩
instance (i : Bool) : Nh (.bl i) := ⟨fun _ => rfl⟩
instance (i : Str) : Nh (.str i) := ⟨fun _ => rfl⟩
instance (i : List D) : Nh (.tup i) := ⟨fun _ => rfl⟩
instance (i : List D) : Nh (.lst i) := ⟨fun _ => rfl⟩
instance (t : Bool) (i : List (D × D)) : Nh (.dct t i) := ⟨fun _ => rfl⟩
instance : Nh .non := ⟨fun _ => rfl⟩
instance (i : List Int) : Nh (.scr i) := ⟨fun _ => rfl⟩
instance (i : Nat) : Nh (nD i) := ⟨fun _ => rfl⟩
instance (i : Unit) : Nh (uC i) := ⟨fun _ => rfl⟩
instance {α : Type} (f : α → D) (x : List α) : Nh (lC f x) := ⟨fun _ => rfl⟩
instance {α : Type} (f : α → D) (x : List α) : Nh (tC f x) := ⟨fun _ => rfl⟩
instance {α : Type} (f : α → D) (x : Option α) [h : ∀ a, Nh (f a)] : Nh (oC f x) := ⟨fun s => by cases x with
  | none => rfl
  | some a => exact (h a).nh s⟩
instance {α : Type} (f : α → D) (x) : Nh (p1 f x) := ⟨fun _ => rfl⟩
instance {α β : Type} (f : α → D) (g : β → D) (x) : Nh (p2 f g x) := ⟨fun _ => rfl⟩
instance {α β γ : Type} (f : α → D) (g : β → D) (h : γ → D) (x) : Nh (p3 f g h x) := ⟨fun _ => rfl⟩
instance {α β γ δ : Type} (f : α → D) (g : β → D) (h : γ → D) (k : δ → D) (x) : Nh (p4 f g h k x) := ⟨fun _ => rfl⟩
instance {α β γ δ ε : Type} (f : α → D) (g : β → D) (h : γ → D) (k : δ → D) (l : ε → D) (x) : Nh (p5 f g h k l x) := ⟨fun _ => rfl⟩
instance {α β : Type} (f : α → D) (g : β → D) (x) : Nh (h2 f g x) := ⟨fun _ => rfl⟩
instance {α β γ : Type} (f : α → D) (g : β → D) (h : γ → D) (x) : Nh (h3 f g h x) := ⟨fun _ => rfl⟩
instance (w : Web) : Nh (webD w) := ⟨fun _ => rfl⟩
instance (w : Rd) : Nh (rdD w) := ⟨fun _ => rfl⟩
instance (d : D) : Nh (rw d) := ⟨fun s => by cases d <;> rfl⟩
def Slot.dd : Slot → Option D
  | .non => none
  | .fro d => some d
  | .own d => some d
def Has (s : Sg) (i : Nat) (d : D) : Prop := (s.env[i]?).bind Slot.dd = some d
def Keep (s s' : Sg) : Prop := ∀ i d, Has s i d → Has s' i d
theorem Keep.refl (s : Sg) : Keep s s := fun _ _ h => h
theorem Keep.trans {a b c : Sg} (h : Keep a b) (k : Keep b c) : Keep a c := fun i d x => k i d (h i d x)
structure E (ev : Ev RV) (s : Sg) (rv : RV) (s' : Sg) : Prop where
  eq : ev s = some (rv, s')
  kp : Keep s s'
structure O (ev : Ev Bor) (s : Sg) (d : D) (s' : Sg) : Prop where
  ex : ∃ b, ev s = some (b, s') ∧ ∀ s2, Keep s' s2 → fetch s2 b = some d
  kp : Keep s s'
structure A (ev : Ev (List D)) (s : Sg) (ds : List D) (s' : Sg) : Prop where
  eq : ev s = some (ds, s')
  kp : Keep s s'
structure L (ev : Ev (List Bor)) (s : Sg) (ds : List D) (s' : Sg) : Prop where
  ex : ∃ b, ev s = some (b, s') ∧ ∀ s2, Keep s' s2 → fetchAll s2 b = some ds
  kp : Keep s s'
structure B (ev : Ev Bool) (s : Sg) (b : Bool) (s' : Sg) : Prop where
  eq : ev s = some (b, s')
  kp : Keep s s'
structure P (ev : Ev (Option Int)) (s : Sg) (b : Option Int) (s' : Sg) : Prop where
  eq : ev s = some (b, s')
  kp : Keep s s'
structure I (ev : Ev (List D)) (s : Sg) (ds : List D) (s' : Sg) : Prop where
  eq : ev s = some (ds, s')
  kp : Keep s s'
section
variable {s s1 s2 s3 s4 s' : Sg} {d da db dc : D} {i : Nat} {rv r : RV}
theorem E_name (h : s.env[i]? = some (.fro d)) : E (evName i) s (.fro d) s := ⟨by unfold evName; rw [h], Keep.refl s⟩
theorem E_nameO (h : s.env[i]? = some (.own d)) (h' : (⟨s.env.set i (.fro d), s.st⟩ : Sg) = s') : E (evName i) s (.fro d) s' := ⟨by unfold evName; rw [h, ← h'], fun j x hx => by
  subst h'
  unfold Has at hx ⊢
  by_cases hj : i = j
  · subst hj
    rw [h] at hx
    obtain ⟨hl, _⟩ := List.getElem?_eq_some_iff.mp h
    rw [List.getElem?_set_self hl]
    exact hx
  · rw [List.getElem?_set_ne hj]; exact hx⟩
/-- own, or frozen -/
def eiS (b : Bool) (d : D) : Slot := match b with
  | true => .own d
  | false => .fro d
theorem E_nameE {b : Bool} (h : s.env[i]? = some (eiS b d)) (h' : (⟨s.env.set i (.fro d), s.st⟩ : Sg) = s') : E (evName i) s (.fro d) s' := by
  cases b with
  | true => exact E_nameO h h'
  | false =>
    have h : s.env[i]? = some (.fro d) := h
    have : s.env.set i (.fro d) = s.env := by
      obtain ⟨hl, e⟩ := List.getElem?_eq_some_iff.mp h
      rw [← e]; exact List.set_getElem_self _
    rw [this] at h'
    subst h'
    exact E_name h
theorem E_c : E (evC d) s (.fro d) s := ⟨rfl, Keep.refl s⟩
theorem E_n (n : Nat) {i : Int} (h : (n : Int) = i) : E (evC (.int i)) s (.fro (nD n)) s := by subst h; exact ⟨rfl, Keep.refl s⟩
theorem fetch_has (h : Has s i d) [n : Nh d] : fetch s (.slot i) = some d := by
  unfold Has at h
  show (match s.env[i]? with
    | some (.fro d) => some (deref s d)
    | some (.own d) => some d
    | _ => none) = some d
  cases e : s.env[i]? with
  | none => rw [e] at h; cases h
  | some sl =>
    rw [e] at h
    cases sl with
    | non => cases h
    | fro x => cases h; exact congrArg some (n.nh s)
    | own x => cases h; rfl
theorem O_slot (h : Has s i d) [Nh d] : O (evSlot i) s d s := ⟨⟨.slot i, by
  unfold Has at h
  unfold evSlot
  cases e : s.env[i]? with
  | none => rw [e] at h; cases h
  | some sl =>
    rw [e] at h
    cases sl with
    | non => cases h
    | fro x => rfl
    | own x => rfl, fun s2 k => fetch_has (k i d h)⟩, Keep.refl s⟩
theorem O_slotE {b : Bool} (h : s.env[i]? = some (eiS b d)) [Nh d] : O (evSlot i) s d s := O_slot (by unfold Has; rw [h]; cases b <;> rfl)
theorem O_v {ev : Ev RV} (h : E ev s rv s') (e : rv.d = d) [n : Nh d] : O (evV ev) s d s' := ⟨⟨.val d, by rw [evV_ap, h.eq]; cases rv <;> (cases e; rfl), fun s2 _ => congrArg some (n.nh s2)⟩, h.kp⟩
theorem O_vf {ev : Ev RV} (h : E ev s (.fro d) s') [n : Nh d] : O (evV ev) s d s' := O_v h rfl
theorem O_vo {ev : Ev RV} (h : E ev s (.own d) s') [n : Nh d] : O (evV ev) s d s' := O_v h rfl
theorem E_2 {f : Op2} {a b : Ev Bor} (ha : O a s da s1) (hb : O b s1 db s2) (hf : f da db = some r) : E (ev2 f a b) s r s2 := by
  obtain ⟨x, e1, f1⟩ := ha.ex
  obtain ⟨y, e2, f2⟩ := hb.ex
  refine ⟨?_, ha.kp.trans hb.kp⟩
  unfold ev2
  rw [e1, Option.bind_some, e2, Option.bind_some, f1 s2 hb.kp, Option.bind_some, f2 s2 (Keep.refl _), Option.bind_some, hf]
  rfl
theorem A_nil : A evNil s [] s := ⟨rfl, Keep.refl s⟩
theorem A_cons {e : Ev RV} {es : Ev (List D)} {ds : List D} (h : E e s rv s1) (hs : A es s1 ds s2) : A (evCons e es) s (rv.d :: ds) s2 := ⟨by
  simp [h.eq, hs.eq], h.kp.trans hs.kp⟩
theorem A_f {e : Ev RV} {es : Ev (List D)} {ds : List D} (h : E e s (.fro d) s1) (hs : A es s1 ds s2) : A (evCons e es) s (d :: ds) s2 := A_cons h hs
theorem A_o {e : Ev RV} {es : Ev (List D)} {ds : List D} (h : E e s (.own d) s1) (hs : A es s1 ds s2) : A (evCons e es) s (d :: ds) s2 := A_cons h hs
theorem A_v {e : Ev RV} {es : Ev (List D)} {ds : List D} (h : E e s rv s1) (q : rv.d = d) (hs : A es s1 ds s2) : A (evCons e es) s (d :: ds) s2 := q ▸ A_cons h hs
theorem L_nil : L evNilB s [] s := ⟨⟨[], rfl, fun _ _ => rfl⟩, Keep.refl s⟩
theorem L_cons {e : Ev Bor} {es : Ev (List Bor)} {ds : List D} (h : O e s d s1) (hs : L es s1 ds s2) : L (evConsB e es) s (d :: ds) s2 := by
  obtain ⟨x, e1, f1⟩ := h.ex
  obtain ⟨y, e2, f2⟩ := hs.ex
  refine ⟨⟨x :: y, by simp [e1, e2], fun s3 k => ?_⟩, h.kp.trans hs.kp⟩
  unfold fetchAll
  rw [f1 s3 (hs.kp.trans k), Option.bind_some, f2 s3 k]
  rfl
theorem E_N {f : OpN} {a : Ev (List Bor)} {ds : List D} (h : L a s ds s1) (hf : f ds = some r) : E (evN f a) s r s1 := by
  obtain ⟨x, e1, f1⟩ := h.ex
  refine ⟨?_, h.kp⟩
  unfold evN
  rw [e1, Option.bind_some, f1 s1 (Keep.refl _), Option.bind_some, hf]
  rfl
theorem E_tup {a : Ev (List D)} {ds : List D} (h : A a s ds s1) (hl : Nat.ble ds.length 1000 = true) : E (evTup a) s (.fro (.tup ds)) s1 := ⟨by
  unfold evTup; rw [h.eq, Option.bind_some, if_pos (Nat.le_of_ble_eq_true hl)], h.kp⟩
theorem E_lst {a : Ev (List D)} {ds : List D} (h : A a s ds s1) (hl : Nat.ble ds.length 1000 = true) : E (evLst a) s (.own (.lst ds)) s1 := ⟨by
  unfold evLst; rw [h.eq, Option.bind_some, if_pos (Nat.le_of_ble_eq_true hl)], h.kp⟩
theorem E_call {m : Fm} {a : Ev (List D)} {ds : List D} (h : A a s ds s1) (hm : m ds s1.st = some (r, s1.st)) : E (evCall m a) s r s1 := ⟨by
  unfold evCall; rw [h.eq, Option.bind_some, hm]; rfl, h.kp⟩
theorem E_callS {m : Fm} {a : Ev (List D)} {ds : List D} {st : List Cell} (h : A a s ds s1) (hm : m ds s1.st = some (r, st)) (hs : (⟨s1.env, st⟩ : Sg) = s') : E (evCall m a) s r s' := ⟨by
  unfold evCall; rw [h.eq, Option.bind_some, hm]; exact congrArg (fun z => some (r, z)) hs, fun i d x => by subst hs; exact h.kp i d x⟩
theorem E_opt {α : Type} {f : α → D} {e : Ev RV} {v : Option α} {y : α} (q : v = some y) (h : E e s (.fro (oC f v)) s') : E e s (.fro (f y)) s' := by subst q; exact h
theorem O_opt {α : Type} {f : α → D} {e : Ev Bor} {v : Option α} {y : α} (q : v = some y) (h : O e s (oC f v) s') : O e s (f y) s' := by subst q; exact h
theorem natP_D {i : Int} {y : Nat} (q : natP i = some y) : D.int i = nD y := by
  unfold natP at q
  split at q
  · rename_i h
    have := Option.some.inj q
    subst this
    show D.int i = D.int ((i.toNat : Nat) : Int)
    rw [Int.toNat_of_nonneg h]
  · cases q
theorem E_nat {e : Ev RV} {i : Int} {y : Nat} (q : natP i = some y) (h : E e s (.fro (.int i)) s') : E e s (.fro (nD y)) s' := natP_D q ▸ h
theorem O_nat {e : Ev Bor} {i : Int} {y : Nat} (q : natP i = some y) (h : O e s (.int i) s') : O e s (nD y) s' := natP_D q ▸ h
theorem E_castO {e : Ev RV} {d' : D} (q : d = d') (h : E e s (.own d) s') : E e s (.own d') s' := q ▸ h
theorem E_castF {e : Ev RV} {d' : D} (q : d = d') (h : E e s (.fro d) s') : E e s (.fro d') s' := q ▸ h
theorem O_cast {e : Ev Bor} {d' : D} (q : d = d') (h : O e s d s') : O e s d' s' := q ▸ h
theorem lC_some {α : Type} (f : α → D) (xs : List α) : lC f xs = lC (oC f) (xs.map some) := by unfold lC; rw [List.map_map]; rfl
theorem tC_some {α : Type} (f : α → D) (xs : List α) : tC f xs = tC (oC f) (xs.map some) := by unfold tC; rw [List.map_map]; rfl
theorem lC_int (xs : List Nat) : lC nD xs = lC D.int (xs.map fun x : Nat => (x : Int)) := by unfold lC; rw [List.map_map]; rfl
theorem tC_int (xs : List Nat) : tC nD xs = tC D.int (xs.map fun x : Nat => (x : Int)) := by unfold tC; rw [List.map_map]; rfl
theorem E_as {e : Ev RV} {r' : RV} (h : E e s r s') (q : r = r') : E e s r' s' := q ▸ h
class Hf (d : D) : Prop where
  hf : hdFree d = true
theorem hfA : ∀ {ds : List D}, (∀ d ∈ ds, hdFree d = true) → hdFreeAll ds = true
  | [], _ => rfl
  | d :: ds, h => by rw [hdFreeAll, h d (.head _), hfA fun x hx => h x (.tail _ hx)]; rfl
theorem hfAll {α : Type} {f : α → D} (h : ∀ a, Hf (f a)) (xs : List α) : hdFreeAll (xs.map f) = true := by
  refine hfA fun d hd => ?_
  obtain ⟨a, _, rfl⟩ := List.mem_map.mp hd
  exact (h a).hf
theorem hf_tup {ds : List D} (h : ∀ d ∈ ds, hdFree d = true) : hdFree (.tup ds) = true := by rw [hdFree]; exact hfA h
theorem hf_lst {ds : List D} (h : ∀ d ∈ ds, hdFree d = true) : hdFree (.lst ds) = true := by rw [hdFree]; exact hfA h
instance (i : Int) : Hf (.int i) := ⟨by simp [hdFree]⟩
instance (i : Bool) : Hf (.bl i) := ⟨by simp [hdFree]⟩
instance (i : Str) : Hf (.str i) := ⟨by simp [hdFree]⟩
instance : Hf .non := ⟨by simp [hdFree]⟩
instance (i : Nat) : Hf (nD i) := ⟨by simp [nD, hdFree]⟩
instance (i : Unit) : Hf (uC i) := ⟨by simp [uC, hdFree]⟩
instance {α : Type} (f : α → D) (x : List α) [h : ∀ a, Hf (f a)] : Hf (lC f x) := ⟨by rw [lC, hdFree]; exact hfAll h x⟩
instance {α : Type} (f : α → D) (x : List α) [h : ∀ a, Hf (f a)] : Hf (tC f x) := ⟨by rw [tC, hdFree]; exact hfAll h x⟩
instance {α : Type} (f : α → D) (x : Option α) [h : ∀ a, Hf (f a)] : Hf (oC f x) := ⟨by cases x with
  | none => simp [oC, hdFree]
  | some a => exact (h a).hf⟩
instance {α β : Type} (f : α → D) (g : β → D) (x) [h : ∀ a, Hf (f a)] [k : ∀ a, Hf (g a)] : Hf (p2 f g x) := ⟨hf_tup fun d hd => by
  simp at hd
  rcases hd with rfl | rfl
  · exact (h _).hf
  · exact (k _).hf⟩
instance {α β : Type} (f : α → D) (g : β → D) (x) [h : ∀ a, Hf (f a)] [k : ∀ a, Hf (g a)] : Hf (h2 f g x) := ⟨hf_lst fun d hd => by
  simp at hd
  rcases hd with rfl | rfl
  · exact (h _).hf
  · exact (k _).hf⟩
instance {α β γ : Type} (f : α → D) (g : β → D) (m : γ → D) (x) [h : ∀ a, Hf (f a)] [k : ∀ a, Hf (g a)] [l : ∀ a, Hf (m a)] : Hf (p3 f g m x) := ⟨hf_tup fun d hd => by
  simp at hd
  rcases hd with rfl | rfl | rfl
  · exact (h _).hf
  · exact (k _).hf
  · exact (l _).hf⟩
instance (r : Rd) : Hf (rdD r) := ⟨hf_tup fun d hd => by
  simp at hd
  rcases hd with rfl | rfl | rfl | rfl <;> simp [hdFree]⟩
instance (w : Web) : Hf (webD w) := ⟨hf_tup fun d hd => by
  simp at hd
  rcases hd with rfl | rfl
  · simp [hdFree]
  · exact hf_tup fun d hd => by
      obtain ⟨r, _, rfl⟩ := List.mem_map.mp hd
      exact (inferInstance : Hf (rdD r)).hf⟩
theorem qs_own {d : D} (h : hdFree d = true) : quietSlot (.own d) = .fro d := if_pos h
theorem qs_fro {d : D} (h : hdFree d = true) : quietSlot (.fro d) = .fro d := if_pos h
inductive QE : List Slot → List Slot → Prop
  | nil : QE [] []
  | own {d : D} {e f : List Slot} [Hf d] : QE e f → QE (.own d :: e) (.fro d :: f)
  | fro {d : D} {e f : List Slot} [Hf d] : QE e f → QE (.fro d :: e) (.fro d :: f)
  | eit {b : Bool} {d : D} {e f : List Slot} [Hf d] : QE e f → QE (eiS b d :: e) (.fro d :: f)
  | skip {sl : Slot} {e f : List Slot} : QE e f → QE (sl :: e) (quietSlot sl :: f)
theorem QE.eq {e f : List Slot} (h : QE e f) : e.map quietSlot = f := by
  induction h with
  | nil => rfl
  | @own d e f i _ ih => rw [List.map_cons, ih, qs_own i.hf]
  | @fro d e f i _ ih => rw [List.map_cons, ih, qs_fro i.hf]
  | @eit b d e f i _ ih =>
    rw [List.map_cons, ih]
    cases b
    · rw [show eiS false d = .fro d from rfl, qs_fro i.hf]
    · rw [show eiS true d = .own d from rfl, qs_own i.hf]
  | skip _ ih => rw [List.map_cons, ih]
theorem E_quiet {ev : Ev RV} {env : List Slot} {b : Bool} (q : QE s.env env) (h : E ev ⟨env, []⟩ (.fro (.bl b)) s') : E (evQuiet ev) s (.fro (.bl b)) s := ⟨by
  unfold evQuiet
  rw [q.eq, h.eq]
  rfl, Keep.refl s⟩
theorem E_quietL {α : Type} {f : α → D} {ys : List α} {ev : Ev RV} {env : List Slot} (q : QE s.env env) (h : E ev ⟨env, []⟩ (.own (lC f ys)) s') (hs : ∀ y, scalarD (f y) = true) : E (evQuietL ev) s (.own (lC f ys)) s := ⟨by
  unfold evQuietL
  rw [q.eq, h.eq]
  show (if (ys.map f).all scalarD = true then some (RV.own (.lst (ys.map f)), s) else none) = _
  rw [if_pos]
  · rfl
  · rw [List.all_eq_true]
    rintro _ hx
    obtain ⟨a, _, rfl⟩ := List.mem_map.mp hx
    exact hs a, Keep.refl s⟩
variable {b b' x y : Bool}
theorem B_B {e : Ev RV} (h : E e s (.fro (.bl b)) s') : B (evB e) s b s' := ⟨by unfold evB; rw [h.eq]; rfl, h.kp⟩
theorem B_tru {a : Ev Bor} (h : O a s d s') (ht : tru d = some b) : B (evTru a) s b s' := by
  obtain ⟨x, e1, f1⟩ := h.ex
  refine ⟨?_, h.kp⟩
  unfold evTru
  rw [e1, Option.bind_some, f1 s' (Keep.refl _), Option.bind_some, ht]
  rfl
theorem B_yes : B evYes s true s := ⟨rfl, Keep.refl s⟩
theorem B_as {e : Ev Bool} (h : B e s b s') (q : b = b') : B e s b' s' := q ▸ h
theorem B_env {e : Ev Bool} (he : s1 = s2) (h : B e s2 b s2) : B e s1 b s1 := by subst he; exact h
theorem E_env {e : Ev RV} (he : s1 = s2) (h : E e s2 rv s2) : E e s1 rv s1 := by subst he; exact h
theorem B_not {e : Ev Bool} (h : B e s b s') : B (evNot e) s (!b) s' := ⟨by unfold evNot; rw [h.eq]; rfl, h.kp⟩
theorem B_and {a e : Ev Bool} (h : B a s x s1) (h2 : B e s1 y s1) : B (evAnd a e) s (x && y) s1 := ⟨by
  unfold evAnd; rw [h.eq, Option.bind_some]; cases x
  · rfl
  · exact h2.eq, h.kp⟩
theorem B_or {a e : Ev Bool} (h : B a s x s1) (h2 : B e s1 y s1) : B (evOr a e) s (x || y) s1 := ⟨by
  unfold evOr; rw [h.eq, Option.bind_some]; cases x
  · exact h2.eq
  · rfl, h.kp⟩
theorem B_andS {a e : Ev Bool} (h : B a s x s1) (h2 : B e s1 y s2) (hs : (if x = true then s2 else s1) = s') : B (evAnd a e) s (x && y) s' := by
  subst hs
  cases x with
  | false => exact ⟨by unfold evAnd; rw [h.eq]; rfl, h.kp⟩
  | true => exact ⟨by unfold evAnd; rw [h.eq]; exact h2.eq, h.kp.trans h2.kp⟩
theorem B_orS {a e : Ev Bool} (h : B a s x s1) (h2 : B e s1 y s2) (hs : (if x = true then s1 else s2) = s') : B (evOr a e) s (x || y) s' := by
  subst hs
  cases x with
  | true => exact ⟨by unfold evOr; rw [h.eq]; rfl, h.kp⟩
  | false => exact ⟨by unfold evOr; rw [h.eq]; exact h2.eq, h.kp.trans h2.kp⟩
def andP (x : Bool) (y : Option Bool) : Option Bool := if x = true then y else some false
def orP (x : Bool) (y : Option Bool) : Option Bool := if x = true then some true else y
theorem B_andP {a e : Ev Bool} {p : Option Bool} (h : B a s x s1) (hp : andP x p = some y) (h2 : x = true → p = some y → B e s1 y s1) : B (evAnd a e) s y s1 := ⟨by
  unfold evAnd; rw [h.eq, Option.bind_some]; cases x
  · cases hp; rfl
  · exact (h2 rfl hp).eq, h.kp⟩
theorem B_orP {a e : Ev Bool} {p : Option Bool} (h : B a s x s1) (hp : orP x p = some y) (h2 : x = false → p = some y → B e s1 y s1) : B (evOr a e) s y s1 := ⟨by
  unfold evOr; rw [h.eq, Option.bind_some]; cases x
  · exact (h2 rfl hp).eq
  · cases hp; rfl, h.kp⟩
theorem B_andPS {a e : Ev Bool} {p : Option Bool} (h : B a s x s1) (hp : andP x p = some y) (h2 : x = true → p = some y → B e s1 y s2) (hs : (if x = true then s2 else s1) = s') : B (evAnd a e) s y s' := by
  subst hs
  cases x with
  | false => cases hp; exact ⟨by unfold evAnd; rw [h.eq]; rfl, h.kp⟩
  | true => exact ⟨by unfold evAnd; rw [h.eq]; exact (h2 rfl hp).eq, h.kp.trans (h2 rfl hp).kp⟩
theorem B_orPS {a e : Ev Bool} {p : Option Bool} (h : B a s x s1) (hp : orP x p = some y) (h2 : x = false → p = some y → B e s1 y s2) (hs : (if x = true then s1 else s2) = s') : B (evOr a e) s y s' := by
  subst hs
  cases x with
  | true => cases hp; exact ⟨by unfold evOr; rw [h.eq]; rfl, h.kp⟩
  | false => exact ⟨by unfold evOr; rw [h.eq]; exact (h2 rfl hp).eq, h.kp.trans (h2 rfl hp).kp⟩
theorem E_and {a e : Ev RV} (h : E a s (.fro (.bl x)) s1) (h2 : E e s1 (.fro (.bl y)) s1) : E (evVand a e) s (.fro (.bl (x && y))) s1 := ⟨by
  unfold evVand; rw [h.eq, Option.bind_some]; cases x
  · rfl
  · exact h2.eq, h.kp⟩
theorem E_or {a e : Ev RV} (h : E a s (.fro (.bl x)) s1) (h2 : E e s1 (.fro (.bl y)) s1) : E (evVor a e) s (.fro (.bl (x || y))) s1 := ⟨by
  unfold evVor; rw [h.eq, Option.bind_some]; cases x
  · exact h2.eq
  · rfl, h.kp⟩
theorem E_andP {a e : Ev RV} {p : Option Bool} (h : E a s (.fro (.bl x)) s1) (hp : andP x p = some y) (h2 : x = true → p = some y → E e s1 (.fro (.bl y)) s1) : E (evVand a e) s (.fro (.bl y)) s1 := ⟨by
  unfold evVand; rw [h.eq, Option.bind_some]; cases x
  · cases hp; rfl
  · exact (h2 rfl hp).eq, h.kp⟩
theorem E_orP {a e : Ev RV} {p : Option Bool} (h : E a s (.fro (.bl x)) s1) (hp : orP x p = some y) (h2 : x = false → p = some y → E e s1 (.fro (.bl y)) s1) : E (evVor a e) s (.fro (.bl y)) s1 := ⟨by
  unfold evVor; rw [h.eq, Option.bind_some]; cases x
  · exact (h2 rfl hp).eq
  · cases hp; rfl, h.kp⟩
theorem E_not {e : Ev RV} (h : E e s (.fro (.bl b)) s') : E (evVnot e) s (.fro (.bl (!b))) s' := ⟨by unfold evVnot; rw [h.eq]; rfl, h.kp⟩
theorem E_ite {c : Ev Bool} {a e : Ev RV} (h : B c s b s1) (h1 : b = true → E a s1 r s2) (h2 : b = false → E e s1 r s2) : E (evIte c a e) s r s2 := by
  cases b with
  | true => exact ⟨by unfold evIte; rw [h.eq]; exact (h1 rfl).eq, h.kp.trans (h1 rfl).kp⟩
  | false => exact ⟨by unfold evIte; rw [h.eq]; exact (h2 rfl).eq, h.kp.trans (h2 rfl).kp⟩
theorem E_iteT {α : Type} {f : α → D} {u v : α} {c : Ev Bool} {a e : Ev RV} (h : B c s b s1) (h1 : E a s1 (.fro (f u)) s2) (h2 : E e s1 (.fro (f v)) s2) : E (evIte c a e) s (.fro (f (if b = true then u else v))) s2 := by
  cases b with
  | true => exact E_ite h (fun _ => h1) (fun h => by cases h)
  | false => exact E_ite h (fun h => by cases h) (fun _ => h2)
theorem E_iteO {α : Type} {f : α → D} {u v : α} {c : Ev Bool} {a e : Ev RV} (h : B c s b s1) (h1 : E a s1 (.own (f u)) s2) (h2 : E e s1 (.own (f v)) s2) : E (evIte c a e) s (.own (f (if b = true then u else v))) s2 := by
  cases b with
  | true => exact E_ite h (fun _ => h1) (fun h => by cases h)
  | false => exact E_ite h (fun h => by cases h) (fun _ => h2)
theorem E_ch {f g : Op2} {a e c : Ev Bor} (ha : O a s da s1) (hb : O e s1 db s2) (hf : f da db = some (.fro (.bl x))) (hc : O c s2 dc s2) (hg : g db dc = some (.fro (.bl y))) : E (evCh f g a e c) s (.fro (.bl (x && y))) s2 := by
  obtain ⟨x1, e1, f1⟩ := ha.ex
  obtain ⟨x2, e2, f2⟩ := hb.ex
  obtain ⟨x3, e3, f3⟩ := hc.ex
  refine ⟨?_, ha.kp.trans hb.kp⟩
  unfold evCh
  rw [e1, Option.bind_some, e2, Option.bind_some, f1 s2 hb.kp, Option.bind_some, f2 s2 (Keep.refl _), Option.bind_some, hf]
  cases x with
  | false => rfl
  | true =>
    show (c s2).bind _ = _
    rw [e3, Option.bind_some, f2 s2 (Keep.refl _), Option.bind_some, f3 s2 (Keep.refl _), Option.bind_some, hg]
    rfl
theorem P_no : P evNo s none s := ⟨rfl, Keep.refl s⟩
theorem P_pt {a : Ev Bor} {j : Int} (h : O a s (.int j) s') : P (evPt a) s (some j) s' := by
  obtain ⟨x, e1, f1⟩ := h.ex
  refine ⟨?_, h.kp⟩
  unfold evPt
  rw [e1, Option.bind_some, f1 s' (Keep.refl _)]
theorem E_sl {f : Sl} {a : Ev Bor} {l h : Ev (Option Int)} {lo hi : Option Int} (ha : O a s d s1) (hl : P l s1 lo s2) (hh : P h s2 hi s3) (hf : f d lo hi = some r) : E (evSl f a l h) s r s3 := by
  obtain ⟨x, e1, f1⟩ := ha.ex
  refine ⟨?_, (ha.kp.trans hl.kp).trans hh.kp⟩
  unfold evSl
  rw [e1, Option.bind_some, hl.eq, Option.bind_some, hh.eq, Option.bind_some, f1 s3 (hl.kp.trans hh.kp), Option.bind_some, hf]
  rfl
theorem E_isi {T : String} {a : Ev Bor} (ha : O a s d s1) (hf : isiB T d = some r) : E (evIsi T a) s r s1 := by
  obtain ⟨x, e1, f1⟩ := ha.ex
  refine ⟨?_, ha.kp⟩
  unfold evIsi
  rw [e1, Option.bind_some, f1 s1 (Keep.refl _), Option.bind_some, hf]
  rfl
theorem E_isis {T : List String} {a : Ev Bor} (ha : O a s d s1) (hf : isiBs T d = some r) : E (evIsis T a) s r s1 := by
  obtain ⟨x, e1, f1⟩ := ha.ex
  refine ⟨?_, ha.kp⟩
  unfold evIsis
  rw [e1, Option.bind_some, f1 s1 (Keep.refl _), Option.bind_some, hf]
  rfl
theorem E_sset {a : Ev Bor} (ha : O a s d s1) (hf : dSortSet d = some r) : E (evSSet a) s r s1 := by
  obtain ⟨x, e1, f1⟩ := ha.ex
  refine ⟨?_, ha.kp⟩
  rw [evSSet_ap, e1, Option.bind_some, kSSet_ap, f1 s1 (Keep.refl _), Option.bind_some, hf]
  rfl
theorem E_rgL {a : Ev RV} {n : Nat} {xs : List Nat} (h : E a s (.fro (nD n)) s1) (hx : rngP n = some xs) : E (evRgL a) s (.own (lC nD xs)) s1 := by
  unfold rngP at hx
  split at hx
  · rename_i hn
    cases hx
    refine ⟨?_, h.kp⟩
    have s6 : small62 (n : Int) = true := small62_nat hn
    unfold evRgL
    rw [h.eq, Option.bind_some]
    show (if small62 (n : Int) = true then some (RV.own (.lst (upTo 0 (n : Int).toNat)), s1) else none) = _
    rw [if_pos s6, Int.toNat_natCast, upToN]; rfl
  · cases hx
theorem E_rgT {a : Ev RV} {n : Nat} {xs : List Nat} (h : E a s (.fro (nD n)) s1) (hx : rngP n = some xs) : E (evRgT a) s (.fro (tC nD xs)) s1 := by
  unfold rngP at hx
  split at hx
  · rename_i hn
    cases hx
    refine ⟨?_, h.kp⟩
    have s6 : small62 (n : Int) = true := small62_nat hn
    unfold evRgT
    rw [h.eq, Option.bind_some]
    show (if small62 (n : Int) = true then some (RV.fro (.tup (upTo 0 (n : Int).toNat)), s1) else none) = _
    rw [if_pos s6, Int.toNat_natCast, upToN]; rfl
  · cases hx
theorem I_seq {a : Ev RV} {ds : List D} (h : E a s rv s1) (hd : dSeq rv.d = some ds) : I (evItS a) s ds s1 := ⟨by unfold evItS; rw [h.eq, Option.bind_some, hd]; rfl, h.kp⟩
theorem I_args {f : List D → Option (List D)} {a : Ev (List D)} {ds es : List D} (h : A a s ds s1) (hd : f ds = some es) : I (evArgs f a) s es s1 := ⟨by unfold evArgs; rw [h.eq, Option.bind_some, hd]; rfl, h.kp⟩
theorem I_rng1 {a : Ev (List D)} {n : Nat} {xs : List Nat} (h : A a s [nD n] s1) (hx : rngP n = some xs) : I (evRng1 a) s (xs.map nD) s1 := by
  unfold rngP at hx
  split at hx
  · rename_i hn
    cases hx
    have s6 : small62 (n : Int) = true := small62_nat hn
    refine ⟨?_, h.kp⟩
    unfold evRng1
    rw [h.eq, Option.bind_some]
    show (if small62 (n : Int) = true then some (upTo 0 (n : Int).toNat, s1) else none) = _
    rw [if_pos s6, Int.toNat_natCast, upToN]
  · cases hx
theorem I_rng2 {a : Ev (List D)} {n m : Nat} {xs : List Nat} (h : A a s [nD n, nD m] s1) (hx : rng2P n m = some xs) : I (evRng2 a) s (xs.map nD) s1 := by
  unfold rng2P at hx
  split at hx
  · rename_i hn
    cases hx
    have s6 : small62 (n : Int) = true := small62_nat hn.1
    have s7 : small62 (m : Int) = true := small62_nat hn.2
    refine ⟨?_, h.kp⟩
    unfold evRng2
    rw [h.eq, Option.bind_some]
    show (if (small62 (n : Int) && small62 (m : Int)) = true then some (upTo (n : Int) ((m : Int) - (n : Int)).toNat, s1) else none) = _
    rw [if_pos (by rw [s6, s7]; rfl), show ((m : Int) - (n : Int)).toNat = m - n by omega, upTo_map]
    rfl
  · cases hx
/-- a range whose ends are any ints -/
theorem I_rng1i {a : Ev (List D)} {n : Int} {xs : List Nat} (h : A a s [.int n] s1) (hn : -1000000 ≤ n) (hx : rngP n.toNat = some xs) : I (evRng1 a) s (xs.map nD) s1 := by
  unfold rngP at hx
  split at hx
  · rename_i hm
    cases hx
    have s6 : small62 n = true := by simp [small62]; omega
    refine ⟨?_, h.kp⟩
    unfold evRng1
    rw [h.eq, Option.bind_some]
    simp [s6, upToN]
  · cases hx
theorem lcGo_P {α β : Type} {inj : α → D} {out : β → D} {p : α → Option Bool} {v : α → Option β} {t : Tgt} {c : Ev Bool} {e : Ev RV} {env : List Slot} {st : List Cell} (hb : ∀ x b, p x = some b → ∃ s2 s3, t (inj x) ⟨env, st⟩ = some s2 ∧ B c s2 b s3 ∧ s3.st = st ∧ (b = true → ∀ y, v x = some y → ∃ rv s4, E e s3 rv s4 ∧ rv.d = out y ∧ s4.st = st)) : ∀ (xs : List α) (ys : List β), lcG p v xs = some ys →
    evLcGo t c e env (xs.map inj) st = some (ys.map out, st)
  | [], ys, h => by cases h; rfl
  | x :: xs, ys, h => by
    unfold lcG at h
    obtain ⟨b, h1, h⟩ := bs h
    obtain ⟨s2, s3, g1, g2, g3, g4⟩ := hb x b h1
    show (t (inj x) ⟨env, st⟩).bind _ = _
    rw [g1, Option.bind_some, g2.eq, Option.bind_some]
    cases b with
    | true =>
      rw [if_pos rfl] at h
      obtain ⟨y, h2, h⟩ := bs h
      obtain ⟨zs, h3, h⟩ := map_some_iff h
      cases h
      obtain ⟨rv, s4, k1, k2, k3⟩ := g4 rfl y h2
      rw [if_pos rfl, k1.eq, Option.bind_some, k3, lcGo_P hb xs zs h3]
      simp [k2]
    | false =>
      rw [if_neg (by simp)] at h
      rw [if_neg (by simp), g3, lcGo_P hb xs ys h]
theorem E_lc {α β : Type} (inj : α → D) (out : β → D) {p : α → Option Bool} {v : α → Option β} {xs : List α} {ys : List β} {it : Ev (List D)} {cap vs : List Nat} {t : Tgt} {c : Ev Bool} {e : Ev RV} {env : List Slot}
    (hi : I it s (xs.map inj) s1) (hf : freezeCap cap s1 = s') (henv : blkEnv vs s'.env = env) (hp : lcP p v xs = some ys)
    (hb : ∀ x b, p x = some b → ∃ s2 s3, t (inj x) ⟨env, s'.st⟩ = some s2 ∧ B c s2 b s3 ∧ s3.st = s'.st ∧ (b = true → ∀ y, v x = some y → ∃ rv s4, E e s3 rv s4 ∧ rv.d = out y ∧ s4.st = s'.st)) :
    E (evLc it cap vs t c e) s (.own (lC out ys)) s' := by
  have hst : s'.st = s1.st := by rw [← hf]; exact freezeCap_st cap s1
  have kf : Keep s1 s' := by
    subst hf
    clear hi hb henv hst
    induction cap generalizing s1 with
    | nil => exact Keep.refl _
    | cons a cap ih =>
      refine Keep.trans ?_ (ih (s1 := leakSlot s1 a))
      intro j x hx
      unfold Has at hx ⊢
      unfold leakSlot
      split
      · rename_i d0 e0
        by_cases hj : a = j
        · subst hj
          rw [e0] at hx
          obtain ⟨hl, _⟩ := List.getElem?_eq_some_iff.mp e0
          show ((s1.env.set a _)[a]?).bind _ = _
          rw [List.getElem?_set_self hl]
          exact hx
        · show ((s1.env.set a _)[j]?).bind _ = _
          rw [List.getElem?_set_ne hj]; exact hx
      · exact hx
  unfold lcP at hp
  split at hp
  · rename_i hl
    refine ⟨?_, hi.kp.trans kf⟩
    unfold evLc
    rw [hi.eq, Option.bind_some, if_pos (by simpa using hl)]
    show (evLcGo t c e (blkEnv vs (freezeCap cap s1).env) (xs.map inj) s1.st).map _ = _
    rw [hf, henv, ← hst, lcGo_P hb xs ys hp]
    rfl
  · cases hp
theorem lcGo_S {α β τ : Type} {inj : α → D} {out : β → D} {p : α → τ → Option (Bool × τ)} {v : α → τ → Option (β × τ)} {cs : τ → List Cell} {t : Tgt} {c : Ev Bool} {e : Ev RV} {env : List Slot} (hb : ∀ x z b, p x z = some b → ∃ s2 s3, t (inj x) ⟨env, cs z⟩ = some s2 ∧ B c s2 b.1 s3 ∧ s3.st = cs b.2 ∧ (b.1 = true → ∀ y, v x b.2 = some y → ∃ rv s4, E e s3 rv s4 ∧ rv.d = out y.1 ∧ s4.st = cs y.2)) : ∀ (xs : List α) (z : τ) (ys : List β × τ), lcH p v xs z = some ys →
    evLcGo t c e env (xs.map inj) (cs z) = some (ys.1.map out, cs ys.2)
  | [], z, ys, h => by cases h; rfl
  | x :: xs, z, ys, h => by
    unfold lcH at h
    obtain ⟨b, h1, h⟩ := bs h
    obtain ⟨s2, s3, g1, g2, g3, g4⟩ := hb x z b h1
    show (t (inj x) ⟨env, cs z⟩).bind _ = _
    rw [g1, Option.bind_some, g2.eq, Option.bind_some]
    cases hb1 : b.1 with
    | true =>
      rw [if_pos hb1] at h
      obtain ⟨y, h2, h⟩ := bs h
      obtain ⟨zs, h3, h⟩ := map_some_iff h
      cases h
      obtain ⟨rv, s4, k1, k2, k3⟩ := g4 hb1 y h2
      rw [if_pos rfl, k1.eq, Option.bind_some, k3, lcGo_S hb xs y.2 zs h3]
      simp [k2]
    | false =>
      rw [if_neg (by simp [hb1])] at h
      rw [if_neg (by simp), g3, lcGo_S hb xs b.2 ys h]
theorem E_lcS {α β τ : Type} (inj : α → D) (out : β → D) {p : α → τ → Option (Bool × τ)} {v : α → τ → Option (β × τ)} {cs : τ → List Cell} {xs : List α} {z : τ} {ys : List β × τ} {it : Ev (List D)} {cap vs : List Nat} {t : Tgt} {c : Ev Bool} {e : Ev RV} {env : List Slot}
    (hi : I it s (xs.map inj) s1) (hf : freezeCap cap s1 = s2) (henv : blkEnv vs s2.env = env) (hz : s2.st = cs z) (hs : (⟨s2.env, cs ys.2⟩ : Sg) = s') (hp : lcS p v xs z = some ys)
    (hb : ∀ x z b, p x z = some b → ∃ s2 s3, t (inj x) ⟨env, cs z⟩ = some s2 ∧ B c s2 b.1 s3 ∧ s3.st = cs b.2 ∧ (b.1 = true → ∀ y, v x b.2 = some y → ∃ rv s4, E e s3 rv s4 ∧ rv.d = out y.1 ∧ s4.st = cs y.2)) :
    E (evLc it cap vs t c e) s (.own (lC out ys.1)) s' := by
  have hst : s2.st = s1.st := by rw [← hf]; exact freezeCap_st cap s1
  have kf : Keep s1 s2 := by
    subst hf
    clear hi hb henv hst hz hs
    induction cap generalizing s1 with
    | nil => exact Keep.refl _
    | cons a cap ih =>
      refine Keep.trans ?_ (ih (s1 := leakSlot s1 a))
      intro j x hx
      unfold Has at hx ⊢
      unfold leakSlot
      split
      · rename_i d0 e0
        by_cases hj : a = j
        · subst hj
          rw [e0] at hx
          obtain ⟨hl, _⟩ := List.getElem?_eq_some_iff.mp e0
          show ((s1.env.set a _)[a]?).bind _ = _
          rw [List.getElem?_set_self hl]
          exact hx
        · show ((s1.env.set a _)[j]?).bind _ = _
          rw [List.getElem?_set_ne hj]; exact hx
      · exact hx
  unfold lcS at hp
  split at hp
  · rename_i hl
    subst hs
    refine ⟨?_, fun i d x => (hi.kp.trans kf) i d x⟩
    unfold evLc
    rw [hi.eq, Option.bind_some, if_pos (by simpa using hl)]
    show (evLcGo t c e (blkEnv vs (freezeCap cap s1).env) (xs.map inj) s1.st).map _ = _
    rw [hf, henv, ← hst, hz, lcGo_S hb xs z ys hp]
    rfl
  · cases hp
def S (ev : Ev Out) (s : Sg) (k : Out → Sg → Prop) : Prop := ∃ o s', ev s = some (o, s') ∧ k o s'
@[reducible] def sq (b : Ev Out) (k : Out → Sg → Prop) : Out → Sg → Prop := fun o s' => match o with
  | .nx => S b s' k
  | o => k o s'
variable {k : Out → Sg → Prop} {env' : List Slot}
theorem S_seq {a b : Ev Out} (h : S a s (sq b k)) : S (evSeq a b) s k := by
  obtain ⟨o, s', e, q⟩ := h
  cases o with
  | nx =>
    obtain ⟨o2, s2, e2, q2⟩ := q
    exact ⟨o2, s2, by unfold evSeq; rw [e, Option.bind_some]; exact e2, q2⟩
  | bk => exact ⟨.bk, s', by unfold evSeq; rw [e]; rfl, q⟩
  | ct => exact ⟨.ct, s', by unfold evSeq; rw [e]; rfl, q⟩
  | rt r => exact ⟨.rt r, s', by unfold evSeq; rw [e]; rfl, q⟩
theorem S_env {e : Ev Out} {env env' : List Slot} {st : List Cell} (he : env = env') (h : S e ⟨env', st⟩ k) : S e ⟨env, st⟩ k := by subst he; exact h
theorem S_pass (h : k .nx s) : S evPass s k := ⟨_, _, rfl, h⟩
theorem S_break (h : k .bk s) : S evBreak s k := ⟨_, _, rfl, h⟩
theorem S_cont (h : k .ct s) : S evCont s k := ⟨_, _, rfl, h⟩
theorem S_set {e : Ev RV} (h : E e s rv s1) (he : s1.env.set i rv.slot = env') (hk : k .nx ⟨env', s1.st⟩) : S (evSet i e) s k := ⟨_, _, by unfold evSet; rw [h.eq]; rfl, by subst he; exact hk⟩
theorem S_drop {e : Ev RV} (h : E e s rv s1) (hk : k .nx s1) : S (evDrop e) s k := ⟨_, _, by unfold evDrop; rw [h.eq]; rfl, hk⟩
theorem S_ret {e : Ev RV} (h : E e s rv s1) (hk : k (.rt rv) s1) : S (evRet e) s k := ⟨_, _, by unfold evRet; rw [h.eq]; rfl, hk⟩
theorem S_retN (hk : k (.rt (.fro .non)) s) : S evRetN s k := ⟨_, _, rfl, hk⟩
theorem S_retF (h : s.env[i]? = some (.fro d)) (hk : k (.rt (.fro d)) s) : S (evRetOwn i) s k := ⟨_, _, by unfold evRetOwn; rw [h], hk⟩
theorem S_retO (h : s.env[i]? = some (.own d)) (hk : k (.rt (.own d)) ⟨s.env.set i .non, s.st⟩) : S (evRetOwn i) s k := ⟨_, _, by unfold evRetOwn; rw [h], hk⟩
theorem S_if {c : Ev Bool} {a e : Ev Out} (h : B c s b s1) (h1 : b = true → S a s1 k) (h2 : b = false → S e s1 k) : S (evIf c a e) s k := by
  cases b with
  | true =>
    obtain ⟨o, s', q1, q2⟩ := h1 rfl
    exact ⟨o, s', by unfold evIf; rw [h.eq]; exact q1, q2⟩
  | false =>
    obtain ⟨o, s', q1, q2⟩ := h2 rfl
    exact ⟨o, s', by unfold evIf; rw [h.eq]; exact q1, q2⟩
@[reducible] def jq {σ γ : Type} (mk : σ → γ → Sg) (v : σ) : Out → Sg → Prop := fun o s' => o = .nx ∧ ∃ g, s' = mk v g
theorem S_ifJ {σ γ : Type} (mk : σ → γ → Sg) {v : σ} {c : Ev Bool} {a e : Ev Out} (h : B c s b s1) (h1 : b = true → S a s1 (jq mk v)) (h2 : b = false → S e s1 (jq mk v)) (hk : ∀ g, k .nx (mk v g)) : S (evIf c a e) s k :=
  S_if h (fun hb => by obtain ⟨o, s', q1, rfl, g, rfl⟩ := h1 hb; exact ⟨_, _, q1, hk g⟩) (fun hb => by obtain ⟨o, s', q1, rfl, g, rfl⟩ := h2 hb; exact ⟨_, _, q1, hk g⟩)
theorem S_setC {e : Ev RV} (h : E e s (.own d) s1) {st' : List Cell} (he : s1.env.set i (.fro (.hd s1.st.length)) = env') (hs : s1.st ++ [.d d] = st') (hk : k .nx ⟨env', st'⟩) : S (evSetC i e) s k := ⟨_, _, by unfold evSetC; rw [h.eq, Option.bind_some], by subst he; subst hs; exact hk⟩
theorem S_asg {t : Tgt} {e : Ev RV} (h : E e s rv s1) (ht : t rv.d s1 = some s2) (hk : k .nx s2) : S (evAsg t e) s k := ⟨_, _, by unfold evAsg; rw [h.eq, Option.bind_some, ht]; rfl, hk⟩
theorem S_par {j : Nat} {e1 e2 : Ev RV} (h : E e1 s rv s1) (h' : E e2 s1 r s2) (he : (s2.env.set i rv.slot).set j r.slot = env') (hk : k .nx ⟨env', s2.st⟩) : S (evPar i j e1 e2) s k := ⟨_, _, by unfold evPar; rw [h.eq, Option.bind_some, h'.eq]; rfl, by subst he; exact hk⟩
/-- x[i] = v -/
theorem S_setI {f : D → D → D → Option D} {ti : Ev Bor} {tv : Ev RV} {di d' : D} (h : E tv s rv s1) (h2 : O ti s1 di s2) (hg : s1.env[i]? = some (.own da)) (ho : s2.env[i]? = some (.own d)) (hf : f d di rv.d = some d') (he : s2.env.set i (.own d') = env') (hk : k .nx ⟨env', s2.st⟩) : S (evSetI i f ti tv) s k := by
  obtain ⟨x, e1, f1⟩ := h2.ex
  refine ⟨_, _, ?_, hk⟩
  unfold evSetI
  rw [h.eq, Option.bind_some, show evSlot i s1 = some (.slot i, s1) by unfold evSlot; rw [hg], Option.bind_some, e1, Option.bind_some, f1 s2 (Keep.refl _), Option.bind_some, show ownAt s2 i = some d by unfold ownAt; rw [ho], Option.bind_some, hf]
  unfold setAt
  rw [ho]
  subst he
  rfl
/-- a method that changes an own slot -/
structure M (ev : Ev RV) (s : Sg) (d : D) (s' : Sg) : Prop where
  eq : ev s = some (.fro d, s')
theorem M_mut {T : String} {f : Mut1} {a : Ev (List D)} {ds : List D} {d' dr : D} (h0 : s.env[i]? = some (.own da)) (ht : tyD T da = true) (h : A a s ds s1) (h1 : s1.env[i]? = some (.own d)) (hf : f d ds = some (d', dr)) (he : s1.env.set i (.own d') = env') : M (evMut T i f a) s dr ⟨env', s1.st⟩ := ⟨by
  unfold evMut
  rw [show ownAt s i = some da by unfold ownAt; rw [h0], Option.bind_some, if_pos ht, h.eq, Option.bind_some, show ownAt s1 i = some d by unfold ownAt; rw [h1], Option.bind_some, hf]
  unfold setAt
  rw [h1]
  subst he
  rfl⟩
theorem S_dropM {e : Ev RV} (h : M e s d s1) (hk : k .nx s1) : S (evDrop e) s k := ⟨_, _, by unfold evDrop; rw [h.eq]; rfl, hk⟩
theorem S_setM {e : Ev RV} (h : M e s d s1) (he : s1.env.set i (.fro d) = env') (hk : k .nx ⟨env', s1.st⟩) : S (evSet i e) s k := ⟨_, _, by unfold evSet; rw [h.eq]; rfl, by subst he; exact hk⟩
theorem evFor_P {α σ γ : Type} {inj : α → D} {mk : σ → γ → Sg} {body : α → σ → Option σ} {t : Tgt} {b : Ev Out}
    (hb : ∀ x w w' g, body x w = some w' → ∃ s2, t (inj x) (mk w g) = some s2 ∧ S b s2 (fun o s' => (o = .nx ∨ o = .ct) ∧ ∃ g', s' = mk w' g')) : ∀ (xs : List α) (w w' : σ) (g : γ), forP body xs w = some w' → ∃ g', evFor t b (xs.map inj) (mk w g) = some (.nx, mk w' g')
  | [], w, w', g, h => by cases h; exact ⟨g, rfl⟩
  | x :: xs, w, w', g, h => by
    obtain ⟨w1, h1, h⟩ := bs h
    obtain ⟨s2, e1, o, s3, e2, ho, g1, rfl⟩ := hb x w w1 g h1
    obtain ⟨g', e3⟩ := evFor_P hb xs w1 w' g1 h
    refine ⟨g', ?_⟩
    show (t (inj x) (mk w g)).bind _ = _
    rw [e1, Option.bind_some, e2, Option.bind_some]
    rcases ho with rfl | rfl <;> exact e3
theorem S_for {α σ γ : Type} (inj : α → D) (mk : σ → γ → Sg) {xs : List α} {body : α → σ → Option σ} {v0 v : σ} (g0 : γ) {it : Ev (List D)} {t : Tgt} {b : Ev Out}
    (hi : I it s (xs.map inj) s1) (h0 : s1 = mk v0 g0) (hp : forP body xs v0 = some v)
    (hb : ∀ x w w' g, body x w = some w' → ∃ s2, t (inj x) (mk w g) = some s2 ∧ S b s2 (fun o s' => (o = .nx ∨ o = .ct) ∧ ∃ g', s' = mk w' g'))
    (hk : ∀ g, k .nx (mk v g)) : S (evForS it t b) s k := by
  obtain ⟨g', e⟩ := evFor_P hb xs v0 v g0 hp
  exact ⟨_, _, by unfold evForS; rw [hi.eq, Option.bind_some, h0]; exact e, hk g'⟩
/-- how a body of a loop with ways out ends -/
@[reducible] def cq {σ γ R : Type} (mk : σ → γ → Sg) (rr : R → RV → Sg → Prop) (c : Ctl σ R) : Out → Sg → Prop := fun o s' => match c with
  | .nx w => (o = .nx ∨ o = .ct) ∧ ∃ g', s' = mk w g'
  | .bk w => o = .bk ∧ ∃ g', s' = mk w g'
  | .rt r => ∃ rv, o = .rt rv ∧ rr r rv s'
def aft (t : Tgt) (b : Ev Out) (ds : List D) (s3 : Sg) : Out → Option (Out × Sg)
  | .nx => evFor t b ds s3
  | .ct => evFor t b ds s3
  | .bk => some (.nx, s3)
  | .rt r => some (.rt r, s3)
theorem evFor_next {t : Tgt} {b : Ev Out} {ds : List D} {o : Out} (e1 : t d s = some s2) (e2 : b s2 = some (o, s3)) (r) (hr : aft t b ds s3 o = r) : evFor t b (d :: ds) s = r := by
  subst hr
  show (t d s).bind _ = _
  rw [e1, Option.bind_some]
  show (b s2).bind _ = _
  rw [e2, Option.bind_some]
  cases o <;> rfl
theorem evFor_C {α σ γ R : Type} {inj : α → D} {mk : σ → γ → Sg} {rr : R → RV → Sg → Prop} {body : α → σ → Option (Ctl σ R)} {t : Tgt} {b : Ev Out}
    (hb : ∀ x w c g, body x w = some c → ∃ s2, t (inj x) (mk w g) = some s2 ∧ S b s2 (cq mk rr c)) : ∀ (xs : List α) (w : σ) (c : R ⊕ σ) (g : γ), forC body xs w = some c →
      (∀ r, c = .inl r → ∃ rv s', evFor t b (xs.map inj) (mk w g) = some (.rt rv, s') ∧ rr r rv s') ∧ (∀ w', c = .inr w' → ∃ g', evFor t b (xs.map inj) (mk w g) = some (.nx, mk w' g'))
  | [], w, c, g, h => by
    cases h
    constructor
    · intro r h; cases h
    · intro w' h; cases h; exact ⟨g, rfl⟩
  | x :: xs, w, c, g, h => by
    obtain ⟨c1, h1, h⟩ := bs h
    obtain ⟨s2, e1, o, s3, e2, q⟩ := hb x w c1 g h1
    have ef := evFor_next (t := t) (b := b) (ds := xs.map inj) e1 e2
    clear e2
    cases c1 with
    | nx w1 =>
      obtain ⟨ho, g1, rfl⟩ := q
      have ih := evFor_C hb xs w1 c g1 h
      constructor
      · intro r hr
        obtain ⟨rv, s', e, q⟩ := ih.1 r hr
        exact ⟨rv, s', ef _ (by rcases ho with rfl | rfl <;> exact e), q⟩
      · intro r hr
        obtain ⟨g', e⟩ := ih.2 r hr
        exact ⟨g', ef _ (by rcases ho with rfl | rfl <;> exact e)⟩
    | bk w1 =>
      obtain ⟨rfl, g1, rfl⟩ := q
      cases h
      constructor
      · intro r h; cases h
      · intro w' h; cases h; exact ⟨g1, ef _ rfl⟩
    | rt r1 =>
      obtain ⟨rv, rfl, q⟩ := q
      cases h
      constructor
      · intro r h; cases h; exact ⟨rv, s3, ef _ rfl, q⟩
      · intro w' h; cases h
theorem S_forC {α σ γ R : Type} (inj : α → D) (mk : σ → γ → Sg) (rr : R → RV → Sg → Prop) {xs : List α} {body : α → σ → Option (Ctl σ R)} {v0 : σ} {c : R ⊕ σ} (g0 : γ) {it : Ev (List D)} {t : Tgt} {b : Ev Out}
    (hi : I it s (xs.map inj) s1) (h0 : s1 = mk v0 g0) (hp : forC body xs v0 = some c)
    (hb : ∀ x w c g, body x w = some c → ∃ s2, t (inj x) (mk w g) = some s2 ∧ S b s2 (cq mk rr c))
    (hr : ∀ r rv s', c = .inl r → rr r rv s' → k (.rt rv) s') (hk : ∀ w g, c = .inr w → k .nx (mk w g)) : S (evForS it t b) s k := by
  have q := evFor_C hb xs v0 c g0 hp
  cases c with
  | inl r =>
    obtain ⟨rv, s', e, q⟩ := q.1 r rfl
    exact ⟨_, _, by unfold evForS; rw [hi.eq, Option.bind_some, h0]; exact e, hr r rv s' rfl q⟩
  | inr w =>
    obtain ⟨g', e⟩ := q.2 w rfl
    exact ⟨_, _, by unfold evForS; rw [hi.eq, Option.bind_some, h0]; exact e, hk w g' rfl⟩
theorem evWhN_P {σ γ : Type} {mk : σ → γ → Sg} {p : σ → Option Bool} {body : σ → Option σ} {c : Ev Bool} {b : Ev Out}
    (hc : ∀ w g x, p w = some x → B c (mk w g) x (mk w g)) (hb : ∀ w w' g, body w = some w' → S b (mk w g) (fun o s' => (o = .nx ∨ o = .ct) ∧ ∃ g', s' = mk w' g')) : ∀ (n : Nat) (w w' : σ) (g : γ), whP p body n w = some w' → ∃ g', evWhN c b n (mk w g) = some (.nx, mk w' g')
  | 0, w, w', g, h => by cases h
  | n + 1, w, w', g, h => by
    obtain ⟨x, h1, h⟩ := bs h
    have e1 := (hc w g x h1).eq
    cases x with
    | false =>
      rw [if_neg (by simp)] at h
      cases h
      exact ⟨g, by show (c (mk w g)).bind _ = _; rw [e1]; rfl⟩
    | true =>
      rw [if_pos rfl] at h
      obtain ⟨w1, h2, h⟩ := bs h
      obtain ⟨o, s3, e2, ho, g1, rfl⟩ := hb w w1 g h2
      obtain ⟨g', e3⟩ := evWhN_P hc hb n w1 w' g1 h
      refine ⟨g', ?_⟩
      show (c (mk w g)).bind _ = _
      rw [e1, Option.bind_some, if_pos rfl, e2, Option.bind_some]
      rcases ho with rfl | rfl <;> exact e3
theorem S_wh {σ γ : Type} (mk : σ → γ → Sg) {p : σ → Option Bool} {body : σ → Option σ} {v0 v : σ} {n : Nat} (g0 : γ) {c : Ev Bool} {b : Ev Out} (h0 : s = mk v0 g0) (hp : whP p body n v0 = some v)
    (hc : ∀ w g x, p w = some x → B c (mk w g) x (mk w g)) (hb : ∀ w w' g, body w = some w' → S b (mk w g) (fun o s' => (o = .nx ∨ o = .ct) ∧ ∃ g', s' = mk w' g')) (hk : ∀ g, k .nx (mk v g)) : S (evWh c b) s k := by
  obtain ⟨g', e⟩ := evWhN_P hc hb n v0 v g0 hp
  exact ⟨_, _, by rw [h0]; exact evWh_of e, hk g'⟩
@[reducible] def fq (st : List Cell) (d : D) : Out → Sg → Prop := fun o s' => ∃ rv, o = .rt rv ∧ rv.d = d ∧ s'.st = st
@[reducible] def fqR (st : List Cell) (r : RV) : Out → Sg → Prop := fun o s' => o = .rt r ∧ s'.st = st
theorem fn_R {N Pn : Nat} {ev : Ev Out} {ds : List D} {st st' : List Cell} (hl : ds.length = Pn) (h : S ev ⟨ds.map Slot.fro ++ List.replicate (N - ds.length) Slot.non, st⟩ (fqR st' r)) : fnM N Pn ev ds st = some (r, st') := by
  obtain ⟨o, s', e, rfl, rfl⟩ := h
  unfold fnM
  rw [if_pos hl, e]
theorem fn_D {N Pn : Nat} {ev : Ev Out} {ds : List D} {st st' : List Cell} (hl : ds.length = Pn) (h : S ev ⟨ds.map Slot.fro ++ List.replicate (N - ds.length) Slot.non, st⟩ (fq st' d)) : ∃ rv, fnM N Pn ev ds st = some (rv, st') ∧ rv.d = d := by
  obtain ⟨o, s', e, rv, rfl, hd, rfl⟩ := h
  refine ⟨rv, ?_, hd⟩
  unfold fnM
  rw [if_pos hl, e]
end
end Pv

namespace Pv
open PySem PySem.Spec L2
class Eqy {α : Type} [DecidableEq α] (f : α → D) where
  k : Nat
  ok : ∀ a m, k ≤ m → eqOk m (f a) = true
  eq : ∀ a b, deq (f a) (f b) = decide (a = b)
class Nn {α : Type} (f : α → D) : Prop where
  l : ∀ a, deq (f a) .non = false
  r : ∀ a, deq .non (f a) = false
  n : ∀ a, f a ≠ .non
instance : Eqy nD := ⟨0, fun a m _ => by cases m <;> rfl, fun a b => by simp [nD]; omega⟩
instance : Eqy D.int := ⟨0, fun a m _ => by cases m <;> rfl, fun a b => by simp⟩
instance : Eqy D.bl := ⟨0, fun a m _ => by cases m <;> rfl, fun a b => by simp⟩
instance : Eqy uC := ⟨0, fun a m _ => by cases m <;> rfl, fun a b => by simp [uC]⟩
instance : Nn nD := ⟨fun a => deq_int_non _, fun a => deq_non_int _, fun a h => by cases h⟩
instance : Nn D.int := ⟨fun a => deq_int_non _, fun a => deq_non_int _, fun a h => by cases h⟩
instance {α : Type} (f : α → D) : Nn (lC f) := ⟨fun a => deq_lst_non _, fun a => deq_non_lst _, fun a h => by cases h⟩
instance {α : Type} (f : α → D) : Nn (tC f) := ⟨fun a => deq_tup_non _, fun a => deq_non_tup _, fun a h => by cases h⟩
instance {α β : Type} (f : α → D) (g : β → D) : Nn (p2 f g) := ⟨fun a => deq_tup_non _, fun a => deq_non_tup _, fun a h => by cases h⟩
instance {α β γ : Type} (f : α → D) (g : β → D) (h : γ → D) : Nn (p3 f g h) := ⟨fun a => deq_tup_non _, fun a => deq_non_tup _, fun a h => by cases h⟩
instance {α β γ δ : Type} (f : α → D) (g : β → D) (h : γ → D) (k : δ → D) : Nn (p4 f g h k) := ⟨fun a => deq_tup_non _, fun a => deq_non_tup _, fun a h => by cases h⟩
instance : Nn webD := ⟨fun a => deq_tup_non _, fun a => deq_non_tup _, fun a h => by cases h⟩
instance : Nn rdD := ⟨fun a => deq_tup_non _, fun a => deq_non_tup _, fun a h => by cases h⟩
section
variable {α β γ δ : Type} [DecidableEq α] [DecidableEq β] [DecidableEq γ] [DecidableEq δ] {f : α → D} {g : β → D}
theorem deqAll_map (e : Eqy f) : ∀ xs ys : List α, deqAll (xs.map f) (ys.map f) = decide (xs = ys)
  | [], [] => rfl
  | x :: xs, [] => by simp [deqAll]
  | [], y :: ys => by simp [deqAll]
  | x :: xs, y :: ys => by simp [deqAll, deqAll_map e xs ys, e.eq]
theorem allOk_map (e : Eqy f) (xs : List α) {m : Nat} (h : e.k ≤ m) : (xs.map f).all (eqOk m) = true := by
  rw [List.all_eq_true]
  rintro _ hx
  obtain ⟨a, _, rfl⟩ := List.mem_map.mp hx
  exact e.ok a m h
instance [e : Eqy f] : Eqy (lC f) := ⟨e.k + 1, fun a m h => by
  cases m with
  | zero => omega
  | succ m => exact allOk_map e a (by omega), fun a b => by rw [lC, lC, deq_lst, deqAll_map e]⟩
instance [e : Eqy f] : Eqy (tC f) := ⟨e.k + 1, fun a m h => by
  cases m with
  | zero => omega
  | succ m => exact allOk_map e a (by omega), fun a b => by rw [tC, tC, deq_tup, deqAll_map e]⟩
instance [e : Eqy f] [n : Nn f] : Eqy (oC f) := ⟨e.k, fun a m h => by
  cases a with
  | none => cases m <;> rfl
  | some a => exact e.ok a m h, fun a b => by
  cases a with
  | none => cases b with
    | none => simp [oC]
    | some b => simp [oC, n.r]
  | some a => cases b with
    | none => simp [oC, n.l]
    | some b => simp [oC, e.eq]⟩
instance [e : Eqy f] [e2 : Eqy g] : Eqy (p2 f g) := ⟨e.k + e2.k + 1, fun a m h => by
  cases m with
  | zero => omega
  | succ m =>
    have h1 := e.ok a.1 m (by omega)
    have h2 := e2.ok a.2 m (by omega)
    show [f a.1, g a.2].all (eqOk m) = true
    simp [h1, h2], fun a b => by
  simp [p2, deqAll, e.eq, e2.eq, Prod.ext_iff]⟩
instance [e : Eqy f] [e2 : Eqy g] : Eqy (h2 f g) := ⟨e.k + e2.k + 1, fun a m h => by
  cases m with
  | zero => omega
  | succ m =>
    have h1 := e.ok a.1 m (by omega)
    have h2 := e2.ok a.2 m (by omega)
    show [f a.1, g a.2].all (eqOk m) = true
    simp [h1, h2], fun a b => by
  simp [h2, deqAll, e.eq, e2.eq, Prod.ext_iff]⟩
instance {h : γ → D} [e : Eqy f] [e2 : Eqy g] [e3 : Eqy h] : Eqy (p3 f g h) := ⟨e.k + e2.k + e3.k + 1, fun a m hm => by
  cases m with
  | zero => omega
  | succ m =>
    have h1 := e.ok a.1 m (by omega)
    have h2 := e2.ok a.2.1 m (by omega)
    have h3 := e3.ok a.2.2 m (by omega)
    show [f a.1, g a.2.1, h a.2.2].all (eqOk m) = true
    simp [h1, h2, h3], fun a b => by
  simp [p3, deqAll, e.eq, e2.eq, e3.eq, Prod.ext_iff]⟩
instance {h : γ → D} {k : δ → D} [e : Eqy f] [e2 : Eqy g] [e3 : Eqy h] [e4 : Eqy k] : Eqy (p4 f g h k) := ⟨e.k + e2.k + e3.k + e4.k + 1, fun a m hm => by
  cases m with
  | zero => omega
  | succ m =>
    have h1 := e.ok a.1 m (by omega)
    have h2 := e2.ok a.2.1 m (by omega)
    have h3 := e3.ok a.2.2.1 m (by omega)
    have h4 := e4.ok a.2.2.2 m (by omega)
    show [f a.1, g a.2.1, h a.2.2.1, k a.2.2.2].all (eqOk m) = true
    simp [h1, h2, h3, h4], fun a b => by
  simp [p4, deqAll, e.eq, e2.eq, e3.eq, e4.eq, Prod.ext_iff]⟩
end
instance : DecidableEq Rd := fun x y => decidable_of_iff (x.a = y.a ∧ x.b = y.b ∧ x.lo = y.lo ∧ x.hi = y.hi) (by cases x; cases y; simp)
instance : DecidableEq Web := fun x y => decidable_of_iff (x.n = y.n ∧ x.rs = y.rs) (by cases x; cases y; simp)
instance : Eqy rdD := ⟨1, fun a m h => by
  cases m with
  | zero => omega
  | succ m =>
    have h0 : ∀ i : Int, eqOk m (.int i) = true := fun i => by cases m <;> rfl
    show [D.int a.a, .int a.b, .int a.lo, .int a.hi].all (eqOk m) = true
    simp [h0], fun a b => by
  cases a; cases b; simp [rdD, deqAll, Int.ofNat_inj]⟩
instance : Eqy webD := ⟨3, fun a m h => by
  cases m with
  | zero => omega
  | succ m =>
    cases m with
    | zero => omega
    | succ m =>
      have h0 : eqOk (m + 1) (.int a.n) = true := rfl
      have h1 : eqOk (m + 1) (.tup (a.rs.map rdD)) = true := allOk_map (f := rdD) inferInstance a.rs (by show 1 ≤ m; omega)
      show [D.int a.n, .tup (a.rs.map rdD)].all (eqOk (m + 1)) = true
      simp [h0, h1], fun a b => by
  have := deqAll_map (f := rdD) inferInstance a.rs b.rs
  cases a; cases b
  simp at this
  simp [webD, deqAll, this, Int.ofNat_inj]⟩
section
variable {α β : Type} {f : α → D} {g : β → D}
section
variable [DecidableEq α]
theorem dEq_gen (a b : D) : dEq a b = if (eqOk 50 a && eqOk 50 b) = true then some (.fro (.bl (deq a b))) else dEq a b := by
  split
  · rename_i h
    unfold dEq
    split
    · rename_i x y
      have : deq (.str x) (.str y) = decide (x = y) := by simp [deq, py, PyData.eqv]; rfl
      rw [this]
    · rw [if_pos h]
  · rfl
theorem dNe_gen (a b : D) : dNe a b = if (eqOk 50 a && eqOk 50 b) = true then some (.fro (.bl (!deq a b))) else dNe a b := by
  split
  · rename_i h
    unfold dNe
    split
    · rename_i x y
      have : deq (.str x) (.str y) = decide (x = y) := by simp [deq, py, PyData.eqv]; rfl
      rw [this]
    · rw [if_pos h]
  · rfl
theorem o_eq [e : Eqy f] (a b : α) (h : e.k ≤ 50 := by decide) : dEq (f a) (f b) = some (.fro (.bl (decide (a = b)))) := by
  rw [dEq_gen, if_pos (by rw [e.ok a 50 h, e.ok b 50 h]; rfl), e.eq]
theorem o_ne [e : Eqy f] (a b : α) (h : e.k ≤ 50 := by decide) : dNe (f a) (f b) = some (.fro (.bl (decide (a ≠ b)))) := by
  rw [dNe_gen, if_pos (by rw [e.ok a 50 h, e.ok b 50 h]; rfl), e.eq]
  simp
theorem any_map [e : Eqy f] (x : α) (ys : List α) : (ys.map f).any (fun z => deq z (f x)) = decide (x ∈ ys) := by
  rw [Bool.eq_iff_iff]
  simp only [List.any_eq_true, List.mem_map, decide_eq_true_eq]
  constructor
  · rintro ⟨_, ⟨a, ha, rfl⟩, h⟩
    rw [e.eq, decide_eq_true_eq] at h
    exact h ▸ ha
  · exact fun h => ⟨_, ⟨x, h, rfl⟩, by rw [e.eq]; simp⟩
theorem o_inL [e : Eqy f] (x : α) (ys : List α) (h : e.k ≤ 49 := by decide) : dIn (f x) (lC f ys) = some (.fro (.bl (decide (x ∈ ys)))) := by
  have h1 := e.ok x 49 h
  have h2 := allOk_map e ys h
  simp only [dIn, lC, isIn, h1, h2, any_map, Bool.and_self, if_true, Option.map_some]
theorem o_inT [e : Eqy f] (x : α) (ys : List α) (h : e.k ≤ 49 := by decide) : dIn (f x) (tC f ys) = some (.fro (.bl (decide (x ∈ ys)))) := o_inL x ys h
theorem o_ninL [e : Eqy f] (x : α) (ys : List α) (h : e.k ≤ 49 := by decide) : dNotIn (f x) (lC f ys) = some (.fro (.bl (decide (x ∉ ys)))) := by
  have h1 := e.ok x 49 h
  have h2 := allOk_map e ys h
  simp only [dNotIn, lC, isIn, h1, h2, any_map, Bool.and_self, if_true, Option.map_some]
  simp
theorem o_ninT [e : Eqy f] (x : α) (ys : List α) (h : e.k ≤ 49 := by decide) : dNotIn (f x) (tC f ys) = some (.fro (.bl (decide (x ∉ ys)))) := o_ninL x ys h
/-- an optional thing in a list -/
def omem (x : Option α) (ys : List α) : Bool := match x with
  | some a => decide (a ∈ ys)
  | none => false
theorem o_inLo [e : Eqy f] [n : Nn f] (x : Option α) (ys : List α) (h : e.k ≤ 49 := by decide) : dIn (oC f x) (lC f ys) = some (.fro (.bl (omem x ys))) := by
  cases x with
  | some a => exact o_inL a ys h
  | none =>
    have h2 := allOk_map e ys h
    have h3 : (ys.map f).any (fun z => deq z .non) = false := by
      rw [List.any_eq_false]
      rintro _ hx
      obtain ⟨a, _, rfl⟩ := List.mem_map.mp hx
      simp [n.l]
    show (if (eqOk 49 .non && (ys.map f).all (eqOk 49)) = true then some ((ys.map f).any fun z => deq z .non) else none).map _ = _
    rw [h2, h3]
    rfl
theorem o_ninLo [e : Eqy f] [n : Nn f] (x : Option α) (ys : List α) (h : e.k ≤ 49 := by decide) : dNotIn (oC f x) (lC f ys) = some (.fro (.bl (!omem x ys))) := by
  have := o_inLo (f := f) x ys h
  unfold dIn at this
  unfold dNotIn
  obtain ⟨b, h1, h2⟩ := map_some_iff this
  rw [h1]
  cases h2
  rfl
theorem o_inTo [e : Eqy f] [n : Nn f] (x : Option α) (ys : List α) (h : e.k ≤ 49 := by decide) : dIn (oC f x) (tC f ys) = some (.fro (.bl (omem x ys))) := o_inLo x ys h
theorem o_ninTo [e : Eqy f] [n : Nn f] (x : Option α) (ys : List α) (h : e.k ≤ 49 := by decide) : dNotIn (oC f x) (tC f ys) = some (.fro (.bl (!omem x ys))) := o_ninLo x ys h
end
theorem o_isN [n : Nn f] (x : Option α) : dIs (oC f x) .non = some (.fro (.bl x.isNone)) := by
  cases x with
  | none => rfl
  | some a =>
    have h := n.n a
    show dIs (f a) .non = _
    cases hf : f a <;> first | rfl | exact absurd hf h
theorem o_isnN [n : Nn f] (x : Option α) : dIsNot (oC f x) .non = some (.fro (.bl x.isSome)) := by
  cases x with
  | none => rfl
  | some a =>
    have h := n.n a
    show dIsNot (f a) .non = _
    cases hf : f a <;> first | rfl | exact absurd hf h
/-- lists no longer than a million, all through -/
def shortD : Nat → D → Bool
  | n + 1, .tup xs => decide (xs.length ≤ 1000000) && xs.all (shortD n)
  | n + 1, .lst xs => decide (xs.length ≤ 1000000) && xs.all (shortD n)
  | 0, .tup _ => false
  | 0, .lst _ => false
  | _, .dct _ _ => false
  | _, .hd _ => false
  | _, .scr _ => false
  | _, _ => true
/-- equal, and no great lists -/
def sameP {α : Type} [DecidableEq α] (f : α → D) (a b : α) : Option Bool := if a = b ∧ shortD 4 (f a) = true then some true else none
theorem o_addN (a b : Nat) : dAdd (nD a) (nD b) = some (.fro (nD (a + b))) := rfl
theorem o_addI (a b : Int) : dAdd (.int a) (.int b) = some (.fro (.int (a + b))) := rfl
theorem o_subI (a b : Int) : dSub (.int a) (.int b) = some (.fro (.int (a - b))) := rfl
theorem o_ltN (a b : Nat) : dLt (nD a) (nD b) = some (.fro (.bl (decide (a < b)))) := by
  show some (RV.fro (.bl (decide ((a : Int) < b)))) = _
  simp
theorem o_leN (a b : Nat) : dLe (nD a) (nD b) = some (.fro (.bl (decide (a ≤ b)))) := by
  show some (RV.fro (.bl (decide ((a : Int) ≤ b)))) = _
  simp
theorem o_gtN (a b : Nat) : dGt (nD a) (nD b) = some (.fro (.bl (decide (b < a)))) := by
  show some (RV.fro (.bl (decide ((b : Int) < a)))) = _
  simp
theorem o_geN (a b : Nat) : dGe (nD a) (nD b) = some (.fro (.bl (decide (b ≤ a)))) := by
  show some (RV.fro (.bl (decide ((b : Int) ≤ a)))) = _
  simp
theorem o_ltI (a b : Int) : dLt (.int a) (.int b) = some (.fro (.bl (decide (a < b)))) := rfl
theorem o_leI (a b : Int) : dLe (.int a) (.int b) = some (.fro (.bl (decide (a ≤ b)))) := rfl
theorem o_gtI (a b : Int) : dGt (.int a) (.int b) = some (.fro (.bl (decide (b < a)))) := rfl
theorem o_geI (a b : Int) : dGe (.int a) (.int b) = some (.fro (.bl (decide (b ≤ a)))) := rfl
theorem E_neg {a : Ev Bor} {s s1 : Sg} {i : Int} (h : O a s (.int i) s1) : E (evNeg a) s (.fro (.int (-i))) s1 := by
  obtain ⟨x, e1, f1⟩ := h.ex
  refine ⟨?_, h.kp⟩
  unfold evNeg
  rw [e1, Option.bind_some, f1 s1 (Keep.refl _)]
theorem o_minN0 (a b : Nat) : dMin [nD a, nD b] = some (.fro (nD (min a b))) := by
  show some (RV.fro (.int (min (a : Int) b))) = _
  rw [show min (a : Int) b = ((min a b : Nat) : Int) by omega]; rfl
theorem o_maxN0 (a b : Nat) : dMax [nD a, nD b] = some (.fro (nD (max a b))) := by
  show some (RV.fro (.int (max (a : Int) b))) = _
  rw [show max (a : Int) b = ((max a b : Nat) : Int) by omega]; rfl
theorem o_minI0 (a b : Int) : dMin [.int a, .int b] = some (.fro (.int (min a b))) := rfl
theorem o_maxI0 (a b : Int) : dMax [.int a, .int b] = some (.fro (.int (max a b))) := rfl
theorem intsOf_int : ∀ xs : List Int, intsOf (xs.map .int) = some xs
  | [] => rfl
  | x :: xs => by simp [intsOf, intsOf_int xs]
theorem intsOf_nD (xs : List Nat) : intsOf (xs.map nD) = some (xs.map fun x : Nat => (x : Int)) := by
  rw [nD_ints, intsOf_int]
theorem sum_cast : ∀ xs : List Nat, (xs.map fun x : Nat => (x : Int)).sum = (xs.sum : Nat)
  | [] => rfl
  | x :: xs => by rw [List.map_cons, List.sum_cons, sum_cast xs, List.sum_cons]; omega
theorem o_sumN (xs : List Nat) : dSum [lC nD xs] = some (.fro (nD xs.sum)) := by
  simp only [dSum, lC, intsOf_nD, Option.map_some, sum_cast]; rfl
theorem o_sumI (xs : List Int) : dSum [lC .int xs] = some (.fro (.int xs.sum)) := by
  simp only [dSum, lC, intsOf_int, Option.map_some]
def minP (xs : List Int) : Option Int := if xs.isEmpty then none else some (lMin xs)
def maxP (xs : List Int) : Option Int := if xs.isEmpty then none else some (lMax xs)
theorem o_minLI0 {xs : List Int} {m : Int} (h : minP xs = some m) : dMin [lC .int xs] = some (.fro (.int m)) := by
  unfold minP at h
  simp only [dMin, lC, intsOf_int, Option.bind_some]
  split at h
  · cases h
  · rename_i hx; cases h; rw [if_neg hx]
theorem o_maxLI0 {xs : List Int} {m : Int} (h : maxP xs = some m) : dMax [lC .int xs] = some (.fro (.int m)) := by
  unfold maxP at h
  simp only [dMax, lC, intsOf_int, Option.bind_some]
  split at h
  · cases h
  · rename_i hx; cases h; rw [if_neg hx]
class IsT {α : Type} (f : α → D) : Prop where
  t : ∀ a, ∃ l, f a = .tup l
instance {α β : Type} (f : α → D) (g : β → D) : IsT (p2 f g) := ⟨fun a => ⟨_, rfl⟩⟩
instance {α β γ : Type} (f : α → D) (g : β → D) (h : γ → D) : IsT (p3 f g h) := ⟨fun a => ⟨_, rfl⟩⟩
instance {α : Type} (f : α → D) : IsT (tC f) := ⟨fun a => ⟨_, rfl⟩⟩
def ltBy {α : Type} (f : α → D) (a b : α) : Bool := PySem.W.dataLt (py (f a)) (py (f b))
def minBy {α : Type} (f : α → D) (x : α) (xs : List α) : α := xs.foldl (fun a y => if ltBy f y a = true then y else a) x
def maxBy {α : Type} (f : α → D) (x : α) (xs : List α) : α := xs.foldl (fun a y => if ltBy f a y = true then y else a) x
def minByP {α : Type} (f : α → D) (xs : List α) : Option α := match xs with
  | [] => none
  | x :: xs => if mmOk ((x :: xs).map f) = true then some (minBy f x xs) else none
def maxByP {α : Type} (f : α → D) (xs : List α) : Option α := match xs with
  | [] => none
  | x :: xs => if mmOk ((x :: xs).map f) = true then some (maxBy f x xs) else none
theorem minDD_map {α : Type} (f : α → D) : ∀ (xs : List α) (x : α), minDD (f x) (xs.map f) = f (minBy f x xs)
  | [], x => rfl
  | y :: xs, x => by
    show minDD (if PySem.W.dataLt (py (f y)) (py (f x)) = true then f y else f x) (xs.map f) = f (minBy f (if ltBy f y x = true then y else x) xs)
    rw [← minDD_map f xs]
    unfold ltBy
    split <;> rfl
theorem maxDD_map {α : Type} (f : α → D) : ∀ (xs : List α) (x : α), maxDD (f x) (xs.map f) = f (maxBy f x xs)
  | [], x => rfl
  | y :: xs, x => by
    show maxDD (if PySem.W.dataLt (py (f x)) (py (f y)) = true then f y else f x) (xs.map f) = f (maxBy f (if ltBy f x y = true then y else x) xs)
    rw [← maxDD_map f xs]
    unfold ltBy
    split <;> rfl
theorem o_minBy {α : Type} {f : α → D} [it : IsT f] {xs : List α} {m : α} (h : minByP f xs = some m) : dMinA [lC f xs] = some (.fro (f m)) := by
  cases xs with
  | nil => cases h
  | cons x xs =>
    have h : (if mmOk ((x :: xs).map f) = true then some (minBy f x xs) else none) = some m := h
    split at h
    · rename_i hk
      have := Option.some.inj h
      subst this
      obtain ⟨l, e⟩ := it.t x
      have e0 : dMin [lC f (x :: xs)] = none := by
        show (intsOf (f x :: xs.map f)).bind _ = none
        rw [e]; rfl
      unfold dMinA
      rw [e0]
      show (if mmOk ((x :: xs).map f) = true then some (RV.fro (minDD (f x) (xs.map f))) else none) = _
      rw [if_pos hk, minDD_map]
    · cases h
theorem o_maxBy {α : Type} {f : α → D} [it : IsT f] {xs : List α} {m : α} (h : maxByP f xs = some m) : dMaxA [lC f xs] = some (.fro (f m)) := by
  cases xs with
  | nil => cases h
  | cons x xs =>
    have h : (if mmOk ((x :: xs).map f) = true then some (maxBy f x xs) else none) = some m := h
    split at h
    · rename_i hk
      have := Option.some.inj h
      subst this
      obtain ⟨l, e⟩ := it.t x
      have e0 : dMax [lC f (x :: xs)] = none := by
        show (intsOf (f x :: xs.map f)).bind _ = none
        rw [e]; rfl
      unfold dMaxA
      rw [e0]
      show (if mmOk ((x :: xs).map f) = true then some (RV.fro (maxDD (f x) (xs.map f))) else none) = _
      rw [if_pos hk, maxDD_map]
    · cases h
def lMinN : List Nat → Nat
  | [] => 0
  | [x] => x
  | x :: xs => min x (lMinN xs)
def lMaxN : List Nat → Nat
  | [] => 0
  | [x] => x
  | x :: xs => max x (lMaxN xs)
theorem lMin_cast : ∀ xs : List Nat, lMin (xs.map fun x : Nat => (x : Int)) = (lMinN xs : Nat)
  | [] => rfl
  | [x] => rfl
  | x :: y :: xs => by
    have := lMin_cast (y :: xs)
    show min (x : Int) (lMin ((y :: xs).map fun x : Nat => (x : Int))) = ((min x (lMinN (y :: xs)) : Nat) : Int)
    rw [this]; omega
theorem lMax_cast : ∀ xs : List Nat, lMax (xs.map fun x : Nat => (x : Int)) = (lMaxN xs : Nat)
  | [] => rfl
  | [x] => rfl
  | x :: y :: xs => by
    have := lMax_cast (y :: xs)
    show max (x : Int) (lMax ((y :: xs).map fun x : Nat => (x : Int))) = ((max x (lMaxN (y :: xs)) : Nat) : Int)
    rw [this]; omega
def minNP (xs : List Nat) : Option Nat := if xs.isEmpty then none else some (lMinN xs)
def maxNP (xs : List Nat) : Option Nat := if xs.isEmpty then none else some (lMaxN xs)
theorem o_minLN0 {xs : List Nat} {m : Nat} (h : minNP xs = some m) : dMin [lC nD xs] = some (.fro (nD m)) := by
  unfold minNP at h
  split at h
  · cases h
  · rename_i hx
    cases h
    simp only [dMin, lC, intsOf_nD, Option.bind_some, lMin_cast]
    rw [if_neg (by simpa using hx)]
    rfl
theorem o_maxLN0 {xs : List Nat} {m : Nat} (h : maxNP xs = some m) : dMax [lC nD xs] = some (.fro (nD m)) := by
  unfold maxNP at h
  split at h
  · cases h
  · rename_i hx
    cases h
    simp only [dMax, lC, intsOf_nD, Option.bind_some, lMax_cast]
    rw [if_neg (by simpa using hx)]
    rfl
theorem o_minN (a b : Nat) : dMinA [nD a, nD b] = some (.fro (nD (min a b))) := minA_of (o_minN0 a b)
theorem o_maxN (a b : Nat) : dMaxA [nD a, nD b] = some (.fro (nD (max a b))) := maxA_of (o_maxN0 a b)
theorem o_minI (a b : Int) : dMinA [.int a, .int b] = some (.fro (.int (min a b))) := minA_of (o_minI0 a b)
theorem o_maxI (a b : Int) : dMaxA [.int a, .int b] = some (.fro (.int (max a b))) := maxA_of (o_maxI0 a b)
theorem o_minLI {xs : List Int} {m : Int} (h : minP xs = some m) : dMinA [lC .int xs] = some (.fro (.int m)) := minA_of (o_minLI0 h)
theorem o_maxLI {xs : List Int} {m : Int} (h : maxP xs = some m) : dMaxA [lC .int xs] = some (.fro (.int m)) := maxA_of (o_maxLI0 h)
theorem o_minLN {xs : List Nat} {m : Nat} (h : minNP xs = some m) : dMinA [lC nD xs] = some (.fro (nD m)) := minA_of (o_minLN0 h)
theorem o_maxLN {xs : List Nat} {m : Nat} (h : maxNP xs = some m) : dMaxA [lC nD xs] = some (.fro (nD m)) := maxA_of (o_maxLN0 h)
theorem blsOf_bl : ∀ xs : List Bool, blsOf (xs.map .bl) = some xs
  | [] => rfl
  | x :: xs => by simp [blsOf, blsOf_bl xs]
theorem o_all (xs : List Bool) : dAll [lC .bl xs] = some (.fro (.bl (xs.all id))) := by
  simp only [dAll, lC, blsOf_bl, Option.map_some]
theorem o_any (xs : List Bool) : dAny [lC .bl xs] = some (.fro (.bl (xs.any id))) := by
  simp only [dAny, lC, blsOf_bl, Option.map_some]
theorem o_addL {a b c : List α} (h : addP a b = some c) : dAdd (lC f a) (lC f b) = some (.own (lC f c)) := by
  unfold addP at h
  split at h
  · cases h
    rw [lC, lC, addL_ok (by simpa using by assumption), lC, List.map_append]
  · cases h
theorem o_addT {a b c : List α} (h : addP a b = some c) : dAdd (tC f a) (tC f b) = some (.fro (tC f c)) := by
  unfold addP at h
  split at h
  · cases h
    rw [tC, tC, addT_ok (by simpa using by assumption), tC, List.map_append]
  · cases h
theorem addT_b {a b : List D} (h : Nat.ble (a.length + b.length) 1000000 = true) : dAdd (.tup a) (.tup b) = some (.fro (.tup (a ++ b))) := if_pos (Nat.le_of_ble_eq_true h)
theorem o_ixL {xs : List α} {i : Nat} {x : α} (h : xs[i]? = some x) : dIx (lC f xs) (nD i) = some (.fro (f x)) := dIx_lst (by simp [h])
theorem o_ixT {xs : List α} {i : Nat} {x : α} (h : xs[i]? = some x) : dIx (tC f xs) (nD i) = some (.fro (f x)) := dIx_tup (by simp [h])
theorem o_ixrs {w : Web} {i : Nat} {x : Rd} (h : w.rs[i]? = some x) : dIx (.tup (w.rs.map rdD)) (nD i) = some (.fro (rdD x)) := dIx_tup (by simp [h])
theorem ixN_m1 {n : Nat} (h : 0 < n) : ixN n (-1) = some (n - 1) := by
  unfold ixN
  rw [if_neg (by omega), if_pos (by omega)]
  congr 1
  omega
theorem o_ixLl {xs : List α} {x : α} (h : xs.getLast? = some x) : dIx (lC f xs) (.int (-1)) = some (.fro (f x)) := by
  have hx : xs ≠ [] := by rintro rfl; cases h
  have hl : 0 < (xs.map f).length := by rw [List.length_map]; exact List.length_pos_iff.mpr hx
  rw [List.getLast?_eq_getElem?] at h
  show ((ixN (xs.map f).length (-1)).bind fun j => (xs.map f)[j]?).map RV.fro = _
  rw [ixN_m1 hl, Option.bind_some, List.length_map, List.getElem?_map, h]
  rfl
theorem o_ixTl {xs : List α} {x : α} (h : xs.getLast? = some x) : dIx (tC f xs) (.int (-1)) = some (.fro (f x)) := o_ixLl (f := f) h
theorem o_lenL (xs : List α) : dLen [lC f xs] = some (.fro (nD xs.length)) := by
  show some (RV.fro (.int (xs.map f).length)) = _
  rw [List.length_map]; rfl
theorem o_lenT (xs : List α) : dLen [tC f xs] = some (.fro (nD xs.length)) := o_lenL (f := f) xs
theorem o_listT (xs : List α) : dList [tC f xs] = some (.own (lC f xs)) := rfl
theorem o_listL (xs : List α) : dList [lC f xs] = some (.own (lC f xs)) := rfl
theorem o_tupT (xs : List α) : dTuple [tC f xs] = some (.fro (tC f xs)) := rfl
theorem o_tupL (xs : List α) : dTuple [lC f xs] = some (.fro (tC f xs)) := rfl
theorem o_slF (xs : List α) (k : Nat) : dSl (lC f xs) (some (k : Int)) none = some (.own (lC f (xs.drop k))) := by
  simp only [dSl, lC, cut_drop, List.map_drop]
theorem o_slT (xs : List α) (k : Nat) : dSl (lC f xs) none (some (k : Int)) = some (.own (lC f (xs.take k))) := by
  simp only [dSl, lC, cut_take, List.map_take]
theorem o_slA (xs : List α) : dSl (lC f xs) none none = some (.own (lC f xs)) := by
  simp only [dSl, lC]
  rw [cut_whole ⟨HT.sIx_none _ _, HT.sIx_none _ _⟩]
theorem o_tslF (xs : List α) (k : Nat) : dSl (tC f xs) (some (k : Int)) none = some (.fro (tC f (xs.drop k))) := by
  simp only [dSl, tC, cut_drop, List.map_drop]
theorem o_tslT (xs : List α) (k : Nat) : dSl (tC f xs) none (some (k : Int)) = some (.fro (tC f (xs.take k))) := by
  simp only [dSl, tC, cut_take, List.map_take]
theorem cut_nat {α : Type} (xs : List α) (a b : Nat) : cutL xs (some (a : Int)) (some (b : Int)) = (xs.drop a).take (b - a) := by
  unfold cutL
  rw [HT.sIx_nat, HT.sIx_nat]
  by_cases h : a ≤ xs.length
  · rw [Nat.min_eq_left h, List.take_eq_take_iff, List.length_drop]
    by_cases h2 : b ≤ xs.length
    · rw [Nat.min_eq_left h2]
    · rw [Nat.min_eq_right (by omega)]; omega
  · rw [Nat.min_eq_right (a := a) (by omega), List.drop_eq_nil_of_le (Nat.le_refl _), List.drop_eq_nil_of_le (by omega)]; simp
theorem o_sl (xs : List α) (a b : Nat) : dSl (lC f xs) (some (a : Int)) (some (b : Int)) = some (.own (lC f ((xs.drop a).take (b - a)))) := by
  simp only [dSl, lC, cut_nat, List.map_take, List.map_drop]
theorem o_tsl (xs : List α) (a b : Nat) : dSl (tC f xs) (some (a : Int)) (some (b : Int)) = some (.fro (tC f ((xs.drop a).take (b - a)))) := by
  simp only [dSl, tC, cut_nat, List.map_take, List.map_drop]
theorem pairUp_map : ∀ (xs : List α) (ys : List β), pairUp (xs.map f) (ys.map g) = (xs.zip ys).map (p2 f g)
  | [], _ => rfl
  | _ :: _, [] => rfl
  | x :: xs, y :: ys => by simp [pairUp, pairUp_map xs ys, p2]
theorem o_zipL (xs : List α) (ys : List β) : dZip [lC f xs, lC g ys] = some ((xs.zip ys).map (p2 f g)) := by
  show some (pairUp _ _) = _
  rw [pairUp_map]
theorem o_zipT (xs : List α) (ys : List β) : dZip [tC f xs, tC g ys] = some ((xs.zip ys).map (p2 f g)) := o_zipL xs ys
theorem o_enumL (xs : List α) : dEnumS [lC f xs] = some ((numd xs).map (p2 nD f)) := by
  show some (pairUp (upTo 0 (xs.map f).length) (xs.map f)) = _
  rw [upToN, List.length_map, pairUp_map]; rfl
theorem o_enumT (xs : List α) : dEnumS [tC f xs] = some ((numd xs).map (p2 nD f)) := o_enumL xs
theorem o_app {xs ys : List α} {x : α} (h : appP xs x = some ys) : mAppend (lC f xs) [f x] = some (lC f ys, .non) := by
  unfold appP at h
  split at h
  · cases h
    rw [lC, append_ok (by simpa using by assumption), lC, List.map_append]; rfl
  · cases h
theorem o_ext {xs ys zs : List α} (h : addP xs ys = some zs) : mExtend (lC f xs) [lC f ys] = some (lC f zs, .non) := by
  unfold addP at h
  split at h
  · cases h
    rw [lC, lC, extend_ok (by simpa using by assumption), lC, List.map_append]
  · cases h
theorem o_ins {xs ys : List α} {i : Nat} {x : α} (h : insP xs i x = some ys) : mInsert (lC f xs) [nD i, f x] = some (lC f ys, .non) := by
  unfold insP at h
  split at h
  · rename_i hl
    cases h
    rw [lC]
    show mInsert (.lst (xs.map f)) [.int (i : Int), f x] = _
    rw [insert_ok (by simpa using hl.1) hl.2]
    simp [lC, List.map_take, List.map_drop]
  · cases h
theorem o_pop {xs : List α} {r : α × List α} (h : popP xs = some r) : mPop (lC f xs) [] = some (lC f r.2, f r.1) := by
  unfold popP at h
  obtain ⟨x, e, h⟩ := map_some_iff h
  cases h
  show ((xs.map f)[(xs.map f).length - 1]?).map _ = _
  rw [List.length_map, List.getElem?_map, e]
  simp [lC, List.map_dropLast]
theorem o_set {xs ys : List α} {i : Nat} {x : α} (h : setP xs i x = some ys) : dSet (lC f xs) (nD i) (f x) = some (lC f ys) := by
  unfold setP at h
  split at h
  · rename_i hl
    cases h
    rw [lC]
    show dSet (.lst (xs.map f)) (.int (i : Int)) (f x) = _
    rw [dSet_lst _ (by simpa using hl), lC, List.map_set]
  · cases h
theorem o_truL (xs : List α) : tru (lC f xs) = some (!xs.isEmpty) := by
  show some (!(xs.map f).isEmpty) = _
  simp
theorem o_truT (xs : List α) : tru (tC f xs) = some (!xs.isEmpty) := o_truL (f := f) xs
def sortBy (f : α → D) (xs : List α) : List α := xs.mergeSort fun a b => dle (f a) (f b)
def sortP (f : α → D) (xs : List α) : Option (List α) := if sortOk (xs.map f) = true then some (sortBy f xs) else if xs.length ≤ 1 then some xs else none
theorem o_sortL {xs ys : List α} (h : sortP f xs = some ys) : dSortedA [lC f xs] = some (.own (lC f ys)) := by
  unfold sortP at h
  split at h
  · rename_i hs
    cases h
    refine sortedA_of ?_
    rw [lC]
    simp only [dSorted, hs, if_true]
    rw [lC, sortBy, ← List.map_mergeSort (f := f) (r := fun a b => dle (f a) (f b)) (s := dle) (fun _ _ _ _ => rfl)]
  · rename_i hs
    split at h
    · rename_i hl
      cases h
      unfold dSortedA
      have e : dSorted [lC f xs] = none := by
        rw [lC]
        simp only [dSorted]
        rw [if_neg hs]
      rw [e]
      show (if (xs.map f).length ≤ 1 then some (RV.own (.lst (xs.map f))) else none) = _
      rw [if_pos (by simpa using hl)]; rfl
    · cases h
def sortTP (f : α → D) (xs : List α) : Option (List α) := if sortOk (xs.map f) = true then some (sortBy f xs) else none
theorem o_sortT {xs ys : List α} (h : sortTP f xs = some ys) : dSortedA [tC f xs] = some (.own (lC f ys)) := by
  unfold sortTP at h
  split at h
  · rename_i hs
    cases h
    refine sortedA_of ?_
    rw [tC]
    simp only [dSorted, hs, if_true]
    rw [lC, sortBy, ← List.map_mergeSort (f := f) (r := fun a b => dle (f a) (f b)) (s := dle) (fun _ _ _ _ => rfl)]
  · cases h
def reprP (d : D) : Option Str := if rpOk d = true then some (reprD d) else none
theorem o_repr {d : D} {x : Str} (h : reprP d = some x) : dRepr [d] = some (.fro (.str x)) := by
  unfold reprP at h
  split at h
  · rename_i hs
    cases h
    simp only [dRepr, hs, if_true]
  · cases h
theorem o_neS (a b : Str) : dNe (.str a) (.str b) = some (.fro (.bl (decide (a ≠ b)))) := by
  show some (RV.fro (.bl (!decide (a = b)))) = _
  simp
theorem o_eqS (a b : Str) : dEq (.str a) (.str b) = some (.fro (.bl (decide (a = b)))) := rfl
/-- sorted(set(..)) -/
def sortUN (xs : List Nat) : List Nat := (sortU (xs.map fun x : Nat => (x : Int))).map Int.toNat
def sortSetP (xs : List Nat) : Option (List Nat) := if xs.length ≤ 60 then some (sortUN xs) else none
theorem o_sset {xs ys : List Nat} (h : sortSetP xs = some ys) : dSortSet (tC nD xs) = some (.own (lC nD ys)) := by
  unfold sortSetP at h
  split at h
  · rename_i hs
    cases h
    simp only [dSortSet, tC, intsOf_nD, Option.bind_some, List.length_map, hs, if_true]
    congr 2
    rw [lC, sortUN, List.map_map]
    congr 1
    refine List.map_congr_left fun i hi => ?_
    have : i ∈ xs.map fun x : Nat => (x : Int) := sortU_mem.mp hi
    obtain ⟨a, _, rfl⟩ := List.mem_map.mp this
    rfl
  · cases h
end
def repP {α : Type} (xs : List α) (k : Nat) : Option (List α) := if k ≤ 1000 ∧ xs.length ≤ 1000 then some (List.replicate k xs).flatten else none
theorem o_mulL {α : Type} {f : α → D} {a c : List α} {k : Nat} (h : repP a k = some c) : dMul (lC f a) (nD k) = some (.own (lC f c)) := by
  unfold repP at h
  split at h
  · rename_i hh
    cases h
    have e : (List.replicate k a).flatten.map f = (List.replicate k (a.map f)).flatten := by
      rw [List.map_flatten, List.map_replicate]
    show dMul (.lst (a.map f)) (.int (k : Int)) = some (.own (.lst ((List.replicate k a).flatten.map f)))
    rw [e]
    show (if _ then _ else _) = _
    rw [if_pos (by simp; omega)]
    rfl
  · cases h
theorem o_intB (b : Bool) : dInt [D.bl b] = some (.fro (nD b.toNat)) := by cases b <;> rfl
def mulNP (a b : Nat) : Option Nat := if a < 18446744073709551616 ∨ b < 18446744073709551616 then some (a * b) else none
theorem o_mulN {a b c : Nat} (h : mulNP a b = some c) : dMul (nD a) (nD b) = some (.fro (nD c)) := by
  unfold mulNP at h
  split at h
  · rename_i hh
    cases h
    show (if (smallI (a : Int) || smallI (b : Int)) = true then some (RV.fro (.int ((a : Int) * (b : Int)))) else none) = _
    rw [if_pos (by simp [smallI]; omega)]
    show some (RV.fro (.int ((a : Int) * (b : Int)))) = some (.fro (.int ((a * b : Nat) : Int)))
    rw [Int.natCast_mul]
  · cases h
end Pv

namespace G
open PySem PySem.Spec L2 Pv
theorem pairUp_self : ∀ xs : List D, pairUp xs xs = xs.map fun x => .tup [x, x]
  | [] => rfl
  | x :: xs => by rw [pairUp, pairUp_self xs]; rfl
theorem deq_ft (n : Nat) : (List.replicate n (D.bl true)).any (fun z => deq z (.bl false)) = false := by
  rw [List.any_eq_false]
  intro x hx
  rw [List.eq_of_mem_replicate hx]
  simp
theorem eqOk_rep (n : Nat) : (List.replicate n (D.bl true)).all (eqOk 49) = true := by
  rw [List.all_eq_true]
  intro x hx
  rw [List.eq_of_mem_replicate hx]
  rfl
theorem notin_rep (n : Nat) : dNotIn (.bl false) (.lst (List.replicate n (.bl true))) = some (.fro (.bl true)) := by
  have : eqOk 49 (.bl false) = true := rfl
  simp only [dNotIn, isIn, eqOk_rep, this, deq_ft, Bool.and_self, if_true, Option.map_some, Bool.not_false]
theorem same_seq {m : Fm} {xs : List D} {st : List Cell} (a b : D) (h : ∀ x ∈ xs, m [x, x] st = some (.fro (.bl true), st)) (hl : xs.length ≤ 1000000) (ab : dZip [a, b] = some (pairUp xs xs)) :
    evLc (evArgs dZip (evCons (evName 0) (evCons (evName 1) (evNil)))) [] [2, 3] (tgTup 2 (tgCons (tgName 2) (tgCons (tgName 3) (tgNil)))) (evYes) (evCall m (evCons (evName 2) (evCons (evName 3) (evNil)))) ⟨[.fro a, .fro b, .non, .non], st⟩ =
      some (.own (.lst (List.replicate xs.length (.bl true))), ⟨[.fro a, .fro b, .non, .non], st⟩) := by
  have := lc_map (α := D) (fun x => .tup [x, x]) (fun _ => true) (fun _ => .bl true) xs (it := evArgs dZip (evCons (evName 0) (evCons (evName 1) (evNil)))) (cap := []) (vs := [2, 3]) (t := tgTup 2 (tgCons (tgName 2) (tgCons (tgName 3) (tgNil)))) (c := evYes) (e := evCall m (evCons (evName 2) (evCons (evName 3) (evNil))))
    (s := ⟨[.fro a, .fro b, .non, .non], st⟩) (s' := ⟨[.fro a, .fro b, .non, .non], st⟩) (by simp [ab, pairUp_self]) hl (fun x hx => ⟨⟨[.fro a, .fro b, .fro x, .fro x], st⟩, _, by simp, rfl, rfl, fun _ => ⟨.fro (.bl true), ⟨[.fro a, .fro b, .fro x, .fro x], st⟩, by simp [h x hx], rfl, rfl⟩⟩)
  rw [this, List.filter_eq_self.mpr fun _ _ => rfl, List.map_const']
  rfl
theorem v_same : ∀ (k : Nat) (d : D) (st : List Cell), shortD k d = true → m__law_same (k + 1) [d, d] st = some (.fro (.bl true), st)
  | k, .non, st, _ => by simp [m__law_same, ev__law_same]
  | k, .bl b, st, _ => by simp [m__law_same, ev__law_same]
  | k, .int b, st, _ => by simp [m__law_same, ev__law_same]
  | k, .str b, st, _ => by simp [m__law_same, ev__law_same, dEq]
  | 0, .tup xs, st, h => by simp [shortD] at h
  | 0, .lst xs, st, h => by simp [shortD] at h
  | k + 1, .tup xs, st, h2 => by
    simp only [shortD, Bool.and_eq_true, decide_eq_true_eq, List.all_eq_true] at h2
    have := same_seq (m := m__law_same (k + 1)) (st := st) (.tup xs) (.tup xs) (fun x hx => v_same k x st (h2.2 x hx)) h2.1 rfl
    unfold m__law_same
    simp [ev__law_same, this, notin_rep]
  | k + 1, .lst xs, st, h2 => by
    simp only [shortD, Bool.and_eq_true, decide_eq_true_eq, List.all_eq_true] at h2
    have := same_seq (m := m__law_same (k + 1)) (st := st) (.lst xs) (.lst xs) (fun x hx => v_same k x st (h2.2 x hx)) h2.1 rfl
    unfold m__law_same
    simp [ev__law_same, this, notin_rep]
  | k, .dct _ _, st, h => by cases k <;> simp [shortD] at h
  | k, .hd _, st, h => by cases k <;> simp [shortD] at h
  | k, .scr _, st, h => by cases k <;> simp [shortD] at h
theorem q_same {α : Type} [DecidableEq α] {f : α → D} {a b : α} {y : Bool} (h : sameP f a b = some y) (st : List Cell) : m__law_same 5 [f a, f b] st = some (.fro (.bl y), st) := by
  unfold sameP at h
  split at h
  · rename_i hs
    have := Option.some.inj h
    subst this
    rw [← hs.1]
    exact v_same 4 (f a) st hs.2
  · cases h
end G

namespace G
open PySem PySem.Spec L2 Pv
noncomputable def p_reached (pairs_ : (List (Nat × Nat))) (house_ : Nat) : Option (List Nat) :=
  (whP (fun (v_1 : (List Nat) × Bool) => some v_1.2) (fun (v_1 : (List Nat) × Bool) =>
    (forP (fun (x_6 : (Nat × Nat)) (v_4 : (List Nat) × Bool) =>
      (if (decide ((decide (x_6.1 ∈ v_4.1)) ≠ (decide (x_6.2 ∈ v_4.1)))) = true then
        (appP v_4.1 (if (decide (x_6.1 ∈ v_4.1)) = true then x_6.2 else x_6.1)).bind fun found_8 =>
        some (found_8, true)
      else
        some (v_4.1, v_4.2))) pairs_ (v_1.1, false)).bind fun (w_9 : (List Nat) × Bool) =>
    some (w_9.1, w_9.2)) 1000 (([house_] : List Nat), true)).bind fun (w_11 : (List Nat) × Bool) =>
  (sortP nD w_11.1).bind fun srt_13 =>
  some srt_13
noncomputable def p_low_of (web_ : Web) (road_ : Nat) : Option Nat :=
  (web_.rs[road_]?).bind fun it_1 =>
  some it_1.lo
noncomputable def p_high_of (web_ : Web) (road_ : Nat) : Option Nat :=
  (web_.rs[road_]?).bind fun it_1 =>
  some it_1.hi
noncomputable def p_raised (web_ : Web) (some_ : (List Nat)) : Option (List Nat) :=
  (forP (fun (x_3 : (Nat × Rd)) (v_1 : (List Nat)) =>
    (appP v_1 (if (decide (x_3.1 ∈ some_)) = true then x_3.2.hi else x_3.2.lo)).bind fun found_4 =>
    some found_4) (numd web_.rs) ([] : List Nat)).bind fun (w_5 : (List Nat)) =>
  some w_5
noncomputable def p_other_roads (web_ : Web) (some_ : (List Nat)) : Option (List Nat) :=
  (rngP web_.rs.length).bind fun rng_1 =>
  (lcT (fun (x_2 : Nat) => (decide (x_2 ∉ some_))) (fun (x_2 : Nat) => x_2) rng_1).bind fun lc_3 =>
  some lc_3
noncomputable def p_ends_of (web_ : Web) (road_ : Nat) : Option (Nat × Nat) :=
  (web_.rs[road_]?).bind fun it_1 =>
  some (it_1.a, it_1.b)
noncomputable def p_beyond (web_ : Web) (road_ : Nat) (house_ : Nat) : Option (Option Nat) :=
  (p_ends_of web_ road_).bind fun ends_of_1 =>
  (if (decide (house_ = ends_of_1.1)) = true then
    some (some ends_of_1.2)
  else
    some (if (decide (house_ = ends_of_1.2)) = true then (some ends_of_1.1) else none))
noncomputable def p_ways_on : Nat → Web → (List Nat) → Nat → Nat → (List Nat) → Option (List (List Nat))
  | 0, _, _, _, _, _ => none
  | k + 1, web_, some_, here_, goal_, seen_ =>
    (if (decide (here_ = goal_)) = true then
      some ([([] : List Nat)] : List (List Nat))
    else
      (forP (fun (x_4 : Nat) (v_2 : (List (List Nat))) =>
        (p_beyond web_ x_4 here_).bind fun beyond_5 =>
        (if (beyond_5.isSome && (!omem beyond_5 seen_)) = true then
          (beyond_5).bind fun there_7 =>
          (addP seen_ ([there_7] : List Nat)).bind fun sum_8 =>
          (p_ways_on k web_ some_ there_7 goal_ sum_8).bind fun ways_on_9 =>
          (lcP (fun (_ : (List Nat)) => some true) (fun (x_10 : (List Nat)) => (addP ([x_4] : List Nat) x_10).bind fun sum_11 => some (sum_11 : (List Nat))) ways_on_9).bind fun lc_12 =>
          (addP v_2 lc_12).bind fun found_13 =>
          some found_13
        else
          some v_2)) some_ ([] : List (List Nat))).bind fun (w_14 : (List (List Nat))) =>
      some w_14)
noncomputable def p_detours_by (web_ : Web) (road_ : Nat) (some_ : (List Nat)) : Option (List (List Nat)) :=
  (p_ends_of web_ road_).bind fun ends_of_1 =>
  (lcT (fun (x_2 : Nat) => (decide (x_2 ≠ road_))) (fun (x_2 : Nat) => x_2) some_).bind fun lc_3 =>
  (p_ways_on 7 web_ lc_3 ends_of_1.1 ends_of_1.2 ([ends_of_1.1] : List Nat)).bind fun ways_on_4 =>
  (sortP (tC nD) ways_on_4).bind fun srt_5 =>
  some srt_5
noncomputable def p_detours (web_ : Web) (road_ : Nat) : Option (List (List Nat)) :=
  (p_other_roads web_ ([road_] : List Nat)).bind fun other_roads_1 =>
  (p_detours_by web_ road_ other_roads_1).bind fun detours_by_2 =>
  some detours_by_2
noncomputable def p_first_detour (web_ : Web) (road_ : Nat) (some_ : (List Nat)) : Option (Option (List Nat)) :=
  (p_detours_by web_ road_ some_).bind fun detours_by_1 =>
  (if (decide (detours_by_1 ≠ ([] : List (List Nat)))) = true then (detours_by_1[(0 : Nat)]?).bind fun it_2 => some ((some it_2) : (Option (List Nat))) else some (none : (Option (List Nat)))).bind fun c_3 =>
  some c_3
noncomputable def p_first_side (web_ : Web) (road_ : Nat) (some_ : (List Nat)) : Option (Option (List Nat)) :=
  (p_ends_of web_ road_).bind fun ends_of_1 =>
  (lcP (fun (x_2 : Nat) => some (decide (x_2 ≠ road_))) (fun (x_2 : Nat) => (p_ends_of web_ x_2).bind fun ends_of_3 => some (ends_of_3 : (Nat × Nat))) some_).bind fun lc_4 =>
  (p_reached lc_4 ends_of_1.1).bind fun reached_5 =>
  some (if (decide (ends_of_1.2 ∈ reached_5)) = true then none else (some reached_5))
noncomputable def p_sides (web_ : Web) (road_ : Nat) : Option (List (List Nat)) :=
  (p_ends_of web_ road_).bind fun ends_of_1 =>
  (some (([([] : List Nat)] : List (List Nat)) : (List (List Nat)))).bind fun found_2 =>
  (rngP web_.n).bind fun rng_3 =>
  (forP (fun (x_6 : Nat) (v_4 : (List (List Nat))) =>
    (if (decide (x_6 = ends_of_1.1)) = true then
      (lcP (fun (_ : (List Nat)) => some true) (fun (x_8 : (List Nat)) => (addP x_8 ([x_6] : List Nat)).bind fun sum_9 => some (sum_9 : (List Nat))) v_4).bind fun lc_10 =>
      some lc_10
    else
      (if (decide (x_6 ≠ ends_of_1.2)) = true then
        (lcP (fun (_ : (List Nat)) => some true) (fun (x_12 : (List Nat)) => (addP x_12 ([x_6] : List Nat)).bind fun sum_13 => some (sum_13 : (List Nat))) v_4).bind fun lc_14 =>
        (addP v_4 lc_14).bind fun sum_15 =>
        some sum_15
      else
        some v_4))) rng_3 found_2).bind fun (w_16 : (List (List Nat))) =>
  (sortP (tC nD) w_16).bind fun srt_18 =>
  some srt_18
noncomputable def p_crossing (web_ : Web) (side_ : (List Nat)) : Option (List Nat) :=
  (rngP web_.rs.length).bind fun rng_1 =>
  (forP (fun (x_4 : Nat) (v_2 : (List Nat)) =>
    (p_ends_of web_ x_4).bind fun ends_of_5 =>
    (if (decide ((decide (ends_of_5.1 ∈ side_)) ≠ (decide (ends_of_5.2 ∈ side_)))) = true then
      (appP v_2 x_4).bind fun found_7 =>
      some found_7
    else
      some v_2)) rng_1 ([] : List Nat)).bind fun (w_8 : (List Nat)) =>
  some w_8
noncomputable def p_beside (web_ : Web) (road_ : Nat) (side_ : (List Nat)) : Option (List Nat) :=
  (p_crossing web_ side_).bind fun crossing_1 =>
  (lcT (fun (x_2 : Nat) => (decide (x_2 ≠ road_))) (fun (x_2 : Nat) => x_2) crossing_1).bind fun lc_3 =>
  some lc_3
noncomputable def p_do_join (web_ : Web) (roads_ : (List Nat)) : Option Bool :=
  (lcP (fun (_ : Nat) => some true) (fun (x_1 : Nat) => (p_ends_of web_ x_1).bind fun ends_of_2 => some (ends_of_2 : (Nat × Nat))) roads_).bind fun lc_3 =>
  (p_reached lc_3 (0 : Nat)).bind fun reached_4 =>
  some (decide (reached_4.length = web_.n))
noncomputable def p_total (lengths_ : (List Nat)) (tree_ : (List Nat)) : Option Nat :=
  (lcP (fun (_ : Nat) => some true) (fun (x_1 : Nat) => (lengths_[x_1]?).bind fun it_2 => some (it_2 : Nat)) tree_).bind fun lc_3 =>
  some lc_3.sum
noncomputable def p_greedy (web_ : Web) (order_ : (List Nat)) : Option (List Nat) :=
  (rngP web_.n).bind fun rng_1 =>
  (forP (fun (x_4 : Nat) (v_2 : (List Nat) × (List Nat)) =>
    (p_ends_of web_ x_4).bind fun ends_of_5 =>
    (v_2.1[ends_of_5.1]?).bind fun it_6 =>
    (v_2.1[ends_of_5.2]?).bind fun it_7 =>
    (if (decide (it_6 ≠ it_7)) = true then
      (lcT (fun (_ : Nat) => true) (fun (x_9 : Nat) => (if (decide (x_9 = it_7)) = true then it_6 else x_9)) v_2.1).bind fun lc_10 =>
      (appP v_2.2 x_4).bind fun found_11 =>
      some (lc_10, found_11)
    else
      some (v_2.1, v_2.2))) order_ (rng_1, ([] : List Nat))).bind fun (w_12 : (List Nat) × (List Nat)) =>
  (sortP nD w_12.2).bind fun srt_14 =>
  some srt_14
noncomputable def p_shorter (web_ : Web) (road_ : Nat) : Option (List Nat) :=
  (p_other_roads web_ ([road_] : List Nat)).bind fun other_roads_1 =>
  (lcP (fun (x_2 : Nat) => (p_high_of web_ x_2).bind fun high_of_3 => (p_low_of web_ road_).bind fun low_of_4 => some (decide (high_of_3 < low_of_4))) (fun (x_2 : Nat) => some (x_2 : Nat)) other_roads_1).bind fun lc_5 =>
  some lc_5
noncomputable def p_find_bar (web_ : Web) (road_ : Nat) : Option (Option (List Nat)) :=
  (p_shorter web_ road_).bind fun shorter_1 =>
  (p_first_detour web_ road_ shorter_1).bind fun first_detour_2 =>
  some first_detour_2
noncomputable def p_find_used (web_ : Web) (road_ : Nat) : Option (Option (List Nat)) :=
  (p_find_bar web_ road_).bind fun find_bar_1 =>
  (if find_bar_1.isNone = true then (p_other_roads web_ ([road_] : List Nat)).bind fun other_roads_2 => (p_raised web_ other_roads_2).bind fun raised_3 => some ((some raised_3) : (Option (List Nat))) else some (none : (Option (List Nat)))).bind fun c_4 =>
  some c_4
noncomputable def p_perhaps_shorter (web_ : Web) (road_ : Nat) : Option (List Nat) :=
  (p_other_roads web_ ([road_] : List Nat)).bind fun other_roads_1 =>
  (lcP (fun (x_2 : Nat) => (p_low_of web_ x_2).bind fun low_of_3 => (p_high_of web_ road_).bind fun high_of_4 => some (decide (low_of_3 < high_of_4))) (fun (x_2 : Nat) => some (x_2 : Nat)) other_roads_1).bind fun lc_5 =>
  some lc_5
noncomputable def p_find_hold (web_ : Web) (road_ : Nat) : Option (Option (List Nat)) :=
  (p_perhaps_shorter web_ road_).bind fun perhaps_shorter_1 =>
  (p_first_side web_ road_ perhaps_shorter_1).bind fun first_side_2 =>
  some first_side_2
noncomputable def p_find_unused (web_ : Web) (road_ : Nat) : Option (Option (List Nat)) :=
  (p_find_hold web_ road_).bind fun find_hold_1 =>
  (if find_hold_1.isNone = true then (p_raised web_ ([road_] : List Nat)).bind fun raised_2 => some ((some raised_2) : (Option (List Nat))) else some (none : (Option (List Nat)))).bind fun c_3 =>
  some c_3
noncomputable def p_no_longer (web_ : Web) (road_ : Nat) : Option (List Nat) :=
  (p_other_roads web_ ([road_] : List Nat)).bind fun other_roads_1 =>
  (lcP (fun (x_2 : Nat) => (p_high_of web_ x_2).bind fun high_of_3 => (p_low_of web_ road_).bind fun low_of_4 => some (decide (high_of_3 ≤ low_of_4))) (fun (x_2 : Nat) => some (x_2 : Nat)) other_roads_1).bind fun lc_5 =>
  some lc_5
noncomputable def p_find_spare (web_ : Web) (road_ : Nat) : Option (Option (List Nat)) :=
  (p_no_longer web_ road_).bind fun no_longer_1 =>
  (p_first_detour web_ road_ no_longer_1).bind fun first_detour_2 =>
  some first_detour_2
noncomputable def p_find_needed (web_ : Web) (road_ : Nat) : Option (Option (List Nat)) :=
  (p_find_spare web_ road_).bind fun find_spare_1 =>
  (if find_spare_1.isNone = true then (p_other_roads web_ ([road_] : List Nat)).bind fun other_roads_2 => (p_raised web_ other_roads_2).bind fun raised_3 => some ((some raised_3) : (Option (List Nat))) else some (none : (Option (List Nat)))).bind fun c_4 =>
  some c_4
noncomputable def p_perhaps_no_longer (web_ : Web) (road_ : Nat) : Option (List Nat) :=
  (p_other_roads web_ ([road_] : List Nat)).bind fun other_roads_1 =>
  (lcP (fun (x_2 : Nat) => (p_low_of web_ x_2).bind fun low_of_3 => (p_high_of web_ road_).bind fun high_of_4 => some (decide (low_of_3 ≤ high_of_4))) (fun (x_2 : Nat) => some (x_2 : Nat)) other_roads_1).bind fun lc_5 =>
  some lc_5
noncomputable def p_find_force (web_ : Web) (road_ : Nat) : Option (Option (List Nat)) :=
  (p_perhaps_no_longer web_ road_).bind fun perhaps_no_longer_1 =>
  (p_first_side web_ road_ perhaps_no_longer_1).bind fun first_side_2 =>
  some first_side_2
noncomputable def p_find_unneeded (web_ : Web) (road_ : Nat) : Option (Option (List Nat)) :=
  (p_find_force web_ road_).bind fun find_force_1 =>
  (if find_force_1.isNone = true then (p_raised web_ ([road_] : List Nat)).bind fun raised_2 => some ((some raised_2) : (Option (List Nat))) else some (none : (Option (List Nat)))).bind fun c_3 =>
  some c_3
noncomputable def p_word_for (against_ : (Option (List Nat))) (for_it_ : (Option (List Nat))) : Option Str :=
  (if against_.isSome = true then
    some ("never" : Str)
  else
    some (if for_it_.isSome = true then ("always" : Str) else ("sometimes" : Str)))
noncomputable def p_used_status (web_ : Web) : Option (List Str) :=
  (rngP web_.rs.length).bind fun rng_1 =>
  (lcP (fun (_ : Nat) => some true) (fun (x_2 : Nat) => (p_find_bar web_ x_2).bind fun find_bar_3 => (p_find_hold web_ x_2).bind fun find_hold_4 => (p_word_for find_bar_3 find_hold_4).bind fun word_for_5 => some (word_for_5 : Str)) rng_1).bind fun lc_6 =>
  some lc_6
noncomputable def p_needed_status (web_ : Web) : Option (List Str) :=
  (rngP web_.rs.length).bind fun rng_1 =>
  (lcP (fun (_ : Nat) => some true) (fun (x_2 : Nat) => (p_find_spare web_ x_2).bind fun find_spare_3 => (p_find_force web_ x_2).bind fun find_force_4 => (p_word_for find_spare_3 find_force_4).bind fun word_for_5 => some (word_for_5 : Str)) rng_1).bind fun lc_6 =>
  some lc_6
noncomputable def p_exchanged (tree_ : (List Nat)) (out_ : Nat) (road_ : Nat) : Option (List Nat) :=
  (lcT (fun (x_1 : Nat) => (decide (x_1 ≠ out_))) (fun (x_1 : Nat) => x_1) tree_).bind fun lc_2 =>
  (addP lc_2 ([road_] : List Nat)).bind fun sum_3 =>
  (sortP nD sum_3).bind fun srt_4 =>
  some srt_4
noncomputable def p_exchanges (web_ : Web) (tree_ : (List Nat)) : Option (List (Nat × Nat)) :=
  (forP (fun (x_3 : Nat) (v_1 : (List (Nat × Nat))) =>
    (p_other_roads web_ tree_).bind fun other_roads_4 =>
    (forP (fun (x_7 : Nat) (v_5 : (List (Nat × Nat))) =>
      (p_exchanged tree_ x_3 x_7).bind fun exchanged_8 =>
      (p_do_join web_ exchanged_8).bind fun do_join_9 =>
      (if do_join_9 = true then
        (appP v_5 (x_3, x_7)).bind fun found_11 =>
        some found_11
      else
        some v_5)) other_roads_4 v_1).bind fun (w_12 : (List (Nat × Nat))) =>
    some w_12) tree_ ([] : List (Nat × Nat))).bind fun (w_14 : (List (Nat × Nat))) =>
  some w_14
noncomputable def p_find_sure_exchange (web_ : Web) (tree_ : (List Nat)) : Option (Option (Nat × Nat)) :=
  (p_exchanges web_ tree_).bind fun exchanges_1 =>
  (forC (R := (Option (Nat × Nat))) (fun (x_4 : (Nat × Nat)) (v_2 : Unit) =>
    (p_high_of web_ x_4.2).bind fun high_of_5 =>
    (p_low_of web_ x_4.1).bind fun low_of_6 =>
    (if (decide (high_of_5 < low_of_6)) = true then
      some (.rt (some (x_4.1, x_4.2)))
    else
      some (.nx ()))) exchanges_1 ()).bind (contC (fun r_11 => some r_11) fun (w_8 : Unit) =>
    some none)
noncomputable def p_find_least (web_ : Web) (tree_ : (List Nat)) : Option (Option (List Nat)) :=
  (p_find_sure_exchange web_ tree_).bind fun find_sure_exchange_1 =>
  (if find_sure_exchange_1.isNone = true then (p_other_roads web_ tree_).bind fun other_roads_2 => (p_raised web_ other_roads_2).bind fun raised_3 => some ((some raised_3) : (Option (List Nat))) else some (none : (Option (List Nat)))).bind fun c_4 =>
  some c_4
noncomputable def p_find_beaten (web_ : Web) (tree_ : (List Nat)) : Option (Option (List Nat)) :=
  (p_exchanges web_ tree_).bind fun exchanges_1 =>
  (lcP (fun (_ : (Nat × Nat)) => some true) (fun (x_2 : (Nat × Nat)) => (p_high_of web_ x_2.1).bind fun high_of_3 => (p_low_of web_ x_2.2).bind fun low_of_4 => some ((decide (high_of_3 ≤ low_of_4)) : Bool)) exchanges_1).bind fun lc_5 =>
  (if (lc_5.all id) = true then
    some none
  else
    (p_raised web_ tree_).bind fun raised_7 =>
    some (some raised_7))
noncomputable def p_tree_status (web_ : Web) (tree_ : (List Nat)) : Option Str :=
  (p_find_sure_exchange web_ tree_).bind fun find_sure_exchange_1 =>
  (if find_sure_exchange_1.isSome = true then
    some ("never" : Str)
  else
    (p_find_beaten web_ tree_).bind fun find_beaten_3 =>
    some (if find_beaten_3.isNone = true then ("always" : Str) else ("sometimes" : Str)))
noncomputable def p_with_length (web_ : Web) (road_ : Nat) (length_ : Nat) : Option (Nat × (List Rd)) :=
  (web_.rs[road_]?).bind fun it_1 =>
  (addP (web_.rs.take road_) ([(Rd.mk it_1.a it_1.b length_ length_)] : List Rd)).bind fun sum_2 =>
  (addP sum_2 (web_.rs.drop (road_ + (1 : Nat)))).bind fun sum_3 =>
  some (web_.n, sum_3)
noncomputable def p_decided (plan_ : ((List Nat) × (List Nat))) : Option (List Nat) :=
  (addP plan_.1 plan_.2).bind fun sum_1 =>
  (sortTP nD sum_1).bind fun srt_2 =>
  some srt_2
noncomputable def p_find_side (web_ : Web) (plan_ : ((List Nat) × (List Nat))) (road_ : Nat) : Option (Option (List Nat)) :=
  (p_other_roads web_ plan_.2).bind fun other_roads_1 =>
  (lcP (fun (x_2 : Nat) => (orP (decide (x_2 ∈ plan_.1)) ((p_low_of web_ x_2).bind fun low_of_3 => (p_high_of web_ road_).bind fun high_of_4 => some (decide (low_of_3 < high_of_4)))).bind fun t_5 => some t_5) (fun (x_2 : Nat) => some (x_2 : Nat)) other_roads_1).bind fun lc_6 =>
  (p_first_side web_ road_ lc_6).bind fun first_side_7 =>
  some first_side_7
noncomputable def p_find_detour (web_ : Web) (plan_ : ((List Nat) × (List Nat))) (road_ : Nat) : Option (Option (List Nat)) :=
  (p_other_roads web_ plan_.2).bind fun other_roads_1 =>
  (lcP (fun (x_2 : Nat) => (p_high_of web_ x_2).bind fun high_of_3 => (p_low_of web_ road_).bind fun low_of_4 => some (decide (high_of_3 ≤ low_of_4))) (fun (x_2 : Nat) => some (x_2 : Nat)) other_roads_1).bind fun lc_5 =>
  (p_first_detour web_ road_ lc_5).bind fun first_detour_6 =>
  some first_detour_6
noncomputable def p_find_reason (web_ : Web) (plan_ : ((List Nat) × (List Nat))) (road_ : Nat) : Option (Option (List Nat)) :=
  (if (decide (road_ ∈ plan_.1)) = true then (p_find_side web_ plan_ road_).bind fun find_side_1 => some (find_side_1 : (Option (List Nat))) else (p_find_detour web_ plan_ road_).bind fun find_detour_2 => some (find_detour_2 : (Option (List Nat)))).bind fun c_3 =>
  some c_3
noncomputable def p_find_breach (web_ : Web) (plan_ : ((List Nat) × (List Nat))) : Option (Option (List Nat)) :=
  (p_decided plan_).bind fun decided_1 =>
  (forC (R := (Option (List Nat))) (fun (x_4 : Nat) (v_2 : Unit) =>
    (p_find_reason web_ plan_ x_4).bind fun find_reason_5 =>
    (if find_reason_5.isNone = true then
      (if (decide (x_4 ∈ plan_.1)) = true then some (([x_4] : List Nat) : (List Nat)) else (p_other_roads web_ ([x_4] : List Nat)).bind fun other_roads_7 => some (other_roads_7 : (List Nat))).bind fun c_8 =>
      (p_raised web_ c_8).bind fun raised_9 =>
      some (.rt (some raised_9))
    else
      some (.nx ()))) decided_1 ()).bind (contC (fun r_13 => some r_13) fun (w_10 : Unit) =>
    some none)
noncomputable def p_taken (plan_ : ((List Nat) × (List Nat))) (step_ : (Str × Nat)) : Option ((List Nat) × (List Nat)) :=
  (if (decide (step_.1 = ("build" : Str))) = true then
    (addP plan_.1 ([step_.2] : List Nat)).bind fun sum_2 =>
    (sortTP nD sum_2).bind fun srt_3 =>
    some (srt_3, plan_.2)
  else
    (addP plan_.2 ([step_.2] : List Nat)).bind fun sum_4 =>
    (sortTP nD sum_4).bind fun srt_5 =>
    some (plan_.1, srt_5))
noncomputable def p_holds (web_ : Web) (plan_ : ((List Nat) × (List Nat))) : Option Bool :=
  (p_find_breach web_ plan_).bind fun find_breach_1 =>
  some find_breach_1.isNone
noncomputable def p_options (web_ : Web) (plan_ : ((List Nat) × (List Nat))) : Option (List (Str × Nat)) :=
  (p_decided plan_).bind fun decided_1 =>
  (p_other_roads web_ decided_1).bind fun other_roads_2 =>
  (lcT (fun (_ : Nat) => true) (fun (x_3 : Nat) => (("build" : Str), x_3)) other_roads_2).bind fun lc_4 =>
  (lcT (fun (_ : Nat) => true) (fun (x_5 : Nat) => (("drop" : Str), x_5)) other_roads_2).bind fun lc_6 =>
  (addP lc_4 lc_6).bind fun sum_7 =>
  (lcP (fun (x_8 : (Str × Nat)) => (p_taken plan_ x_8).bind fun taken_9 => (p_holds web_ taken_9).bind fun holds_10 => some holds_10) (fun (x_8 : (Str × Nat)) => some (x_8 : (Str × Nat))) sum_7).bind fun lc_11 =>
  some lc_11
noncomputable def p_find_against (web_ : Web) (plan_ : ((List Nat) × (List Nat))) (step_ : (Str × Nat)) : Option (Option (List Nat)) :=
  (p_taken plan_ step_).bind fun taken_1 =>
  (p_find_breach web_ taken_1).bind fun find_breach_2 =>
  some find_breach_2
end G

namespace G
open PySem PySem.Spec L2 Pv
noncomputable def p__law_take (amount : Nat) (st : List Cell) : Option (Nat × List Cell) := match m__law_take [.hd 0, nD amount] st with
  | some (.fro (.int v), st') => if 0 ≤ v then some (v.toNat, st') else none
  | _ => none
noncomputable def openP (ns : List Int) : Option (List Cell) := match m__law_open [.scr ns] [] with
  | some (.own d, []) => some [.d d]
  | _ => none

noncomputable def p__law_one_of (some_ : (List Nat)) (st : List Cell) : Option (Nat × List Cell) :=
  (p__law_take some_.length st).bind fun take_1 =>
  (some_[take_1.1]?).bind fun it_2 =>
  some (it_2, take_1.2)
noncomputable def p__law_draw_bounds (st : List Cell) : Option ((Nat × Nat) × List Cell) :=
  (p__law_take (10 : Nat) st).bind fun take_1 =>
  (p__law_take (100 : Nat) take_1.2).bind fun take_2 =>
  (p__law_one_of ([(0 : Nat), (1 : Nat), (2 : Nat), (3 : Nat), (5 : Nat), take_1.1, take_2.1] : List Nat) take_2.2).bind fun one_of_3 =>
  (p__law_take (10 : Nat) one_of_3.2).bind fun take_4 =>
  (p__law_take (100 : Nat) take_4.2).bind fun take_5 =>
  (p__law_one_of ([(0 : Nat), (0 : Nat), (1 : Nat), (2 : Nat), (4 : Nat), take_4.1, take_5.1] : List Nat) take_5.2).bind fun one_of_6 =>
  some ((one_of_3.1, (min (99 : Nat) (one_of_3.1 + one_of_6.1))), one_of_6.2)
noncomputable def p__law_draw_web (houses_ : Nat) (most_ : Nat) (st : List Cell) : Option (Web × List Cell) :=
  (p__law_take houses_ st).bind fun take_1 =>
  (some (((1 : Nat) + take_1.1) : Nat)).bind fun count_2 =>
  (rng2P (1 : Nat) count_2).bind fun rng_3 =>
  (forP (fun (x_6 : Nat) (v_4 : (List Rd) × List Cell) =>
    (p__law_take (v_4.1.length + (1 : Nat)) v_4.2).bind fun take_7 =>
    (p__law_take x_6 take_7.2).bind fun take_8 =>
    (p__law_draw_bounds take_8.2).bind fun draw_bounds_9 =>
    (insP v_4.1 take_7.1 (Rd.mk take_8.1 x_6 draw_bounds_9.1.1 draw_bounds_9.1.2)).bind fun roads_10 =>
    some (roads_10, draw_bounds_9.2)) rng_3 (([] : List Rd), take_1.2)).bind fun (w_11 : (List Rd) × List Cell) =>
  (p__law_take (most_ + (1 : Nat)) w_11.2).bind fun take_13 =>
  (rngP take_13.1).bind fun rng_14 =>
  (forP (fun (x_17 : Nat) (v_15 : (List Rd) × List Cell) =>
    (if ((decide ((1 : Nat) < count_2)) && (decide (v_15.1.length < most_))) = true then
      (natP ((count_2 : Int) - (1 : Int))).bind fun y_19 =>
      (p__law_take y_19 v_15.2).bind fun take_20 =>
      (some (((1 : Nat) + take_20.1) : Nat)).bind fun b_21 =>
      (p__law_take (v_15.1.length + (1 : Nat)) take_20.2).bind fun take_22 =>
      (p__law_take b_21 take_22.2).bind fun take_23 =>
      (p__law_draw_bounds take_23.2).bind fun draw_bounds_24 =>
      (insP v_15.1 take_22.1 (Rd.mk take_23.1 b_21 draw_bounds_24.1.1 draw_bounds_24.1.2)).bind fun roads_25 =>
      some (roads_25, draw_bounds_24.2)
    else
      some (v_15.1, v_15.2))) rng_14 (w_11.1, take_13.2)).bind fun (w_26 : (List Rd) × List Cell) =>
  (rngP count_2).bind fun rng_28 =>
  (forP (fun (x_31 : Nat) (v_29 : (List Nat) × List Cell) =>
    (p__law_take (x_31 + (1 : Nat)) v_29.2).bind fun take_32 =>
    (insP v_29.1 take_32.1 x_31).bind fun order_33 =>
    some (order_33, take_32.2)) rng_28 (([] : List Nat), w_26.2)).bind fun (w_34 : (List Nat) × List Cell) =>
  (forP (fun (x_38 : Rd) (v_36 : (List Rd)) =>
    (w_34.1[x_38.a]?).bind fun it_39 =>
    (w_34.1[x_38.b]?).bind fun it_40 =>
    (w_34.1[x_38.a]?).bind fun it_41 =>
    (w_34.1[x_38.b]?).bind fun it_42 =>
    (appP v_36 (Rd.mk (min it_39 it_40) (max it_41 it_42) x_38.lo x_38.hi)).bind fun turned_43 =>
    some turned_43) w_26.1 ([] : List Rd)).bind fun (w_44 : (List Rd)) =>
  some ((Web.mk count_2 w_44), w_34.2)
noncomputable def p__law_with (web_ : Web) (road_ : Nat) (low_ : Nat) (high_ : Nat) : Option (Nat × (List Rd)) :=
  (web_.rs[road_]?).bind fun it_1 =>
  (addP (web_.rs.take road_) ([(Rd.mk it_1.a it_1.b low_ high_)] : List Rd)).bind fun sum_2 =>
  (addP sum_2 (web_.rs.drop (road_ + (1 : Nat)))).bind fun sum_3 =>
  some (web_.n, sum_3)
noncomputable def p__law_draw_near_fixed (houses_ : Nat) (most_ : Nat) (st : List Cell) : Option (Web × List Cell) :=
  (p__law_draw_web houses_ most_ st).bind fun draw_web_1 =>
  (rngP draw_web_1.1.rs.length).bind fun rng_2 =>
  (forP (fun (x_5 : Nat) (v_3 : Web × List Cell) =>
    (p__law_take (3 : Nat) v_3.2).bind fun take_6 =>
    (if (decide ((0 : Nat) < take_6.1)) = true then
      (p__law_take (8 : Nat) take_6.2).bind fun take_8 =>
      (p__law_one_of ([(0 : Nat), (0 : Nat), (1 : Nat)] : List Nat) take_8.2).bind fun one_of_9 =>
      (p__law_with v_3.1 x_5 take_8.1 (take_8.1 + one_of_9.1)).bind fun with_10 =>
      (some ((Web.mk with_10.1 with_10.2) : Web)).bind fun web_11 =>
      some (web_11, one_of_9.2)
    else
      some (v_3.1, take_6.2))) rng_2 (draw_web_1.1, draw_web_1.2)).bind fun (w_12 : Web × List Cell) =>
  some (w_12.1, w_12.2)
noncomputable def p__law_one_of'1 (some_ : (List ((List Nat) × (List Nat)))) (st : List Cell) : Option (((List Nat) × (List Nat)) × List Cell) :=
  (p__law_take some_.length st).bind fun take_1 =>
  (some_[take_1.1]?).bind fun it_2 =>
  some (it_2, take_1.2)
noncomputable def p__law_reach (web_ : Web) (roads_ : (List Nat)) (house_ : Nat) : Option (List Nat) :=
  (whP (fun (v_1 : (List Nat) × (List Nat)) => some (decide (v_1.2 ≠ ([] : List Nat)))) (fun (v_1 : (List Nat) × (List Nat)) =>
    (popP v_1.2).bind fun waiting_4 =>
    (forP (fun (x_7 : Nat) (v_5 : (List Nat) × (List Nat)) =>
      (web_.rs[x_7]?).bind fun it_8 =>
      (forP (fun (x_11 : Nat) (v_9 : (List Nat) × (List Nat)) =>
        (if ((decide (waiting_4.1 ∈ ([it_8.a, it_8.b] : List Nat))) && (decide (x_11 ∉ v_9.1))) = true then
          (appP v_9.1 x_11).bind fun found_13 =>
          (appP v_9.2 x_11).bind fun waiting_14 =>
          some (found_13, waiting_14)
        else
          some (v_9.1, v_9.2))) ([it_8.a, it_8.b] : List Nat) (v_5.1, v_5.2)).bind fun (w_15 : (List Nat) × (List Nat)) =>
      some (w_15.1, w_15.2)) roads_ (v_1.1, waiting_4.2)).bind fun (w_17 : (List Nat) × (List Nat)) =>
    some (w_17.1, w_17.2)) 1000 (([house_] : List Nat), ([house_] : List Nat))).bind fun (w_19 : (List Nat) × (List Nat)) =>
  (sortP nD w_19.1).bind fun srt_21 =>
  some srt_21
noncomputable def p__law_is_apart (web_ : Web) (roads_ : (List Nat)) (road_ : Nat) : Option Bool :=
  (web_.rs[road_]?).bind fun it_1 =>
  (lcT (fun (x_2 : Nat) => (decide (x_2 ≠ road_))) (fun (x_2 : Nat) => x_2) roads_).bind fun lc_3 =>
  (p__law_reach web_ lc_3 it_1.a).bind fun reach_4 =>
  some (decide (it_1.b ∉ reach_4))
noncomputable def p__law_holds (web_ : Web) (plan_ : ((List Nat) × (List Nat))) : Option Bool :=
  (rngP web_.rs.length).bind fun rng_1 =>
  (lcT (fun (x_2 : Nat) => (decide (x_2 ∉ plan_.2))) (fun (x_2 : Nat) => x_2) rng_1).bind fun lc_3 =>
  (forC (R := Bool) (fun (x_6 : Nat) (v_4 : Unit) =>
    (web_.rs[x_6]?).bind fun it_7 =>
    (lcP (fun (x_8 : Nat) => (orP (decide (x_8 ∈ plan_.1)) ((web_.rs[x_8]?).bind fun it_9 => some (decide (it_9.lo < it_7.hi)))).bind fun t_10 => some t_10) (fun (x_8 : Nat) => some (x_8 : Nat)) lc_3).bind fun lc_11 =>
    (p__law_is_apart web_ lc_11 x_6).bind fun is_apart_12 =>
    (if (!is_apart_12) = true then
      some (.rt false)
    else
      some (.nx ()))) plan_.1 ()).bind (contC (fun r_17 => some r_17) fun (w_14 : Unit) =>
    (forC (R := Bool) (fun (x_20 : Nat) (v_18 : Unit) =>
      (web_.rs[x_20]?).bind fun it_21 =>
      (lcP (fun (x_22 : Nat) => (web_.rs[x_22]?).bind fun it_23 => some (decide (it_23.hi ≤ it_21.lo))) (fun (x_22 : Nat) => some (x_22 : Nat)) lc_3).bind fun lc_24 =>
      (p__law_is_apart web_ lc_24 x_20).bind fun is_apart_25 =>
      (if is_apart_25 = true then
        some (.rt false)
      else
        some (.nx ()))) plan_.2 ()).bind (contC (fun r_30 => some r_30) fun (w_27 : Unit) =>
      some true))
noncomputable def p__law_draw_plan (web_ : Web) (least_ : Nat) (st : List Cell) : Option (((List Nat) × (List Nat)) × List Cell) :=
  (some ((([] : List Nat), ([] : List Nat)) : ((List Nat) × (List Nat)))).bind fun plan_1 =>
  (p__law_take (8 : Nat) st).bind fun take_2 =>
  (rngP (least_ + take_2.1)).bind fun rng_3 =>
  (forP (fun (x_6 : Nat) (v_4 : ((List Nat) × (List Nat)) × List Cell) =>
    (p__law_take (max (1 : Nat) web_.rs.length) v_4.2).bind fun take_7 =>
    (andP (decide (take_7.1 < web_.rs.length)) ((addP v_4.1.1 v_4.1.2).bind fun sum_8 => some (decide (take_7.1 ∉ sum_8)))).bind fun t_9 =>
    (if t_9 = true then
      (addP v_4.1.1 ([take_7.1] : List Nat)).bind fun sum_11 =>
      (sortTP nD sum_11).bind fun srt_12 =>
      (addP v_4.1.2 ([take_7.1] : List Nat)).bind fun sum_13 =>
      (sortTP nD sum_13).bind fun srt_14 =>
      (some (([(srt_12, v_4.1.2), (v_4.1.1, srt_14)] : List ((List Nat) × (List Nat))) : (List ((List Nat) × (List Nat))))).bind fun steps_15 =>
      (p__law_one_of'1 steps_15 take_7.2).bind fun one_of_16 =>
      (p__law_holds web_ one_of_16.1).bind fun holds_17 =>
      (some ((if holds_17 = true then one_of_16.1 else v_4.1) : ((List Nat) × (List Nat)))).bind fun plan_18 =>
      some (plan_18, one_of_16.2)
    else
      some (v_4.1, take_7.2))) rng_3 (plan_1, take_2.2)).bind fun (w_19 : ((List Nat) × (List Nat)) × List Cell) =>
  some (w_19.1, w_19.2)
noncomputable def p__law_taken (plan_ : ((List Nat) × (List Nat))) (word_ : Str) (road_ : Nat) : Option ((List Nat) × (List Nat)) :=
  (if (decide (word_ = ("build" : Str))) = true then
    (addP plan_.1 ([road_] : List Nat)).bind fun sum_2 =>
    (sortTP nD sum_2).bind fun srt_3 =>
    some (srt_3, plan_.2)
  else
    (addP plan_.2 ([road_] : List Nat)).bind fun sum_4 =>
    (sortTP nD sum_4).bind fun srt_5 =>
    some (plan_.1, srt_5))
noncomputable def p__law_is_integer (held_ : Nat) : Option Bool :=
  some (true && (!false))
noncomputable def p__law_fits (web_ : Web) (given_ : (List Nat)) : Option Bool :=
  (if ((!true) || (decide (given_.length ≠ web_.rs.length))) = true then
    some false
  else
    (forC (R := Bool) (fun (x_4 : (Nat × Rd)) (v_2 : Unit) =>
      (p__law_is_integer x_4.1).bind fun is_integer_5 =>
      (if ((!is_integer_5) || (!(decide (x_4.2.lo ≤ x_4.1) && decide (x_4.1 ≤ x_4.2.hi)))) = true then
        some (.rt false)
      else
        some (.nx ()))) (given_.zip web_.rs) ()).bind (contC (fun r_10 => some r_10) fun (w_7 : Unit) =>
      some true))
noncomputable def p__law_least_total (web_ : Web) (lengths_ : (List Nat)) : Option Nat :=
  (whP (fun (v_1 : (List Nat) × Nat) => some (decide (v_1.1.length < web_.n))) (fun (v_1 : (List Nat) × Nat) =>
    (lcT (fun (x_4 : (Nat × Rd)) => (decide ((decide (x_4.2.a ∈ v_1.1)) ≠ (decide (x_4.2.b ∈ v_1.1))))) (fun (x_4 : (Nat × Rd)) => x_4.1) (numd web_.rs)).bind fun lc_5 =>
    (lcP (fun (_ : Nat) => some true) (fun (x_6 : Nat) => (lengths_[x_6]?).bind fun it_7 => some ((it_7, x_6) : (Nat × Nat))) lc_5).bind fun lc_8 =>
    (minByP (p2 nD nD) lc_8).bind fun min_9 =>
    (lengths_[min_9.2]?).bind fun it_10 =>
    (some ((v_1.2 + it_10) : Nat)).bind fun whole_11 =>
    (web_.rs[min_9.2]?).bind fun it_12 =>
    (appP v_1.1 (if (decide (it_12.a ∈ v_1.1)) = true then it_12.b else it_12.a)).bind fun inside_13 =>
    some (inside_13, whole_11)) 1000 (([(0 : Nat)] : List Nat), (0 : Nat))).bind fun (w_14 : (List Nat) × Nat) =>
  some w_14.2
noncomputable def p__law_serves (web_ : Web) (plan_ : ((List Nat) × (List Nat))) (lengths_ : (List Nat)) : Option Bool :=
  (p__law_least_total web_ lengths_).bind fun least_total_1 =>
  (rngP web_.rs.length).bind fun rng_2 =>
  (lcP (fun (x_3 : Nat) => some (decide (x_3 ∉ plan_.2))) (fun (x_3 : Nat) => (lengths_[x_3]?).bind fun it_4 => some ((it_4, (decide (x_3 ∉ plan_.1)), x_3) : (Nat × Bool × Nat))) rng_2).bind fun lc_5 =>
  (sortP (p3 nD D.bl nD) lc_5).bind fun srt_6 =>
  (forP (fun (x_9 : (Nat × Bool × Nat)) (v_7 : (List Nat) × Nat) =>
    (p__law_is_apart web_ v_7.1 x_9.2.2).bind fun is_apart_10 =>
    (if is_apart_10 = true then
      (appP v_7.1 x_9.2.2).bind fun joined_12 =>
      (some ((v_7.2 + x_9.1) : Nat)).bind fun whole_13 =>
      some (joined_12, whole_13)
    else
      some (v_7.1, v_7.2))) srt_6 (([] : List Nat), (0 : Nat))).bind fun (w_14 : (List Nat) × Nat) =>
  (andP (decide ((w_14.1.length : Int) = ((web_.n : Int) - (1 : Int)))) ((andP (decide (w_14.2 = least_total_1)) ((lcT (fun (_ : Nat) => true) (fun (x_16 : Nat) => (decide (x_16 ∈ w_14.1))) plan_.1).bind fun lc_17 => some (decide (false ∉ lc_17)))).bind fun t_18 => some t_18)).bind fun t_19 =>
  some t_19
noncomputable def p_law (script_ : (List Int)) : Option (Bool × List Cell) :=
  (openP script_).bind fun st_1 =>
  (rngP (3 : Nat)).bind fun rng_2 =>
  (forC (R := Bool × List Cell) (fun (x_5 : Nat) (v_3 : List Cell) =>
    (if (decide ((0 : Nat) < x_5)) = true then (([(8 : Nat), (8 : Nat), (10 : Nat)] : List Nat)[x_5]?).bind fun it_6 => (p__law_draw_near_fixed (6 : Nat) it_6 v_3).bind fun draw_near_fixed_7 => some ((draw_near_fixed_7.1 : Web), draw_near_fixed_7.2) else (p__law_draw_web (6 : Nat) (10 : Nat) v_3).bind fun draw_web_8 => some ((draw_web_8.1 : Web), draw_web_8.2)).bind fun c_9 =>
    (mulNP (2 : Nat) x_5).bind fun mul_10 =>
    (p__law_draw_plan c_9.1 mul_10 c_9.2).bind fun draw_plan_11 =>
    (reprP ((p2 webD (p2 (tC nD) (tC nD))) (c_9.1, draw_plan_11.1))).bind fun rep_12 =>
    (forC (R := Bool × List Cell) (fun (x_15 : Str) (v_13 : (List (Str × Nat))) =>
      (rngP c_9.1.rs.length).bind fun rng_16 =>
      (forC (R := Bool × List Cell) (fun (x_19 : Nat) (v_17 : (List (Str × Nat))) =>
        (addP draw_plan_11.1.1 draw_plan_11.1.2).bind fun sum_20 =>
        (if (decide (x_19 ∉ sum_20)) = true then
          (p__law_taken draw_plan_11.1 x_15 x_19).bind fun taken_22 =>
          (p__law_holds c_9.1 taken_22).bind fun holds_23 =>
          (repP ([(x_15, x_19)] : List (Str × Nat)) (Bool.toNat holds_23)).bind fun rpt_24 =>
          (addP v_17 rpt_24).bind fun sum_25 =>
          (p_find_against c_9.1 draw_plan_11.1 (x_15, x_19)).bind fun find_against_26 =>
          (some (find_against_26 : (Option (List Nat)))).bind fun told_27 =>
          (p_taken draw_plan_11.1 (x_15, x_19)).bind fun taken_28 =>
          (sameP (p2 (tC nD) (tC nD)) taken_28 taken_22).bind fun same_29 =>
          (if ((!same_29) || (decide (told_27.isNone ≠ holds_23))) = true then
            some (.rt (false, draw_plan_11.2))
          else
            (p_find_against c_9.1 draw_plan_11.1 (x_15, x_19)).bind fun find_against_31 =>
            (if (decide (find_against_31 ≠ told_27)) = true then
              some (.rt (false, draw_plan_11.2))
            else
              (andP told_27.isSome ((told_27).bind fun told_33 => (p__law_fits c_9.1 told_33).bind fun fits_34 => (orP (!fits_34) ((p__law_serves c_9.1 taken_22 told_33).bind fun serves_35 => some serves_35)).bind fun t_36 => some t_36)).bind fun t_37 =>
              (if t_37 = true then
                some (.rt (false, draw_plan_11.2))
              else
                some (.nx sum_25))))
        else
          some (.nx v_17))) rng_16 v_13).bind (contC (fun r_42 => some (.rt r_42)) fun (w_39 : (List (Str × Nat))) =>
        some (.nx w_39))) ([("build" : Str), ("drop" : Str)] : List Str) ([] : List (Str × Nat))).bind (contC (fun r_46 => some (.rt r_46)) fun (w_43 : (List (Str × Nat))) =>
      (rngP (2 : Nat)).bind fun rng_47 =>
      (forC (R := Bool × List Cell) (fun (x_50 : Nat) (v_48 : Unit) =>
        (p_options c_9.1 draw_plan_11.1).bind fun options_51 =>
        (some ((options_51.map some) : (List (Option (Str × Nat))))).bind fun some_52 =>
        (sameP (lC (oC (p2 D.str nD))) some_52 (w_43.map some)).bind fun same_53 =>
        (orP (!same_53) ((reprP ((p2 webD (p2 (tC nD) (tC nD))) (c_9.1, draw_plan_11.1))).bind fun rep_54 => some (decide (rep_54 ≠ rep_12)))).bind fun t_55 =>
        (if t_55 = true then
          some (.rt (false, draw_plan_11.2))
        else
          (appP some_52 none).bind fun some_57 =>
          some (.nx ()))) rng_47 ()).bind (contC (fun r_61 => some (.rt r_61)) fun (w_58 : Unit) =>
        some (.nx draw_plan_11.2)))) rng_2 st_1).bind (contC (fun r_65 => some r_65) fun (w_62 : List Cell) =>
    some (true, w_62))
end G

namespace G
open PySem PySem.Spec L2 Pv
theorem q__law_take (amount : Nat) {st : List Cell} {r : Nat × List Cell} (hp : p__law_take amount st = some r) : m__law_take [.hd 0, nD amount] st = some (.fro (nD r.1), r.2) := by
  unfold p__law_take at hp
  split at hp
  · rename_i v st' e
    split at hp
    · rename_i h
      have he := Option.some.inj hp
      subst he
      rw [e]
      show _ = some (RV.fro (.int ((v.toNat : Nat) : Int)), st')
      rw [Int.toNat_of_nonneg h]
    · cases hp
  · cases hp
theorem openP_of {ns : List Int} {st : List Cell} (h : openP ns = some st) : ∃ d, m__law_open [.scr ns] [] = some (.own d, []) ∧ [Cell.d d] = st := by
  unfold openP at h
  split at h
  · rename_i d e
    exact ⟨d, e, Option.some.inj h⟩
  · cases h

theorem q__law_one_of (some_ : (List Nat)) {st : List Cell} {r : (Nat × List Cell)} (hp : p__law_one_of some_ st = some r) : m__law_one_of [.hd 0, (lC nD) some_] st = some (.fro (nD r.1), r.2) := by
  refine fn_R rfl ?_
  show S ev__law_one_of ⟨[.fro (.hd 0), .fro ((lC nD) some_)], st⟩ _
  unfold ev__law_one_of
  unfold p__law_one_of at hp
  obtain ⟨take_1, htake_1, hp⟩ := bs hp
  obtain ⟨it_2, hit_2, hp⟩ := bs hp
  refine S_ret (E_2 (O_slot rfl) (O_vf (E_callS (s' := ⟨[.fro (.hd 0), .fro ((lC nD) some_)], take_1.2⟩) (A_f (E_name rfl) (A_f (E_N (L_cons (O_slot rfl) L_nil) (o_lenL (f := nD) _)) A_nil)) (q__law_take some_.length htake_1) rfl)) (o_ixL (f := nD) hit_2)) ?_
  have he := Option.some.inj hp
  subst he
  exact ⟨rfl, rfl⟩
theorem q__law_draw_bounds {st : List Cell} {r : ((Nat × Nat) × List Cell)} (hp : p__law_draw_bounds st = some r) : m__law_draw_bounds [.hd 0] st = some (.fro ((p2 nD nD) r.1), r.2) := by
  refine fn_R rfl ?_
  show S ev__law_draw_bounds ⟨[.fro (.hd 0), .non], st⟩ _
  unfold ev__law_draw_bounds
  unfold p__law_draw_bounds at hp
  obtain ⟨take_1, htake_1, hp⟩ := bs hp
  obtain ⟨take_2, htake_2, hp⟩ := bs hp
  obtain ⟨one_of_3, hone_of_3, hp⟩ := bs hp
  refine S_seq (S_set (env' := [.fro (.hd 0), .fro (nD one_of_3.1)]) (E_callS (s' := ⟨[.fro (.hd 0), .non], one_of_3.2⟩) (A_f (E_name rfl) (A_o (E_lst (A_f (E_n 0 rfl) (A_f (E_n 1 rfl) (A_f (E_n 2 rfl) (A_f (E_n 3 rfl) (A_f (E_n 5 rfl) (A_f (E_callS (s' := ⟨[.fro (.hd 0), .non], take_1.2⟩) (A_f (E_name rfl) (A_f (E_n 10 rfl) A_nil)) (q__law_take (10 : Nat) htake_1) rfl) (A_f (E_callS (s' := ⟨[.fro (.hd 0), .non], take_2.2⟩) (A_f (E_name rfl) (A_f (E_n 100 rfl) A_nil)) (q__law_take (100 : Nat) htake_2) rfl) A_nil))))))) rfl) A_nil)) (q__law_one_of ([(0 : Nat), (1 : Nat), (2 : Nat), (3 : Nat), (5 : Nat), take_1.1, take_2.1] : List Nat) hone_of_3) rfl) rfl ?_)
  obtain ⟨take_4, htake_4, hp⟩ := bs hp
  obtain ⟨take_5, htake_5, hp⟩ := bs hp
  obtain ⟨one_of_6, hone_of_6, hp⟩ := bs hp
  refine S_ret (E_tup (A_f (E_name rfl) (A_f (E_N (L_cons (O_vf (E_n 99 rfl)) (L_cons (O_vf (E_2 (O_slot rfl) (O_vf (E_callS (s' := ⟨[.fro (.hd 0), .fro (nD one_of_3.1)], one_of_6.2⟩) (A_f (E_name rfl) (A_o (E_lst (A_f (E_n 0 rfl) (A_f (E_n 0 rfl) (A_f (E_n 1 rfl) (A_f (E_n 2 rfl) (A_f (E_n 4 rfl) (A_f (E_callS (s' := ⟨[.fro (.hd 0), .fro (nD one_of_3.1)], take_4.2⟩) (A_f (E_name rfl) (A_f (E_n 10 rfl) A_nil)) (q__law_take (10 : Nat) htake_4) rfl) (A_f (E_callS (s' := ⟨[.fro (.hd 0), .fro (nD one_of_3.1)], take_5.2⟩) (A_f (E_name rfl) (A_f (E_n 100 rfl) A_nil)) (q__law_take (100 : Nat) htake_5) rfl) A_nil))))))) rfl) A_nil)) (q__law_one_of ([(0 : Nat), (0 : Nat), (1 : Nat), (2 : Nat), (4 : Nat), take_4.1, take_5.1] : List Nat) hone_of_6) rfl)) (o_addN _ _))) L_nil)) (o_minN _ _)) A_nil)) rfl) ?_
  have he := Option.some.inj hp
  subst he
  exact ⟨rfl, rfl⟩
theorem q__law_draw_web (houses_ : Nat) (most_ : Nat) {st : List Cell} {r : (Web × List Cell)} (hp : p__law_draw_web houses_ most_ st = some r) : m__law_draw_web [.hd 0, nD houses_, nD most_] st = some (.fro (webD r.1), r.2) := by
  refine fn_R rfl ?_
  show S ev__law_draw_web ⟨[.fro (.hd 0), .fro (nD houses_), .fro (nD most_), .non, .non, .non, .non, .non, .non, .non, .non, .non, .non], st⟩ _
  unfold ev__law_draw_web
  unfold p__law_draw_web at hp
  obtain ⟨take_1, htake_1, hp⟩ := bs hp
  obtain ⟨count_2, hcount_2, hp⟩ := bs hp
  replace hcount_2 := Option.some.inj hcount_2
  refine S_seq (S_par (env' := [.fro (.hd 0), .fro (nD houses_), .fro (nD most_), .fro (nD count_2), .own ((lC rdD) ([] : List Rd)), .non, .non, .non, .non, .non, .non, .non, .non]) (E_as (E_2 (O_vf (E_n 1 rfl)) (O_vf (E_callS (s' := ⟨[.fro (.hd 0), .fro (nD houses_), .fro (nD most_), .non, .non, .non, .non, .non, .non, .non, .non, .non, .non], take_1.2⟩) (A_f (E_name rfl) (A_f (E_name rfl) A_nil)) (q__law_take houses_ htake_1) rfl)) (o_addN _ _)) (congrArg (fun z => RV.fro (nD z)) hcount_2)) (E_lst A_nil rfl) rfl ?_)
  obtain ⟨rng_3, hrng_3, hp⟩ := bs hp
  obtain ⟨w_11, hw_11, hp⟩ := bs hp
  refine S_seq (S_for nD (fun (v_4 : (List Rd) × List Cell) (g_5 : Slot × Unit) => (⟨[.fro (.hd 0), .fro (nD houses_), .fro (nD most_), .fro (nD count_2), .own ((lC rdD) v_4.1), g_5.1, .non, .non, .non, .non, .non, .non, .non], v_4.2⟩ : Sg)) (.non, ()) (I_rng2 (A_f (E_n 1 rfl) (A_f (E_name rfl) A_nil)) hrng_3) rfl hw_11 (fun x_6 v_4 w' g_5 hp => ?_) (fun g_12 => ?_))
  · refine ⟨⟨[.fro (.hd 0), .fro (nD houses_), .fro (nD most_), .fro (nD count_2), .own ((lC rdD) v_4.1), .fro (nD x_6), .non, .non, .non, .non, .non, .non, .non], v_4.2⟩, rfl, ?_⟩
    obtain ⟨take_7, htake_7, hp⟩ := bs hp
    obtain ⟨take_8, htake_8, hp⟩ := bs hp
    obtain ⟨draw_bounds_9, hdraw_bounds_9, hp⟩ := bs hp
    obtain ⟨roads_10, hroads_10, hp⟩ := bs hp
    refine S_dropM (M_mut (env' := [.fro (.hd 0), .fro (nD houses_), .fro (nD most_), .fro (nD count_2), .own ((lC rdD) roads_10), .fro (nD x_6), .non, .non, .non, .non, .non, .non, .non]) rfl rfl (A_f (E_callS (s' := ⟨[.fro (.hd 0), .fro (nD houses_), .fro (nD most_), .fro (nD count_2), .own ((lC rdD) v_4.1), .fro (nD x_6), .non, .non, .non, .non, .non, .non, .non], take_7.2⟩) (A_f (E_name rfl) (A_f (E_2 (O_vf (E_N (L_cons (O_slot rfl) L_nil) (o_lenL (f := rdD) _))) (O_vf (E_n 1 rfl)) (o_addN _ _)) A_nil)) (q__law_take (v_4.1.length + (1 : Nat)) htake_7) rfl) (A_f (E_2 (O_vf (E_tup (A_f (E_callS (s' := ⟨[.fro (.hd 0), .fro (nD houses_), .fro (nD most_), .fro (nD count_2), .own ((lC rdD) v_4.1), .fro (nD x_6), .non, .non, .non, .non, .non, .non, .non], take_8.2⟩) (A_f (E_name rfl) (A_f (E_name rfl) A_nil)) (q__law_take x_6 htake_8) rfl) (A_f (E_name rfl) A_nil)) rfl)) (O_vf (E_callS (s' := ⟨[.fro (.hd 0), .fro (nD houses_), .fro (nD most_), .fro (nD count_2), .own ((lC rdD) v_4.1), .fro (nD x_6), .non, .non, .non, .non, .non, .non, .non], draw_bounds_9.2⟩) (A_f (E_name rfl) A_nil) (q__law_draw_bounds hdraw_bounds_9) rfl)) (addT_b rfl)) A_nil)) rfl (o_ins (f := rdD) hroads_10) rfl) ?_
    have he := Option.some.inj hp
    subst he
    exact ⟨.inl rfl, (.fro (nD x_6), ()), rfl⟩
  obtain ⟨take_13, htake_13, hp⟩ := bs hp
  obtain ⟨rng_14, hrng_14, hp⟩ := bs hp
  obtain ⟨w_26, hw_26, hp⟩ := bs hp
  refine S_seq (S_for nD (fun (v_15 : (List Rd) × List Cell) (g_16 : Slot × Slot × Unit) => (⟨[.fro (.hd 0), .fro (nD houses_), .fro (nD most_), .fro (nD count_2), .own ((lC rdD) v_15.1), g_12.1, g_16.1, g_16.2.1, .non, .non, .non, .non, .non], v_15.2⟩ : Sg)) (.non, .non, ()) (I_rng1 (A_f (E_callS (s' := ⟨[.fro (.hd 0), .fro (nD houses_), .fro (nD most_), .fro (nD count_2), .own ((lC rdD) w_11.1), g_12.1, .non, .non, .non, .non, .non, .non, .non], take_13.2⟩) (A_f (E_name rfl) (A_f (E_2 (O_slot rfl) (O_vf (E_n 1 rfl)) (o_addN _ _)) A_nil)) (q__law_take (most_ + (1 : Nat)) htake_13) rfl) A_nil) hrng_14) rfl hw_26 (fun x_17 v_15 w' g_16 hp => ?_) (fun g_27 => ?_))
  · refine ⟨⟨[.fro (.hd 0), .fro (nD houses_), .fro (nD most_), .fro (nD count_2), .own ((lC rdD) v_15.1), g_12.1, .fro (nD x_17), g_16.2.1, .non, .non, .non, .non, .non], v_15.2⟩, rfl, ?_⟩
    refine S_if (B_and (B_B (E_2 (O_slot rfl) (O_vf (E_n 1 rfl)) (o_gtN _ _))) (B_B (E_2 (O_vf (E_N (L_cons (O_slot rfl) L_nil) (o_lenL (f := rdD) _))) (O_slot rfl) (o_ltN _ _)))) (fun hb_18 => ?_) (fun hb_18 => ?_)
    · have hp := ite_t hb_18 hp
      obtain ⟨y_19, hy_19, hp⟩ := bs hp
      obtain ⟨take_20, htake_20, hp⟩ := bs hp
      obtain ⟨b_21, hb_21, hp⟩ := bs hp
      replace hb_21 := Option.some.inj hb_21
      refine S_seq (S_set (env' := [.fro (.hd 0), .fro (nD houses_), .fro (nD most_), .fro (nD count_2), .own ((lC rdD) v_15.1), g_12.1, .fro (nD x_17), .fro (nD b_21), .non, .non, .non, .non, .non]) (E_as (E_2 (O_vf (E_n 1 rfl)) (O_vf (E_callS (s' := ⟨[.fro (.hd 0), .fro (nD houses_), .fro (nD most_), .fro (nD count_2), .own ((lC rdD) v_15.1), g_12.1, .fro (nD x_17), g_16.2.1, .non, .non, .non, .non, .non], take_20.2⟩) (A_f (E_name rfl) (A_f (E_nat hy_19 (E_2 (O_slot rfl) (O_vf E_c) (o_subI _ _))) A_nil)) (q__law_take y_19 htake_20) rfl)) (o_addN _ _)) (congrArg (fun z => RV.fro (nD z)) hb_21)) rfl ?_)
      obtain ⟨take_22, htake_22, hp⟩ := bs hp
      obtain ⟨take_23, htake_23, hp⟩ := bs hp
      obtain ⟨draw_bounds_24, hdraw_bounds_24, hp⟩ := bs hp
      obtain ⟨roads_25, hroads_25, hp⟩ := bs hp
      refine S_dropM (M_mut (env' := [.fro (.hd 0), .fro (nD houses_), .fro (nD most_), .fro (nD count_2), .own ((lC rdD) roads_25), g_12.1, .fro (nD x_17), .fro (nD b_21), .non, .non, .non, .non, .non]) rfl rfl (A_f (E_callS (s' := ⟨[.fro (.hd 0), .fro (nD houses_), .fro (nD most_), .fro (nD count_2), .own ((lC rdD) v_15.1), g_12.1, .fro (nD x_17), .fro (nD b_21), .non, .non, .non, .non, .non], take_22.2⟩) (A_f (E_name rfl) (A_f (E_2 (O_vf (E_N (L_cons (O_slot rfl) L_nil) (o_lenL (f := rdD) _))) (O_vf (E_n 1 rfl)) (o_addN _ _)) A_nil)) (q__law_take (v_15.1.length + (1 : Nat)) htake_22) rfl) (A_f (E_2 (O_vf (E_tup (A_f (E_callS (s' := ⟨[.fro (.hd 0), .fro (nD houses_), .fro (nD most_), .fro (nD count_2), .own ((lC rdD) v_15.1), g_12.1, .fro (nD x_17), .fro (nD b_21), .non, .non, .non, .non, .non], take_23.2⟩) (A_f (E_name rfl) (A_f (E_name rfl) A_nil)) (q__law_take b_21 htake_23) rfl) (A_f (E_name rfl) A_nil)) rfl)) (O_vf (E_callS (s' := ⟨[.fro (.hd 0), .fro (nD houses_), .fro (nD most_), .fro (nD count_2), .own ((lC rdD) v_15.1), g_12.1, .fro (nD x_17), .fro (nD b_21), .non, .non, .non, .non, .non], draw_bounds_24.2⟩) (A_f (E_name rfl) A_nil) (q__law_draw_bounds hdraw_bounds_24) rfl)) (addT_b rfl)) A_nil)) rfl (o_ins (f := rdD) hroads_25) rfl) ?_
      have he := Option.some.inj hp
      subst he
      exact ⟨.inl rfl, (.fro (nD x_17), .fro (nD b_21), ()), rfl⟩
    · have hp := ite_f hb_18 hp
      refine S_pass ?_
      have he := Option.some.inj hp
      subst he
      exact ⟨.inl rfl, (.fro (nD x_17), g_16.2.1, ()), rfl⟩
  refine S_seq (S_par (env' := [.fro (.hd 0), .fro (nD houses_), .fro (nD most_), .fro (nD count_2), .own ((lC rdD) w_26.1), g_12.1, g_27.1, g_27.2.1, .own ((lC nD) ([] : List Nat)), .own ((lC rdD) ([] : List Rd)), .non, .non, .non]) (E_lst A_nil rfl) (E_lst A_nil rfl) rfl ?_)
  obtain ⟨rng_28, hrng_28, hp⟩ := bs hp
  obtain ⟨w_34, hw_34, hp⟩ := bs hp
  refine S_seq (S_for nD (fun (v_29 : (List Nat) × List Cell) (g_30 : Slot × Unit) => (⟨[.fro (.hd 0), .fro (nD houses_), .fro (nD most_), .fro (nD count_2), .own ((lC rdD) w_26.1), g_30.1, g_27.1, g_27.2.1, .own ((lC nD) v_29.1), .own ((lC rdD) ([] : List Rd)), .non, .non, .non], v_29.2⟩ : Sg)) (g_12.1, ()) (I_rng1 (A_f (E_name rfl) A_nil) hrng_28) rfl hw_34 (fun x_31 v_29 w' g_30 hp => ?_) (fun g_35 => ?_))
  · refine ⟨⟨[.fro (.hd 0), .fro (nD houses_), .fro (nD most_), .fro (nD count_2), .own ((lC rdD) w_26.1), .fro (nD x_31), g_27.1, g_27.2.1, .own ((lC nD) v_29.1), .own ((lC rdD) ([] : List Rd)), .non, .non, .non], v_29.2⟩, rfl, ?_⟩
    obtain ⟨take_32, htake_32, hp⟩ := bs hp
    obtain ⟨order_33, horder_33, hp⟩ := bs hp
    refine S_dropM (M_mut (env' := [.fro (.hd 0), .fro (nD houses_), .fro (nD most_), .fro (nD count_2), .own ((lC rdD) w_26.1), .fro (nD x_31), g_27.1, g_27.2.1, .own ((lC nD) order_33), .own ((lC rdD) ([] : List Rd)), .non, .non, .non]) rfl rfl (A_f (E_callS (s' := ⟨[.fro (.hd 0), .fro (nD houses_), .fro (nD most_), .fro (nD count_2), .own ((lC rdD) w_26.1), .fro (nD x_31), g_27.1, g_27.2.1, .own ((lC nD) v_29.1), .own ((lC rdD) ([] : List Rd)), .non, .non, .non], take_32.2⟩) (A_f (E_name rfl) (A_f (E_2 (O_slot rfl) (O_vf (E_n 1 rfl)) (o_addN _ _)) A_nil)) (q__law_take (x_31 + (1 : Nat)) htake_32) rfl) (A_f (E_name rfl) A_nil)) rfl (o_ins (f := nD) horder_33) rfl) ?_
    have he := Option.some.inj hp
    subst he
    exact ⟨.inl rfl, (.fro (nD x_31), ()), rfl⟩
  obtain ⟨w_44, hw_44, hp⟩ := bs hp
  refine S_seq (S_for rdD (fun (v_36 : (List Rd)) (g_37 : Slot × Slot × Slot × Slot × Unit) => (⟨[.fro (.hd 0), .fro (nD houses_), .fro (nD most_), .fro (nD count_2), .fro ((lC rdD) w_26.1), g_35.1, g_27.1, g_37.1, .own ((lC nD) w_34.1), .own ((lC rdD) v_36), g_37.2.1, g_37.2.2.1, g_37.2.2.2.1], w_34.2⟩ : Sg)) (g_27.2.1, .non, .non, .non, ()) (I_seq (E_nameO (s' := ⟨[.fro (.hd 0), .fro (nD houses_), .fro (nD most_), .fro (nD count_2), .fro ((lC rdD) w_26.1), g_35.1, g_27.1, g_27.2.1, .own ((lC nD) w_34.1), .own ((lC rdD) ([] : List Rd)), .non, .non, .non], w_34.2⟩) rfl rfl) rfl) rfl hw_44 (fun x_38 v_36 w' g_37 hp => ?_) (fun g_45 => ?_))
  · refine ⟨⟨[.fro (.hd 0), .fro (nD houses_), .fro (nD most_), .fro (nD count_2), .fro ((lC rdD) w_26.1), g_35.1, g_27.1, .fro (nD x_38.b), .own ((lC nD) w_34.1), .own ((lC rdD) v_36), .fro (nD x_38.a), .fro (nD x_38.lo), .fro (nD x_38.hi)], w_34.2⟩, rfl, ?_⟩
    obtain ⟨it_39, hit_39, hp⟩ := bs hp
    obtain ⟨it_40, hit_40, hp⟩ := bs hp
    obtain ⟨it_41, hit_41, hp⟩ := bs hp
    obtain ⟨it_42, hit_42, hp⟩ := bs hp
    obtain ⟨turned_43, hturned_43, hp⟩ := bs hp
    refine S_dropM (M_mut (env' := [.fro (.hd 0), .fro (nD houses_), .fro (nD most_), .fro (nD count_2), .fro ((lC rdD) w_26.1), g_35.1, g_27.1, .fro (nD x_38.b), .own ((lC nD) w_34.1), .own ((lC rdD) turned_43), .fro (nD x_38.a), .fro (nD x_38.lo), .fro (nD x_38.hi)]) rfl rfl (A_f (E_tup (A_f (E_N (L_cons (O_vf (E_2 (O_slot rfl) (O_slot rfl) (o_ixL (f := nD) hit_39))) (L_cons (O_vf (E_2 (O_slot rfl) (O_slot rfl) (o_ixL (f := nD) hit_40))) L_nil)) (o_minN _ _)) (A_f (E_N (L_cons (O_vf (E_2 (O_slot rfl) (O_slot rfl) (o_ixL (f := nD) hit_41))) (L_cons (O_vf (E_2 (O_slot rfl) (O_slot rfl) (o_ixL (f := nD) hit_42))) L_nil)) (o_maxN _ _)) (A_f (E_name rfl) (A_f (E_name rfl) A_nil)))) rfl) A_nil) rfl (o_app (f := rdD) hturned_43) rfl) ?_
    have he := Option.some.inj hp
    subst he
    exact ⟨.inl rfl, (.fro (nD x_38.b), .fro (nD x_38.a), .fro (nD x_38.lo), .fro (nD x_38.hi), ()), rfl⟩
  refine S_ret (E_tup (A_f (E_name rfl) (A_f (E_N (L_cons (O_slot rfl) L_nil) (o_tupL (f := rdD) _)) A_nil)) rfl) ?_
  have he := Option.some.inj hp
  subst he
  exact ⟨rfl, rfl⟩
theorem q__law_with (web_ : Web) (road_ : Nat) (low_ : Nat) (high_ : Nat) {r : (Nat × (List Rd))} (hp : p__law_with web_ road_ low_ high_ = some r) (st : List Cell) : m__law_with [webD web_, nD road_, nD low_, nD high_] st = some (.fro ((p2 nD (tC rdD)) r), st) := by
  refine fn_R rfl ?_
  show S ev__law_with ⟨[.fro (webD web_), .fro (nD road_), .fro (nD low_), .fro (nD high_)], st⟩ _
  unfold ev__law_with
  unfold p__law_with at hp
  obtain ⟨it_1, hit_1, hp⟩ := bs hp
  obtain ⟨sum_2, hsum_2, hp⟩ := bs hp
  obtain ⟨sum_3, hsum_3, hp⟩ := bs hp
  refine S_ret (E_tup (A_f (E_2 (O_slot rfl) (O_vf (E_n 0 rfl)) rfl) (A_f (E_2 (O_vf (E_2 (O_vf (E_sl (O_vf (E_2 (O_slot rfl) (O_vf (E_n 1 rfl)) rfl)) P_no (P_pt (O_slot rfl)) (o_tslT (f := rdD) _ _ ))) (O_vf (E_tup (A_f (E_2 (O_vf (E_sl (O_vf (E_2 (O_vf (E_2 (O_slot rfl) (O_vf (E_n 1 rfl)) rfl)) (O_slot rfl) (o_ixT (f := rdD) hit_1))) P_no (P_pt (O_vf (E_n 2 rfl))) rfl)) (O_vf (E_tup (A_f (E_name rfl) (A_f (E_name rfl) A_nil)) rfl)) (addT_b rfl)) A_nil) rfl)) (o_addT (f := rdD) hsum_2))) (O_vf (E_sl (O_vf (E_2 (O_slot rfl) (O_vf (E_n 1 rfl)) rfl)) (P_pt (O_vf (E_2 (O_slot rfl) (O_vf (E_n 1 rfl)) (o_addN _ _)))) P_no (o_tslF (f := rdD) _ _ ))) (o_addT (f := rdD) hsum_3)) A_nil)) rfl) ?_
  have he := Option.some.inj hp
  exact ⟨congrArg (fun z => Out.rt (RV.fro ((p2 nD (tC rdD)) z))) he, rfl⟩
theorem q__law_draw_near_fixed (houses_ : Nat) (most_ : Nat) {st : List Cell} {r : (Web × List Cell)} (hp : p__law_draw_near_fixed houses_ most_ st = some r) : m__law_draw_near_fixed [.hd 0, nD houses_, nD most_] st = some (.fro (webD r.1), r.2) := by
  refine fn_R rfl ?_
  show S ev__law_draw_near_fixed ⟨[.fro (.hd 0), .fro (nD houses_), .fro (nD most_), .non, .non, .non], st⟩ _
  unfold ev__law_draw_near_fixed
  unfold p__law_draw_near_fixed at hp
  obtain ⟨draw_web_1, hdraw_web_1, hp⟩ := bs hp
  refine S_seq (S_set (env' := [.fro (.hd 0), .fro (nD houses_), .fro (nD most_), .fro (webD draw_web_1.1), .non, .non]) (E_callS (s' := ⟨[.fro (.hd 0), .fro (nD houses_), .fro (nD most_), .non, .non, .non], draw_web_1.2⟩) (A_f (E_name rfl) (A_f (E_name rfl) (A_f (E_name rfl) A_nil))) (q__law_draw_web houses_ most_ hdraw_web_1) rfl) rfl ?_)
  obtain ⟨rng_2, hrng_2, hp⟩ := bs hp
  obtain ⟨w_12, hw_12, hp⟩ := bs hp
  refine S_seq (S_for nD (fun (v_3 : Web × List Cell) (g_4 : Slot × Slot × Unit) => (⟨[.fro (.hd 0), .fro (nD houses_), .fro (nD most_), .fro (webD v_3.1), g_4.1, g_4.2.1], v_3.2⟩ : Sg)) (.non, .non, ()) (I_rng1 (A_f (E_N (L_cons (O_vf (E_2 (O_slot rfl) (O_vf (E_n 1 rfl)) rfl)) L_nil) (o_lenT (f := rdD) _)) A_nil) hrng_2) rfl hw_12 (fun x_5 v_3 w' g_4 hp => ?_) (fun g_13 => ?_))
  · refine ⟨⟨[.fro (.hd 0), .fro (nD houses_), .fro (nD most_), .fro (webD v_3.1), .fro (nD x_5), g_4.2.1], v_3.2⟩, rfl, ?_⟩
    obtain ⟨take_6, htake_6, hp⟩ := bs hp
    refine S_if (B_B (E_2 (O_vf (E_callS (s' := ⟨[.fro (.hd 0), .fro (nD houses_), .fro (nD most_), .fro (webD v_3.1), .fro (nD x_5), g_4.2.1], take_6.2⟩) (A_f (E_name rfl) (A_f (E_n 3 rfl) A_nil)) (q__law_take (3 : Nat) htake_6) rfl)) (O_vf (E_n 0 rfl)) (o_gtN _ _))) (fun hb_7 => ?_) (fun hb_7 => ?_)
    · have hp := ite_t hb_7 hp
      obtain ⟨take_8, htake_8, hp⟩ := bs hp
      refine S_seq (S_set (env' := [.fro (.hd 0), .fro (nD houses_), .fro (nD most_), .fro (webD v_3.1), .fro (nD x_5), .fro (nD take_8.1)]) (E_callS (s' := ⟨[.fro (.hd 0), .fro (nD houses_), .fro (nD most_), .fro (webD v_3.1), .fro (nD x_5), g_4.2.1], take_8.2⟩) (A_f (E_name rfl) (A_f (E_n 8 rfl) A_nil)) (q__law_take (8 : Nat) htake_8) rfl) rfl ?_)
      obtain ⟨one_of_9, hone_of_9, hp⟩ := bs hp
      obtain ⟨with_10, hwith_10, hp⟩ := bs hp
      obtain ⟨web_11, hweb_11, hp⟩ := bs hp
      replace hweb_11 := Option.some.inj hweb_11
      refine S_set (env' := [.fro (.hd 0), .fro (nD houses_), .fro (nD most_), .fro (webD web_11), .fro (nD x_5), .fro (nD take_8.1)]) (E_as (E_call (A_f (E_name rfl) (A_f (E_name rfl) (A_f (E_name rfl) (A_f (E_2 (O_slot rfl) (O_vf (E_callS (s' := ⟨[.fro (.hd 0), .fro (nD houses_), .fro (nD most_), .fro (webD v_3.1), .fro (nD x_5), .fro (nD take_8.1)], one_of_9.2⟩) (A_f (E_name rfl) (A_o (E_lst (A_f (E_n 0 rfl) (A_f (E_n 0 rfl) (A_f (E_n 1 rfl) A_nil))) rfl) A_nil)) (q__law_one_of ([(0 : Nat), (0 : Nat), (1 : Nat)] : List Nat) hone_of_9) rfl)) (o_addN _ _)) A_nil)))) (q__law_with v_3.1 x_5 take_8.1 (take_8.1 + one_of_9.1) hwith_10 _)) (congrArg (fun z => RV.fro (webD z)) hweb_11)) rfl ?_
      have he := Option.some.inj hp
      subst he
      exact ⟨.inl rfl, (.fro (nD x_5), .fro (nD take_8.1), ()), rfl⟩
    · have hp := ite_f hb_7 hp
      refine S_pass ?_
      have he := Option.some.inj hp
      subst he
      exact ⟨.inl rfl, (.fro (nD x_5), g_4.2.1, ()), rfl⟩
  refine S_retF rfl ?_
  have he := Option.some.inj hp
  subst he
  exact ⟨rfl, rfl⟩
theorem q__law_one_of'1 (some_ : (List ((List Nat) × (List Nat)))) {st : List Cell} {r : (((List Nat) × (List Nat)) × List Cell)} (hp : p__law_one_of'1 some_ st = some r) : m__law_one_of [.hd 0, (lC (p2 (tC nD) (tC nD))) some_] st = some (.fro ((p2 (tC nD) (tC nD)) r.1), r.2) := by
  refine fn_R rfl ?_
  show S ev__law_one_of ⟨[.fro (.hd 0), .fro ((lC (p2 (tC nD) (tC nD))) some_)], st⟩ _
  unfold ev__law_one_of
  unfold p__law_one_of'1 at hp
  obtain ⟨take_1, htake_1, hp⟩ := bs hp
  obtain ⟨it_2, hit_2, hp⟩ := bs hp
  refine S_ret (E_2 (O_slot rfl) (O_vf (E_callS (s' := ⟨[.fro (.hd 0), .fro ((lC (p2 (tC nD) (tC nD))) some_)], take_1.2⟩) (A_f (E_name rfl) (A_f (E_N (L_cons (O_slot rfl) L_nil) (o_lenL (f := (p2 (tC nD) (tC nD))) _)) A_nil)) (q__law_take some_.length htake_1) rfl)) (o_ixL (f := (p2 (tC nD) (tC nD))) hit_2)) ?_
  have he := Option.some.inj hp
  subst he
  exact ⟨rfl, rfl⟩
theorem q__law_reach (web_ : Web) (roads_ : (List Nat)) (house_ : Nat) {r : (List Nat)} (hp : p__law_reach web_ roads_ house_ = some r) (st : List Cell) : m__law_reach [webD web_, (lC nD) roads_, nD house_] st = some (.own ((lC nD) r), st) := by
  refine fn_R rfl ?_
  show S ev__law_reach ⟨[.fro (webD web_), .fro ((lC nD) roads_), .fro (nD house_), .non, .non, .non, .non, .non, .non, .non], st⟩ _
  unfold ev__law_reach
  unfold p__law_reach at hp
  refine S_seq (S_par (env' := [.fro (webD web_), .fro ((lC nD) roads_), .fro (nD house_), .own ((lC nD) ([house_] : List Nat)), .own ((lC nD) ([house_] : List Nat)), .non, .non, .non, .non, .non]) (E_lst (A_f (E_name rfl) A_nil) rfl) (E_lst (A_f (E_name rfl) A_nil) rfl) rfl ?_)
  obtain ⟨w_19, hw_19, hp⟩ := bs hp
  refine S_seq (S_wh (fun (v_1 : (List Nat) × (List Nat)) (g_2 : Slot × Slot × Slot × Slot × Slot × Unit) => (⟨[.fro (webD web_), .fro ((lC nD) roads_), .fro (nD house_), .own ((lC nD) v_1.1), .own ((lC nD) v_1.2), g_2.1, g_2.2.1, g_2.2.2.1, g_2.2.2.2.1, g_2.2.2.2.2.1], st⟩ : Sg)) (.non, .non, .non, .non, .non, ()) rfl hw_19 (fun v_1 g_2 b hq => by skip; exact B_as (B_B (E_2 (O_slot rfl) (O_vo (E_lst A_nil rfl)) (o_ne (f := (lC nD)) v_1.2 ([] : List Nat)))) (Option.some.inj hq)) (fun v_1 w' g_2 hp => ?_) (fun g_20 => ?_))
  · obtain ⟨waiting_4, hwaiting_4, hp⟩ := bs hp
    refine S_seq (S_setM (env' := [.fro (webD web_), .fro ((lC nD) roads_), .fro (nD house_), .own ((lC nD) v_1.1), .own ((lC nD) waiting_4.2), .fro (nD waiting_4.1), g_2.2.1, g_2.2.2.1, g_2.2.2.2.1, g_2.2.2.2.2.1]) (M_mut (env' := [.fro (webD web_), .fro ((lC nD) roads_), .fro (nD house_), .own ((lC nD) v_1.1), .own ((lC nD) waiting_4.2), g_2.1, g_2.2.1, g_2.2.2.1, g_2.2.2.2.1, g_2.2.2.2.2.1]) rfl rfl A_nil rfl (o_pop (f := nD) hwaiting_4) rfl) rfl ?_)
    obtain ⟨w_17, hw_17, hp⟩ := bs hp
    refine S_for nD (fun (v_5 : (List Nat) × (List Nat)) (g_6 : Slot × Slot × Slot × Slot × Unit) => (⟨[.fro (webD web_), .fro ((lC nD) roads_), .fro (nD house_), .own ((lC nD) v_5.1), .own ((lC nD) v_5.2), .fro (nD waiting_4.1), g_6.1, g_6.2.1, g_6.2.2.1, g_6.2.2.2.1], st⟩ : Sg)) (g_2.2.1, g_2.2.2.1, g_2.2.2.2.1, g_2.2.2.2.2.1, ()) (I_seq (E_name rfl) rfl) rfl hw_17 (fun x_7 v_5 w' g_6 hp => ?_) (fun g_18 => ?_)
    · refine ⟨⟨[.fro (webD web_), .fro ((lC nD) roads_), .fro (nD house_), .own ((lC nD) v_5.1), .own ((lC nD) v_5.2), .fro (nD waiting_4.1), .fro (nD x_7), g_6.2.1, g_6.2.2.1, g_6.2.2.2.1], st⟩, rfl, ?_⟩
      obtain ⟨it_8, hit_8, hp⟩ := bs hp
      refine S_seq (S_asg (s2 := ⟨[.fro (webD web_), .fro ((lC nD) roads_), .fro (nD house_), .own ((lC nD) v_5.1), .own ((lC nD) v_5.2), .fro (nD waiting_4.1), .fro (nD x_7), .fro (nD it_8.a), .fro (nD it_8.b), g_6.2.2.2.1], st⟩) (E_sl (O_vf (E_2 (O_vf (E_2 (O_slot rfl) (O_vf (E_n 1 rfl)) rfl)) (O_slot rfl) (o_ixT (f := rdD) hit_8))) P_no (P_pt (O_vf (E_n 2 rfl))) rfl) rfl ?_)
      obtain ⟨w_15, hw_15, hp⟩ := bs hp
      refine S_for nD (fun (v_9 : (List Nat) × (List Nat)) (g_10 : Slot × Unit) => (⟨[.fro (webD web_), .fro ((lC nD) roads_), .fro (nD house_), .own ((lC nD) v_9.1), .own ((lC nD) v_9.2), .fro (nD waiting_4.1), .fro (nD x_7), .fro (nD it_8.a), .fro (nD it_8.b), g_10.1], st⟩ : Sg)) (g_6.2.2.2.1, ()) (I_seq (E_lst (A_f (E_name rfl) (A_f (E_name rfl) A_nil)) rfl) rfl) rfl hw_15 (fun x_11 v_9 w' g_10 hp => ?_) (fun g_16 => ?_)
      · refine ⟨⟨[.fro (webD web_), .fro ((lC nD) roads_), .fro (nD house_), .own ((lC nD) v_9.1), .own ((lC nD) v_9.2), .fro (nD waiting_4.1), .fro (nD x_7), .fro (nD it_8.a), .fro (nD it_8.b), .fro (nD x_11)], st⟩, rfl, ?_⟩
        refine S_if (B_and (B_B (E_2 (O_slot rfl) (O_vf (E_tup (A_f (E_name rfl) (A_f (E_name rfl) A_nil)) rfl)) (o_inT (f := nD) waiting_4.1 ([it_8.a, it_8.b] : List Nat)))) (B_B (E_2 (O_slot rfl) (O_slot rfl) (o_ninL (f := nD) x_11 v_9.1)))) (fun hb_12 => ?_) (fun hb_12 => ?_)
        · have hp := ite_t hb_12 hp
          obtain ⟨found_13, hfound_13, hp⟩ := bs hp
          refine S_seq (S_dropM (M_mut (env' := [.fro (webD web_), .fro ((lC nD) roads_), .fro (nD house_), .own ((lC nD) found_13), .own ((lC nD) v_9.2), .fro (nD waiting_4.1), .fro (nD x_7), .fro (nD it_8.a), .fro (nD it_8.b), .fro (nD x_11)]) rfl rfl (A_f (E_name rfl) A_nil) rfl (o_app (f := nD) hfound_13) rfl) ?_)
          obtain ⟨waiting_14, hwaiting_14, hp⟩ := bs hp
          refine S_dropM (M_mut (env' := [.fro (webD web_), .fro ((lC nD) roads_), .fro (nD house_), .own ((lC nD) found_13), .own ((lC nD) waiting_14), .fro (nD waiting_4.1), .fro (nD x_7), .fro (nD it_8.a), .fro (nD it_8.b), .fro (nD x_11)]) rfl rfl (A_f (E_name rfl) A_nil) rfl (o_app (f := nD) hwaiting_14) rfl) ?_
          have he := Option.some.inj hp
          subst he
          exact ⟨.inl rfl, (.fro (nD x_11), ()), rfl⟩
        · have hp := ite_f hb_12 hp
          refine S_pass ?_
          have he := Option.some.inj hp
          subst he
          exact ⟨.inl rfl, (.fro (nD x_11), ()), rfl⟩
      have he := Option.some.inj hp
      subst he
      exact ⟨.inl rfl, (.fro (nD x_7), .fro (nD it_8.a), .fro (nD it_8.b), g_16.1, ()), rfl⟩
    have he := Option.some.inj hp
    subst he
    exact ⟨.inl rfl, (.fro (nD waiting_4.1), g_18.1, g_18.2.1, g_18.2.2.1, g_18.2.2.2.1, ()), rfl⟩
  obtain ⟨srt_21, hsrt_21, hp⟩ := bs hp
  refine S_ret (E_N (L_cons (O_slot rfl) L_nil) (o_sortL (f := nD) hsrt_21)) ?_
  have he := Option.some.inj hp
  exact ⟨congrArg (fun z => Out.rt (RV.own ((lC nD) z))) he, rfl⟩
theorem q__law_is_apart (web_ : Web) (roads_ : (List Nat)) (road_ : Nat) {r : Bool} (hp : p__law_is_apart web_ roads_ road_ = some r) (st : List Cell) : m__law_is_apart [webD web_, (lC nD) roads_, nD road_] st = some (.fro (D.bl r), st) := by
  refine fn_R rfl ?_
  show S ev__law_is_apart ⟨[.fro (webD web_), .fro ((lC nD) roads_), .fro (nD road_), .non, .non, .non], st⟩ _
  unfold ev__law_is_apart
  unfold p__law_is_apart at hp
  obtain ⟨it_1, hit_1, hp⟩ := bs hp
  refine S_seq (S_asg (s2 := ⟨[.fro (webD web_), .fro ((lC nD) roads_), .fro (nD road_), .fro (nD it_1.a), .fro (nD it_1.b), .non], st⟩) (E_sl (O_vf (E_2 (O_vf (E_2 (O_slot rfl) (O_vf (E_n 1 rfl)) rfl)) (O_slot rfl) (o_ixT (f := rdD) hit_1))) P_no (P_pt (O_vf (E_n 2 rfl))) rfl) rfl ?_)
  obtain ⟨lc_3, hlc_3, hp⟩ := bs hp
  obtain ⟨reach_4, hreach_4, hp⟩ := bs hp
  refine S_ret (E_2 (O_slot rfl) (O_vo (E_call (A_f (E_name rfl) (A_o (E_lc nD nD (env := [.fro (webD web_), .fro ((lC nD) roads_), .fro (nD road_), .fro (nD it_1.a), .fro (nD it_1.b), .non]) (s' := ⟨[.fro (webD web_), .fro ((lC nD) roads_), .fro (nD road_), .fro (nD it_1.a), .fro (nD it_1.b), .non], st⟩) (I_seq (E_name rfl) rfl) rfl rfl ((lcT_P _).trans hlc_3) (fun x_2 b hb => by skip; exact ⟨⟨[.fro (webD web_), .fro ((lC nD) roads_), .fro (nD road_), .fro (nD it_1.a), .fro (nD it_1.b), .fro (nD x_2)], st⟩, ⟨[.fro (webD web_), .fro ((lC nD) roads_), .fro (nD road_), .fro (nD it_1.a), .fro (nD it_1.b), .fro (nD x_2)], st⟩, rfl, B_as (B_B (E_2 (O_slot rfl) (O_slot rfl) (o_ne (f := nD) x_2 road_))) (Option.some.inj hb), rfl, fun _ yy hq => by skip; exact ⟨_, ⟨[.fro (webD web_), .fro ((lC nD) roads_), .fro (nD road_), .fro (nD it_1.a), .fro (nD it_1.b), .fro (nD x_2)], st⟩, (E_name rfl), congrArg nD (Option.some.inj hq), rfl⟩⟩)) (A_f (E_name rfl) A_nil))) (q__law_reach web_ lc_3 it_1.a hreach_4 _))) (o_ninL (f := nD) it_1.b reach_4)) ?_
  have he := Option.some.inj hp
  exact ⟨congrArg (fun z => Out.rt (RV.fro (D.bl z))) he, rfl⟩
theorem q__law_holds (web_ : Web) (plan_ : ((List Nat) × (List Nat))) {r : Bool} (hp : p__law_holds web_ plan_ = some r) (st : List Cell) : m__law_holds [webD web_, (p2 (tC nD) (tC nD)) plan_] st = some (.fro (D.bl r), st) := by
  refine fn_R rfl ?_
  show S ev__law_holds ⟨[.fro (webD web_), .fro ((p2 (tC nD) (tC nD)) plan_), .non, .non, .non, .non, .non, .non, .non], st⟩ _
  unfold ev__law_holds
  unfold p__law_holds at hp
  refine S_seq (S_asg (s2 := ⟨[.fro (webD web_), .fro ((p2 (tC nD) (tC nD)) plan_), .fro ((tC nD) plan_.1), .fro ((tC nD) plan_.2), .non, .non, .non, .non, .non], st⟩) (E_name rfl) rfl ?_)
  obtain ⟨rng_1, hrng_1, hp⟩ := bs hp
  obtain ⟨lc_3, hlc_3, hp⟩ := bs hp
  refine S_seq (S_set (env' := [.fro (webD web_), .fro ((p2 (tC nD) (tC nD)) plan_), .fro ((tC nD) plan_.1), .fro ((tC nD) plan_.2), .own ((lC nD) lc_3), .non, .non, .non, .non]) (E_lc nD nD (env := [.fro (webD web_), .fro ((p2 (tC nD) (tC nD)) plan_), .fro ((tC nD) plan_.1), .fro ((tC nD) plan_.2), .non, .non, .non, .non, .non]) (s' := ⟨[.fro (webD web_), .fro ((p2 (tC nD) (tC nD)) plan_), .fro ((tC nD) plan_.1), .fro ((tC nD) plan_.2), .non, .non, .non, .non, .non], st⟩) (I_rng1 (A_f (E_N (L_cons (O_vf (E_2 (O_slot rfl) (O_vf (E_n 1 rfl)) rfl)) L_nil) (o_lenT (f := rdD) _)) A_nil) hrng_1) rfl rfl ((lcT_P _).trans hlc_3) (fun x_2 b hb => by skip; exact ⟨⟨[.fro (webD web_), .fro ((p2 (tC nD) (tC nD)) plan_), .fro ((tC nD) plan_.1), .fro ((tC nD) plan_.2), .non, .fro (nD x_2), .non, .non, .non], st⟩, ⟨[.fro (webD web_), .fro ((p2 (tC nD) (tC nD)) plan_), .fro ((tC nD) plan_.1), .fro ((tC nD) plan_.2), .non, .fro (nD x_2), .non, .non, .non], st⟩, rfl, B_as (B_B (E_2 (O_slot rfl) (O_slot rfl) (o_ninT (f := nD) x_2 plan_.2))) (Option.some.inj hb), rfl, fun _ yy hq => by skip; exact ⟨_, ⟨[.fro (webD web_), .fro ((p2 (tC nD) (tC nD)) plan_), .fro ((tC nD) plan_.1), .fro ((tC nD) plan_.2), .non, .fro (nD x_2), .non, .non, .non], st⟩, (E_name rfl), congrArg nD (Option.some.inj hq), rfl⟩⟩)) rfl ?_)
  obtain ⟨c_16, hc_16, hp⟩ := bs hp
  refine S_seq (S_forC nD (fun (v_4 : Unit) (g_5 : Slot × Slot × Bool × Unit) => (⟨[.fro (webD web_), .fro ((p2 (tC nD) (tC nD)) plan_), .fro ((tC nD) plan_.1), .fro ((tC nD) plan_.2), (eiS g_5.2.2.1 ((lC nD) lc_3)), g_5.1, g_5.2.1, .non, .non], st⟩ : Sg)) (fun (r : Bool) rv (s' : Sg) => rv = RV.fro (D.bl r) ∧ s'.st = st) (.non, .non, true, ()) (I_seq (E_name rfl) rfl) rfl hc_16 (fun x_6 v_4 c' g_5 hp => ?_) (fun r_17 rv s' hcr hrr => ?_) (fun w_14 g_15 hcr => ?_))
  · refine ⟨⟨[.fro (webD web_), .fro ((p2 (tC nD) (tC nD)) plan_), .fro ((tC nD) plan_.1), .fro ((tC nD) plan_.2), (eiS g_5.2.2.1 ((lC nD) lc_3)), .fro (nD x_6), g_5.2.1, .non, .non], st⟩, rfl, ?_⟩
    obtain ⟨it_7, hit_7, hp⟩ := bs hp
    refine S_seq (S_set (env' := [.fro (webD web_), .fro ((p2 (tC nD) (tC nD)) plan_), .fro ((tC nD) plan_.1), .fro ((tC nD) plan_.2), (eiS g_5.2.2.1 ((lC nD) lc_3)), .fro (nD x_6), .fro (nD it_7.hi), .non, .non]) (E_2 (O_vf (E_2 (O_vf (E_2 (O_slot rfl) (O_vf (E_n 1 rfl)) rfl)) (O_slot rfl) (o_ixT (f := rdD) hit_7))) (O_vf (E_n 3 rfl)) rfl) rfl ?_)
    obtain ⟨lc_11, hlc_11, hp⟩ := bs hp
    obtain ⟨is_apart_12, his_apart_12, hp⟩ := bs hp
    refine S_if (B_not (B_tru (O_vf (E_call (A_f (E_name rfl) (A_o (E_lc nD nD (env := [.fro (webD web_), .fro ((p2 (tC nD) (tC nD)) plan_), .fro ((tC nD) plan_.1), .fro ((tC nD) plan_.2), .fro ((lC nD) lc_3), .fro (nD x_6), .fro (nD it_7.hi), .non, .non]) (s' := ⟨[.fro (webD web_), .fro ((p2 (tC nD) (tC nD)) plan_), .fro ((tC nD) plan_.1), .fro ((tC nD) plan_.2), .fro ((lC nD) lc_3), .fro (nD x_6), .fro (nD it_7.hi), .non, .non], st⟩) (I_seq (E_nameE (s' := ⟨[.fro (webD web_), .fro ((p2 (tC nD) (tC nD)) plan_), .fro ((tC nD) plan_.1), .fro ((tC nD) plan_.2), .fro ((lC nD) lc_3), .fro (nD x_6), .fro (nD it_7.hi), .non, .non], st⟩) rfl rfl) rfl) rfl rfl hlc_11 (fun x_8 b hb => by obtain ⟨t_10, ht_10, hb⟩ := bs hb; exact ⟨⟨[.fro (webD web_), .fro ((p2 (tC nD) (tC nD)) plan_), .fro ((tC nD) plan_.1), .fro ((tC nD) plan_.2), .fro ((lC nD) lc_3), .fro (nD x_6), .fro (nD it_7.hi), .non, .fro (nD x_8)], st⟩, ⟨[.fro (webD web_), .fro ((p2 (tC nD) (tC nD)) plan_), .fro ((tC nD) plan_.1), .fro ((tC nD) plan_.2), .fro ((lC nD) lc_3), .fro (nD x_6), .fro (nD it_7.hi), .non, .fro (nD x_8)], st⟩, rfl, B_as (B_orP (B_B (E_2 (O_slot rfl) (O_slot rfl) (o_inT (f := nD) x_8 plan_.1))) ht_10 (fun _ hq => (by obtain ⟨it_9, hit_9, hq⟩ := bs hq; exact B_as (B_B (E_2 (O_vf (E_2 (O_vf (E_2 (O_vf (E_2 (O_slot rfl) (O_vf (E_n 1 rfl)) rfl)) (O_slot rfl) (o_ixT (f := rdD) hit_9))) (O_vf (E_n 2 rfl)) rfl)) (O_slot rfl) (o_ltN _ _))) (Option.some.inj hq)))) (Option.some.inj hb), rfl, fun _ yy hq => by skip; exact ⟨_, ⟨[.fro (webD web_), .fro ((p2 (tC nD) (tC nD)) plan_), .fro ((tC nD) plan_.1), .fro ((tC nD) plan_.2), .fro ((lC nD) lc_3), .fro (nD x_6), .fro (nD it_7.hi), .non, .fro (nD x_8)], st⟩, (E_name rfl), congrArg nD (Option.some.inj hq), rfl⟩⟩)) (A_f (E_name rfl) A_nil))) (q__law_is_apart web_ lc_11 x_6 his_apart_12 _))) rfl)) (fun hb_13 => ?_) (fun hb_13 => ?_)
    · have hp := ite_t hb_13 hp
      refine S_ret E_c ?_
      have he := Option.some.inj hp
      subst he
      exact ⟨_, rfl, rfl, rfl⟩
    · have hp := ite_f hb_13 hp
      refine S_pass ?_
      have he := Option.some.inj hp
      subst he
      exact ⟨.inl rfl, (.fro (nD x_6), .fro (nD it_7.hi), false, ()), rfl⟩
  · subst hcr
    obtain ⟨rfl, hst⟩ := hrr
    have he := Option.some.inj hp
    exact ⟨congrArg (fun z => Out.rt (RV.fro (D.bl z))) he, hst⟩
  · subst hcr
    have hp := (contC_r _ _ _).symm.trans hp
    obtain ⟨c_29, hc_29, hp⟩ := bs hp
    refine S_seq (S_forC nD (fun (v_18 : Unit) (g_19 : Slot × Slot × Bool × Unit) => (⟨[.fro (webD web_), .fro ((p2 (tC nD) (tC nD)) plan_), .fro ((tC nD) plan_.1), .fro ((tC nD) plan_.2), (eiS g_19.2.2.1 ((lC nD) lc_3)), g_19.1, g_15.2.1, g_19.2.1, .non], st⟩ : Sg)) (fun (r : Bool) rv (s' : Sg) => rv = RV.fro (D.bl r) ∧ s'.st = st) (g_15.1, .non, g_15.2.2.1, ()) (I_seq (E_name rfl) rfl) rfl hc_29 (fun x_20 v_18 c' g_19 hp => ?_) (fun r_30 rv s' hcr hrr => ?_) (fun w_27 g_28 hcr => ?_))
    · refine ⟨⟨[.fro (webD web_), .fro ((p2 (tC nD) (tC nD)) plan_), .fro ((tC nD) plan_.1), .fro ((tC nD) plan_.2), (eiS g_19.2.2.1 ((lC nD) lc_3)), .fro (nD x_20), g_15.2.1, g_19.2.1, .non], st⟩, rfl, ?_⟩
      obtain ⟨it_21, hit_21, hp⟩ := bs hp
      refine S_seq (S_set (env' := [.fro (webD web_), .fro ((p2 (tC nD) (tC nD)) plan_), .fro ((tC nD) plan_.1), .fro ((tC nD) plan_.2), (eiS g_19.2.2.1 ((lC nD) lc_3)), .fro (nD x_20), g_15.2.1, .fro (nD it_21.lo), .non]) (E_2 (O_vf (E_2 (O_vf (E_2 (O_slot rfl) (O_vf (E_n 1 rfl)) rfl)) (O_slot rfl) (o_ixT (f := rdD) hit_21))) (O_vf (E_n 2 rfl)) rfl) rfl ?_)
      obtain ⟨lc_24, hlc_24, hp⟩ := bs hp
      obtain ⟨is_apart_25, his_apart_25, hp⟩ := bs hp
      refine S_if (B_tru (O_vf (E_call (A_f (E_name rfl) (A_o (E_lc nD nD (env := [.fro (webD web_), .fro ((p2 (tC nD) (tC nD)) plan_), .fro ((tC nD) plan_.1), .fro ((tC nD) plan_.2), .fro ((lC nD) lc_3), .fro (nD x_20), (hideSlot g_15.2.1), .fro (nD it_21.lo), .non]) (s' := ⟨[.fro (webD web_), .fro ((p2 (tC nD) (tC nD)) plan_), .fro ((tC nD) plan_.1), .fro ((tC nD) plan_.2), .fro ((lC nD) lc_3), .fro (nD x_20), g_15.2.1, .fro (nD it_21.lo), .non], st⟩) (I_seq (E_nameE (s' := ⟨[.fro (webD web_), .fro ((p2 (tC nD) (tC nD)) plan_), .fro ((tC nD) plan_.1), .fro ((tC nD) plan_.2), .fro ((lC nD) lc_3), .fro (nD x_20), g_15.2.1, .fro (nD it_21.lo), .non], st⟩) rfl rfl) rfl) rfl rfl hlc_24 (fun x_22 b hb => by obtain ⟨it_23, hit_23, hb⟩ := bs hb; exact ⟨⟨[.fro (webD web_), .fro ((p2 (tC nD) (tC nD)) plan_), .fro ((tC nD) plan_.1), .fro ((tC nD) plan_.2), .fro ((lC nD) lc_3), .fro (nD x_20), (hideSlot g_15.2.1), .fro (nD it_21.lo), .fro (nD x_22)], st⟩, ⟨[.fro (webD web_), .fro ((p2 (tC nD) (tC nD)) plan_), .fro ((tC nD) plan_.1), .fro ((tC nD) plan_.2), .fro ((lC nD) lc_3), .fro (nD x_20), (hideSlot g_15.2.1), .fro (nD it_21.lo), .fro (nD x_22)], st⟩, rfl, B_as (B_B (E_2 (O_vf (E_2 (O_vf (E_2 (O_vf (E_2 (O_slot rfl) (O_vf (E_n 1 rfl)) rfl)) (O_slot rfl) (o_ixT (f := rdD) hit_23))) (O_vf (E_n 3 rfl)) rfl)) (O_slot rfl) (o_leN _ _))) (Option.some.inj hb), rfl, fun _ yy hq => by skip; exact ⟨_, ⟨[.fro (webD web_), .fro ((p2 (tC nD) (tC nD)) plan_), .fro ((tC nD) plan_.1), .fro ((tC nD) plan_.2), .fro ((lC nD) lc_3), .fro (nD x_20), (hideSlot g_15.2.1), .fro (nD it_21.lo), .fro (nD x_22)], st⟩, (E_name rfl), congrArg nD (Option.some.inj hq), rfl⟩⟩)) (A_f (E_name rfl) A_nil))) (q__law_is_apart web_ lc_24 x_20 his_apart_25 _))) rfl) (fun hb_26 => ?_) (fun hb_26 => ?_)
      · have hp := ite_t hb_26 hp
        refine S_ret E_c ?_
        have he := Option.some.inj hp
        subst he
        exact ⟨_, rfl, rfl, rfl⟩
      · have hp := ite_f hb_26 hp
        refine S_pass ?_
        have he := Option.some.inj hp
        subst he
        exact ⟨.inl rfl, (.fro (nD x_20), .fro (nD it_21.lo), false, ()), rfl⟩
    · subst hcr
      obtain ⟨rfl, hst⟩ := hrr
      have he := Option.some.inj hp
      exact ⟨congrArg (fun z => Out.rt (RV.fro (D.bl z))) he, hst⟩
    · subst hcr
      have hp := (contC_r _ _ _).symm.trans hp
      refine S_ret E_c ?_
      have he := Option.some.inj hp
      exact ⟨congrArg (fun z => Out.rt (RV.fro (D.bl z))) he, rfl⟩
theorem q__law_draw_plan (web_ : Web) (least_ : Nat) {st : List Cell} {r : (((List Nat) × (List Nat)) × List Cell)} (hp : p__law_draw_plan web_ least_ st = some r) : m__law_draw_plan [.hd 0, webD web_, nD least_] st = some (.fro ((p2 (tC nD) (tC nD)) r.1), r.2) := by
  refine fn_R rfl ?_
  show S ev__law_draw_plan ⟨[.fro (.hd 0), .fro (webD web_), .fro (nD least_), .non, .non, .non, .non, .non], st⟩ _
  unfold ev__law_draw_plan
  unfold p__law_draw_plan at hp
  obtain ⟨plan_1, hplan_1, hp⟩ := bs hp
  replace hplan_1 := Option.some.inj hplan_1
  refine S_seq (S_set (env' := [.fro (.hd 0), .fro (webD web_), .fro (nD least_), .fro ((p2 (tC nD) (tC nD)) plan_1), .non, .non, .non, .non]) (E_as (E_tup (A_f (E_tup A_nil rfl) (A_f (E_tup A_nil rfl) A_nil)) rfl) (congrArg (fun z => RV.fro ((p2 (tC nD) (tC nD)) z)) hplan_1)) rfl ?_)
  obtain ⟨take_2, htake_2, hp⟩ := bs hp
  obtain ⟨rng_3, hrng_3, hp⟩ := bs hp
  obtain ⟨w_19, hw_19, hp⟩ := bs hp
  refine S_seq (S_for nD (fun (v_4 : ((List Nat) × (List Nat)) × List Cell) (g_5 : Slot × Slot × Slot × Slot × Unit) => (⟨[.fro (.hd 0), .fro (webD web_), .fro (nD least_), .fro ((p2 (tC nD) (tC nD)) v_4.1), g_5.1, g_5.2.1, g_5.2.2.1, g_5.2.2.2.1], v_4.2⟩ : Sg)) (.non, .non, .non, .non, ()) (I_rng1 (A_f (E_2 (O_slot rfl) (O_vf (E_callS (s' := ⟨[.fro (.hd 0), .fro (webD web_), .fro (nD least_), .fro ((p2 (tC nD) (tC nD)) plan_1), .non, .non, .non, .non], take_2.2⟩) (A_f (E_name rfl) (A_f (E_n 8 rfl) A_nil)) (q__law_take (8 : Nat) htake_2) rfl)) (o_addN _ _)) A_nil) hrng_3) rfl hw_19 (fun x_6 v_4 w' g_5 hp => ?_) (fun g_20 => ?_))
  · refine ⟨⟨[.fro (.hd 0), .fro (webD web_), .fro (nD least_), .fro ((p2 (tC nD) (tC nD)) v_4.1), .fro (nD x_6), g_5.2.1, g_5.2.2.1, g_5.2.2.2.1], v_4.2⟩, rfl, ?_⟩
    obtain ⟨take_7, htake_7, hp⟩ := bs hp
    refine S_seq (S_set (env' := [.fro (.hd 0), .fro (webD web_), .fro (nD least_), .fro ((p2 (tC nD) (tC nD)) v_4.1), .fro (nD x_6), .fro (nD take_7.1), g_5.2.2.1, g_5.2.2.2.1]) (E_callS (s' := ⟨[.fro (.hd 0), .fro (webD web_), .fro (nD least_), .fro ((p2 (tC nD) (tC nD)) v_4.1), .fro (nD x_6), g_5.2.1, g_5.2.2.1, g_5.2.2.2.1], take_7.2⟩) (A_f (E_name rfl) (A_f (E_N (L_cons (O_vf (E_n 1 rfl)) (L_cons (O_vf (E_N (L_cons (O_vf (E_2 (O_slot rfl) (O_vf (E_n 1 rfl)) rfl)) L_nil) (o_lenT (f := rdD) _))) L_nil)) (o_maxN _ _)) A_nil)) (q__law_take (max (1 : Nat) web_.rs.length) htake_7) rfl) rfl ?_)
    obtain ⟨t_9, ht_9, hp⟩ := bs hp
    refine S_if (B_andP (B_B (E_2 (O_slot rfl) (O_vf (E_N (L_cons (O_vf (E_2 (O_slot rfl) (O_vf (E_n 1 rfl)) rfl)) L_nil) (o_lenT (f := rdD) _))) (o_ltN _ _))) ht_9 (fun _ hq => (by obtain ⟨sum_8, hsum_8, hq⟩ := bs hq; exact B_as (B_B (E_2 (O_slot rfl) (O_vf (E_2 (O_vf (E_2 (O_slot rfl) (O_vf (E_n 0 rfl)) rfl)) (O_vf (E_2 (O_slot rfl) (O_vf (E_n 1 rfl)) rfl)) (o_addT (f := nD) hsum_8))) (o_ninT (f := nD) take_7.1 sum_8))) (Option.some.inj hq)))) (fun hb_10 => ?_) (fun hb_10 => ?_)
    · have hp := ite_t hb_10 hp
      obtain ⟨sum_11, hsum_11, hp⟩ := bs hp
      obtain ⟨srt_12, hsrt_12, hp⟩ := bs hp
      obtain ⟨sum_13, hsum_13, hp⟩ := bs hp
      obtain ⟨srt_14, hsrt_14, hp⟩ := bs hp
      obtain ⟨steps_15, hsteps_15, hp⟩ := bs hp
      replace hsteps_15 := Option.some.inj hsteps_15
      refine S_seq (S_set (env' := [.fro (.hd 0), .fro (webD web_), .fro (nD least_), .fro ((p2 (tC nD) (tC nD)) v_4.1), .fro (nD x_6), .fro (nD take_7.1), .own ((lC (p2 (tC nD) (tC nD))) steps_15), g_5.2.2.2.1]) (E_as (E_lst (A_f (E_tup (A_f (E_N (L_cons (O_vo (E_N (L_cons (O_vf (E_2 (O_vf (E_2 (O_slot rfl) (O_vf (E_n 0 rfl)) rfl)) (O_vf (E_tup (A_f (E_name rfl) A_nil) rfl)) (o_addT (f := nD) hsum_11))) L_nil) (o_sortT (f := nD) hsrt_12))) L_nil) (o_tupL (f := nD) _)) (A_f (E_2 (O_slot rfl) (O_vf (E_n 1 rfl)) rfl) A_nil)) rfl) (A_f (E_tup (A_f (E_2 (O_slot rfl) (O_vf (E_n 0 rfl)) rfl) (A_f (E_N (L_cons (O_vo (E_N (L_cons (O_vf (E_2 (O_vf (E_2 (O_slot rfl) (O_vf (E_n 1 rfl)) rfl)) (O_vf (E_tup (A_f (E_name rfl) A_nil) rfl)) (o_addT (f := nD) hsum_13))) L_nil) (o_sortT (f := nD) hsrt_14))) L_nil) (o_tupL (f := nD) _)) A_nil)) rfl) A_nil)) rfl) (congrArg (fun z => RV.own ((lC (p2 (tC nD) (tC nD))) z)) hsteps_15)) rfl ?_)
      obtain ⟨one_of_16, hone_of_16, hp⟩ := bs hp
      refine S_seq (S_set (env' := [.fro (.hd 0), .fro (webD web_), .fro (nD least_), .fro ((p2 (tC nD) (tC nD)) v_4.1), .fro (nD x_6), .fro (nD take_7.1), .fro ((lC (p2 (tC nD) (tC nD))) steps_15), .fro ((p2 (tC nD) (tC nD)) one_of_16.1)]) (E_callS (s' := ⟨[.fro (.hd 0), .fro (webD web_), .fro (nD least_), .fro ((p2 (tC nD) (tC nD)) v_4.1), .fro (nD x_6), .fro (nD take_7.1), .fro ((lC (p2 (tC nD) (tC nD))) steps_15), g_5.2.2.2.1], one_of_16.2⟩) (A_f (E_name rfl) (A_f (E_nameO (s' := ⟨[.fro (.hd 0), .fro (webD web_), .fro (nD least_), .fro ((p2 (tC nD) (tC nD)) v_4.1), .fro (nD x_6), .fro (nD take_7.1), .fro ((lC (p2 (tC nD) (tC nD))) steps_15), g_5.2.2.2.1], take_7.2⟩) rfl rfl) A_nil)) (q__law_one_of'1 steps_15 hone_of_16) rfl) rfl ?_)
      obtain ⟨holds_17, hholds_17, hp⟩ := bs hp
      obtain ⟨plan_18, hplan_18, hp⟩ := bs hp
      replace hplan_18 := Option.some.inj hplan_18
      refine S_set (env' := [.fro (.hd 0), .fro (webD web_), .fro (nD least_), .fro ((p2 (tC nD) (tC nD)) plan_18), .fro (nD x_6), .fro (nD take_7.1), .fro ((lC (p2 (tC nD) (tC nD))) steps_15), .fro ((p2 (tC nD) (tC nD)) one_of_16.1)]) (E_as (E_iteT (f := (p2 (tC nD) (tC nD))) (u := one_of_16.1) (v := v_4.1) (B_tru (O_vf (E_call (A_f (E_name rfl) (A_f (E_name rfl) A_nil)) (q__law_holds web_ one_of_16.1 hholds_17 _))) rfl) (E_name rfl) (E_name rfl)) (congrArg (fun z => RV.fro ((p2 (tC nD) (tC nD)) z)) hplan_18)) rfl ?_
      have he := Option.some.inj hp
      subst he
      exact ⟨.inl rfl, (.fro (nD x_6), .fro (nD take_7.1), .fro ((lC (p2 (tC nD) (tC nD))) steps_15), .fro ((p2 (tC nD) (tC nD)) one_of_16.1), ()), rfl⟩
    · have hp := ite_f hb_10 hp
      refine S_pass ?_
      have he := Option.some.inj hp
      subst he
      exact ⟨.inl rfl, (.fro (nD x_6), .fro (nD take_7.1), g_5.2.2.1, g_5.2.2.2.1, ()), rfl⟩
  refine S_retF rfl ?_
  have he := Option.some.inj hp
  subst he
  exact ⟨rfl, rfl⟩
theorem q__law_taken (plan_ : ((List Nat) × (List Nat))) (word_ : Str) (road_ : Nat) {r : ((List Nat) × (List Nat))} (hp : p__law_taken plan_ word_ road_ = some r) (st : List Cell) : m__law_taken [(p2 (tC nD) (tC nD)) plan_, D.str word_, nD road_] st = some (.fro ((p2 (tC nD) (tC nD)) r), st) := by
  refine fn_R rfl ?_
  show S ev__law_taken ⟨[.fro ((p2 (tC nD) (tC nD)) plan_), .fro (D.str word_), .fro (nD road_)], st⟩ _
  unfold ev__law_taken
  unfold p__law_taken at hp
  refine S_seq (S_if (B_B (E_2 (O_slot rfl) (O_vf E_c) (o_eqS _ _))) (fun hb_1 => ?_) (fun hb_1 => ?_))
  · have hp := ite_t hb_1 hp
    obtain ⟨sum_2, hsum_2, hp⟩ := bs hp
    obtain ⟨srt_3, hsrt_3, hp⟩ := bs hp
    refine S_ret (E_tup (A_f (E_N (L_cons (O_vo (E_N (L_cons (O_vf (E_2 (O_vf (E_2 (O_slot rfl) (O_vf (E_n 0 rfl)) rfl)) (O_vf (E_tup (A_f (E_name rfl) A_nil) rfl)) (o_addT (f := nD) hsum_2))) L_nil) (o_sortT (f := nD) hsrt_3))) L_nil) (o_tupL (f := nD) _)) (A_f (E_2 (O_slot rfl) (O_vf (E_n 1 rfl)) rfl) A_nil)) rfl) ?_
    have he := Option.some.inj hp
    exact ⟨congrArg (fun z => Out.rt (RV.fro ((p2 (tC nD) (tC nD)) z))) he, rfl⟩
  · have hp := ite_f hb_1 hp
    obtain ⟨sum_4, hsum_4, hp⟩ := bs hp
    obtain ⟨srt_5, hsrt_5, hp⟩ := bs hp
    refine S_pass ?_
    refine S_ret (E_tup (A_f (E_2 (O_slot rfl) (O_vf (E_n 0 rfl)) rfl) (A_f (E_N (L_cons (O_vo (E_N (L_cons (O_vf (E_2 (O_vf (E_2 (O_slot rfl) (O_vf (E_n 1 rfl)) rfl)) (O_vf (E_tup (A_f (E_name rfl) A_nil) rfl)) (o_addT (f := nD) hsum_4))) L_nil) (o_sortT (f := nD) hsrt_5))) L_nil) (o_tupL (f := nD) _)) A_nil)) rfl) ?_
    have he := Option.some.inj hp
    exact ⟨congrArg (fun z => Out.rt (RV.fro ((p2 (tC nD) (tC nD)) z))) he, rfl⟩
theorem q_taken (plan_ : ((List Nat) × (List Nat))) (step_ : (Str × Nat)) {r : ((List Nat) × (List Nat))} (hp : p_taken plan_ step_ = some r) (st : List Cell) : m_taken [(p2 (tC nD) (tC nD)) plan_, (p2 D.str nD) step_] st = some (.fro ((p2 (tC nD) (tC nD)) r), st) := by
  refine fn_R rfl ?_
  show S ev_taken ⟨[.fro ((p2 (tC nD) (tC nD)) plan_), .fro ((p2 D.str nD) step_), .non, .non, .non, .non], st⟩ _
  unfold ev_taken
  unfold p_taken at hp
  refine S_seq (S_asg (s2 := ⟨[.fro ((p2 (tC nD) (tC nD)) plan_), .fro ((p2 D.str nD) step_), .fro ((tC nD) plan_.1), .fro ((tC nD) plan_.2), .non, .non], st⟩) (E_name rfl) rfl ?_)
  refine S_seq (S_asg (s2 := ⟨[.fro ((p2 (tC nD) (tC nD)) plan_), .fro ((p2 D.str nD) step_), .fro ((tC nD) plan_.1), .fro ((tC nD) plan_.2), .fro (D.str step_.1), .fro (nD step_.2)], st⟩) (E_name rfl) rfl ?_)
  refine S_seq (S_if (B_B (E_2 (O_slot rfl) (O_vf E_c) (o_eqS _ _))) (fun hb_1 => ?_) (fun hb_1 => ?_))
  · have hp := ite_t hb_1 hp
    obtain ⟨sum_2, hsum_2, hp⟩ := bs hp
    obtain ⟨srt_3, hsrt_3, hp⟩ := bs hp
    refine S_ret (E_tup (A_f (E_N (L_cons (O_vo (E_N (L_cons (O_vf (E_2 (O_slot rfl) (O_vf (E_tup (A_f (E_name rfl) A_nil) rfl)) (o_addT (f := nD) hsum_2))) L_nil) (o_sortT (f := nD) hsrt_3))) L_nil) (o_tupL (f := nD) _)) (A_f (E_name rfl) A_nil)) rfl) ?_
    have he := Option.some.inj hp
    exact ⟨congrArg (fun z => Out.rt (RV.fro ((p2 (tC nD) (tC nD)) z))) he, rfl⟩
  · have hp := ite_f hb_1 hp
    obtain ⟨sum_4, hsum_4, hp⟩ := bs hp
    obtain ⟨srt_5, hsrt_5, hp⟩ := bs hp
    refine S_pass ?_
    refine S_ret (E_tup (A_f (E_name rfl) (A_f (E_N (L_cons (O_vo (E_N (L_cons (O_vf (E_2 (O_slot rfl) (O_vf (E_tup (A_f (E_name rfl) A_nil) rfl)) (o_addT (f := nD) hsum_4))) L_nil) (o_sortT (f := nD) hsrt_5))) L_nil) (o_tupL (f := nD) _)) A_nil)) rfl) ?_
    have he := Option.some.inj hp
    exact ⟨congrArg (fun z => Out.rt (RV.fro ((p2 (tC nD) (tC nD)) z))) he, rfl⟩
theorem q_decided (plan_ : ((List Nat) × (List Nat))) {r : (List Nat)} (hp : p_decided plan_ = some r) (st : List Cell) : m_decided [(p2 (tC nD) (tC nD)) plan_] st = some (.own ((lC nD) r), st) := by
  refine fn_R rfl ?_
  show S ev_decided ⟨[.fro ((p2 (tC nD) (tC nD)) plan_)], st⟩ _
  unfold ev_decided
  unfold p_decided at hp
  obtain ⟨sum_1, hsum_1, hp⟩ := bs hp
  obtain ⟨srt_2, hsrt_2, hp⟩ := bs hp
  refine S_ret (E_N (L_cons (O_vf (E_2 (O_vf (E_2 (O_slot rfl) (O_vf (E_n 0 rfl)) rfl)) (O_vf (E_2 (O_slot rfl) (O_vf (E_n 1 rfl)) rfl)) (o_addT (f := nD) hsum_1))) L_nil) (o_sortT (f := nD) hsrt_2)) ?_
  have he := Option.some.inj hp
  exact ⟨congrArg (fun z => Out.rt (RV.own ((lC nD) z))) he, rfl⟩
theorem q_other_roads (web_ : Web) (some_ : (List Nat)) {r : (List Nat)} (hp : p_other_roads web_ some_ = some r) (st : List Cell) : m_other_roads [webD web_, (tC nD) some_] st = some (.own ((lC nD) r), st) := by
  refine fn_R rfl ?_
  show S ev_other_roads ⟨[.fro (webD web_), .fro ((tC nD) some_), .non], st⟩ _
  unfold ev_other_roads
  unfold p_other_roads at hp
  obtain ⟨rng_1, hrng_1, hp⟩ := bs hp
  obtain ⟨lc_3, hlc_3, hp⟩ := bs hp
  refine S_ret (E_lc nD nD (env := [.fro (webD web_), .fro ((tC nD) some_), .non]) (s' := ⟨[.fro (webD web_), .fro ((tC nD) some_), .non], st⟩) (I_rng1 (A_f (E_N (L_cons (O_vf (E_2 (O_slot rfl) (O_vf (E_n 1 rfl)) rfl)) L_nil) (o_lenT (f := rdD) _)) A_nil) hrng_1) rfl rfl ((lcT_P _).trans hlc_3) (fun x_2 b hb => by skip; exact ⟨⟨[.fro (webD web_), .fro ((tC nD) some_), .fro (nD x_2)], st⟩, ⟨[.fro (webD web_), .fro ((tC nD) some_), .fro (nD x_2)], st⟩, rfl, B_as (B_B (E_2 (O_slot rfl) (O_slot rfl) (o_ninT (f := nD) x_2 some_))) (Option.some.inj hb), rfl, fun _ yy hq => by skip; exact ⟨_, ⟨[.fro (webD web_), .fro ((tC nD) some_), .fro (nD x_2)], st⟩, (E_name rfl), congrArg nD (Option.some.inj hq), rfl⟩⟩)) ?_
  have he := Option.some.inj hp
  exact ⟨congrArg (fun z => Out.rt (RV.own ((lC nD) z))) he, rfl⟩
theorem q_low_of (web_ : Web) (road_ : Nat) {r : Nat} (hp : p_low_of web_ road_ = some r) (st : List Cell) : m_low_of [webD web_, nD road_] st = some (.fro (nD r), st) := by
  refine fn_R rfl ?_
  show S ev_low_of ⟨[.fro (webD web_), .fro (nD road_)], st⟩ _
  unfold ev_low_of
  unfold p_low_of at hp
  obtain ⟨it_1, hit_1, hp⟩ := bs hp
  refine S_ret (E_2 (O_vf (E_2 (O_vf (E_2 (O_slot rfl) (O_vf (E_n 1 rfl)) rfl)) (O_slot rfl) (o_ixT (f := rdD) hit_1))) (O_vf (E_n 2 rfl)) rfl) ?_
  have he := Option.some.inj hp
  exact ⟨congrArg (fun z => Out.rt (RV.fro (nD z))) he, rfl⟩
theorem q_high_of (web_ : Web) (road_ : Nat) {r : Nat} (hp : p_high_of web_ road_ = some r) (st : List Cell) : m_high_of [webD web_, nD road_] st = some (.fro (nD r), st) := by
  refine fn_R rfl ?_
  show S ev_high_of ⟨[.fro (webD web_), .fro (nD road_)], st⟩ _
  unfold ev_high_of
  unfold p_high_of at hp
  obtain ⟨it_1, hit_1, hp⟩ := bs hp
  refine S_ret (E_2 (O_vf (E_2 (O_vf (E_2 (O_slot rfl) (O_vf (E_n 1 rfl)) rfl)) (O_slot rfl) (o_ixT (f := rdD) hit_1))) (O_vf (E_n 3 rfl)) rfl) ?_
  have he := Option.some.inj hp
  exact ⟨congrArg (fun z => Out.rt (RV.fro (nD z))) he, rfl⟩
theorem q_ends_of (web_ : Web) (road_ : Nat) {r : (Nat × Nat)} (hp : p_ends_of web_ road_ = some r) (st : List Cell) : m_ends_of [webD web_, nD road_] st = some (.fro ((p2 nD nD) r), st) := by
  refine fn_R rfl ?_
  show S ev_ends_of ⟨[.fro (webD web_), .fro (nD road_)], st⟩ _
  unfold ev_ends_of
  unfold p_ends_of at hp
  obtain ⟨it_1, hit_1, hp⟩ := bs hp
  refine S_ret (E_sl (O_vf (E_2 (O_vf (E_2 (O_slot rfl) (O_vf (E_n 1 rfl)) rfl)) (O_slot rfl) (o_ixT (f := rdD) hit_1))) P_no (P_pt (O_vf (E_n 2 rfl))) rfl) ?_
  have he := Option.some.inj hp
  exact ⟨congrArg (fun z => Out.rt (RV.fro ((p2 nD nD) z))) he, rfl⟩
theorem q_reached (pairs_ : (List (Nat × Nat))) (house_ : Nat) {r : (List Nat)} (hp : p_reached pairs_ house_ = some r) (st : List Cell) : m_reached [(lC (p2 nD nD)) pairs_, nD house_] st = some (.own ((lC nD) r), st) := by
  refine fn_R rfl ?_
  show S ev_reached ⟨[.fro ((lC (p2 nD nD)) pairs_), .fro (nD house_), .non, .non, .non, .non], st⟩ _
  unfold ev_reached
  unfold p_reached at hp
  refine S_seq (S_par (env' := [.fro ((lC (p2 nD nD)) pairs_), .fro (nD house_), .own ((lC nD) ([house_] : List Nat)), .fro (D.bl true), .non, .non]) (E_lst (A_f (E_name rfl) A_nil) rfl) E_c rfl ?_)
  obtain ⟨w_11, hw_11, hp⟩ := bs hp
  refine S_seq (S_wh (fun (v_1 : (List Nat) × Bool) (g_2 : Slot × Slot × Unit) => (⟨[.fro ((lC (p2 nD nD)) pairs_), .fro (nD house_), .own ((lC nD) v_1.1), .fro (D.bl v_1.2), g_2.1, g_2.2.1], st⟩ : Sg)) (.non, .non, ()) rfl hw_11 (fun v_1 g_2 b hq => by skip; exact B_as (B_tru (O_slot rfl) rfl) (Option.some.inj hq)) (fun v_1 w' g_2 hp => ?_) (fun g_12 => ?_))
  · refine S_seq (S_set (env' := [.fro ((lC (p2 nD nD)) pairs_), .fro (nD house_), .own ((lC nD) v_1.1), .fro (D.bl false), g_2.1, g_2.2.1]) E_c rfl ?_)
    obtain ⟨w_9, hw_9, hp⟩ := bs hp
    refine S_for (p2 nD nD) (fun (v_4 : (List Nat) × Bool) (g_5 : Slot × Slot × Unit) => (⟨[.fro ((lC (p2 nD nD)) pairs_), .fro (nD house_), .own ((lC nD) v_4.1), .fro (D.bl v_4.2), g_5.1, g_5.2.1], st⟩ : Sg)) (g_2.1, g_2.2.1, ()) (I_seq (E_name rfl) rfl) rfl hw_9 (fun x_6 v_4 w' g_5 hp => ?_) (fun g_10 => ?_)
    · refine ⟨⟨[.fro ((lC (p2 nD nD)) pairs_), .fro (nD house_), .own ((lC nD) v_4.1), .fro (D.bl v_4.2), .fro (nD x_6.1), .fro (nD x_6.2)], st⟩, rfl, ?_⟩
      refine S_if (B_B (E_2 (O_vf (E_2 (O_slot rfl) (O_slot rfl) (o_inL (f := nD) x_6.1 v_4.1))) (O_vf (E_2 (O_slot rfl) (O_slot rfl) (o_inL (f := nD) x_6.2 v_4.1))) (o_ne (f := D.bl) (decide (x_6.1 ∈ v_4.1)) (decide (x_6.2 ∈ v_4.1))))) (fun hb_7 => ?_) (fun hb_7 => ?_)
      · have hp := ite_t hb_7 hp
        obtain ⟨found_8, hfound_8, hp⟩ := bs hp
        refine S_seq (S_dropM (M_mut (env' := [.fro ((lC (p2 nD nD)) pairs_), .fro (nD house_), .own ((lC nD) found_8), .fro (D.bl v_4.2), .fro (nD x_6.1), .fro (nD x_6.2)]) rfl rfl (A_f (E_iteT (f := nD) (u := x_6.2) (v := x_6.1) (B_B (E_2 (O_slot rfl) (O_slot rfl) (o_inL (f := nD) x_6.1 v_4.1))) (E_name rfl) (E_name rfl)) A_nil) rfl (o_app (f := nD) hfound_8) rfl) ?_)
        refine S_set (env' := [.fro ((lC (p2 nD nD)) pairs_), .fro (nD house_), .own ((lC nD) found_8), .fro (D.bl true), .fro (nD x_6.1), .fro (nD x_6.2)]) E_c rfl ?_
        have he := Option.some.inj hp
        subst he
        exact ⟨.inl rfl, (.fro (nD x_6.1), .fro (nD x_6.2), ()), rfl⟩
      · have hp := ite_f hb_7 hp
        refine S_pass ?_
        have he := Option.some.inj hp
        subst he
        exact ⟨.inl rfl, (.fro (nD x_6.1), .fro (nD x_6.2), ()), rfl⟩
    have he := Option.some.inj hp
    subst he
    exact ⟨.inl rfl, (g_10.1, g_10.2.1, ()), rfl⟩
  obtain ⟨srt_13, hsrt_13, hp⟩ := bs hp
  refine S_ret (E_N (L_cons (O_slot rfl) L_nil) (o_sortL (f := nD) hsrt_13)) ?_
  have he := Option.some.inj hp
  exact ⟨congrArg (fun z => Out.rt (RV.own ((lC nD) z))) he, rfl⟩
theorem q_first_side (web_ : Web) (road_ : Nat) (some_ : (List Nat)) {r : (Option (List Nat))} (hp : p_first_side web_ road_ some_ = some r) (st : List Cell) : m_first_side [webD web_, nD road_, (lC nD) some_] st = some (.fro ((oC (tC nD)) r), st) := by
  refine fn_R rfl ?_
  show S ev_first_side ⟨[.fro (webD web_), .fro (nD road_), .fro ((lC nD) some_), .non, .non, .non, .non], st⟩ _
  unfold ev_first_side
  unfold p_first_side at hp
  obtain ⟨ends_of_1, hends_of_1, hp⟩ := bs hp
  refine S_seq (S_asg (s2 := ⟨[.fro (webD web_), .fro (nD road_), .fro ((lC nD) some_), .fro (nD ends_of_1.1), .fro (nD ends_of_1.2), .non, .non], st⟩) (E_call (A_f (E_name rfl) (A_f (E_name rfl) A_nil)) (q_ends_of web_ road_ hends_of_1 _)) rfl ?_)
  obtain ⟨lc_4, hlc_4, hp⟩ := bs hp
  obtain ⟨reached_5, hreached_5, hp⟩ := bs hp
  refine S_seq (S_set (env' := [.fro (webD web_), .fro (nD road_), .fro ((lC nD) some_), .fro (nD ends_of_1.1), .fro (nD ends_of_1.2), .own ((lC nD) reached_5), .non]) (E_call (A_o (E_lc nD (p2 nD nD) (env := [.fro (webD web_), .fro (nD road_), .fro ((lC nD) some_), .fro (nD ends_of_1.1), .fro (nD ends_of_1.2), .non, .non]) (s' := ⟨[.fro (webD web_), .fro (nD road_), .fro ((lC nD) some_), .fro (nD ends_of_1.1), .fro (nD ends_of_1.2), .non, .non], st⟩) (I_seq (E_name rfl) rfl) rfl rfl hlc_4 (fun x_2 b hb => by skip; exact ⟨⟨[.fro (webD web_), .fro (nD road_), .fro ((lC nD) some_), .fro (nD ends_of_1.1), .fro (nD ends_of_1.2), .non, .fro (nD x_2)], st⟩, ⟨[.fro (webD web_), .fro (nD road_), .fro ((lC nD) some_), .fro (nD ends_of_1.1), .fro (nD ends_of_1.2), .non, .fro (nD x_2)], st⟩, rfl, B_as (B_B (E_2 (O_slot rfl) (O_slot rfl) (o_ne (f := nD) x_2 road_))) (Option.some.inj hb), rfl, fun _ yy hq => by obtain ⟨ends_of_3, hends_of_3, hq⟩ := bs hq; exact ⟨_, ⟨[.fro (webD web_), .fro (nD road_), .fro ((lC nD) some_), .fro (nD ends_of_1.1), .fro (nD ends_of_1.2), .non, .fro (nD x_2)], st⟩, (E_call (A_f (E_name rfl) (A_f (E_name rfl) A_nil)) (q_ends_of web_ x_2 hends_of_3 _)), congrArg (p2 nD nD) (Option.some.inj hq), rfl⟩⟩)) (A_f (E_name rfl) A_nil)) (q_reached lc_4 ends_of_1.1 hreached_5 _)) rfl ?_)
  refine S_ret (E_iteT (f := (oC (tC nD))) (u := none) (v := (some reached_5)) (B_B (E_2 (O_slot rfl) (O_slot rfl) (o_inL (f := nD) ends_of_1.2 reached_5))) E_c (E_N (L_cons (O_slot rfl) L_nil) (o_tupL (f := nD) _))) ?_
  have he := Option.some.inj hp
  exact ⟨congrArg (fun z => Out.rt (RV.fro ((oC (tC nD)) z))) he, rfl⟩
theorem q_find_side (web_ : Web) (plan_ : ((List Nat) × (List Nat))) (road_ : Nat) {r : (Option (List Nat))} (hp : p_find_side web_ plan_ road_ = some r) (st : List Cell) : m_find_side [webD web_, (p2 (tC nD) (tC nD)) plan_, nD road_] st = some (.fro ((oC (tC nD)) r), st) := by
  refine fn_R rfl ?_
  show S ev_find_side ⟨[.fro (webD web_), .fro ((p2 (tC nD) (tC nD)) plan_), .fro (nD road_), .non, .non, .non, .non], st⟩ _
  unfold ev_find_side
  unfold p_find_side at hp
  refine S_seq (S_asg (s2 := ⟨[.fro (webD web_), .fro ((p2 (tC nD) (tC nD)) plan_), .fro (nD road_), .fro ((tC nD) plan_.1), .fro ((tC nD) plan_.2), .non, .non], st⟩) (E_name rfl) rfl ?_)
  obtain ⟨other_roads_1, hother_roads_1, hp⟩ := bs hp
  obtain ⟨lc_6, hlc_6, hp⟩ := bs hp
  refine S_seq (S_set (env' := [.fro (webD web_), .fro ((p2 (tC nD) (tC nD)) plan_), .fro (nD road_), .fro ((tC nD) plan_.1), .fro ((tC nD) plan_.2), .own ((lC nD) lc_6), .non]) (E_lc nD nD (env := [.fro (webD web_), .fro ((p2 (tC nD) (tC nD)) plan_), .fro (nD road_), .fro ((tC nD) plan_.1), .fro ((tC nD) plan_.2), .non, .non]) (s' := ⟨[.fro (webD web_), .fro ((p2 (tC nD) (tC nD)) plan_), .fro (nD road_), .fro ((tC nD) plan_.1), .fro ((tC nD) plan_.2), .non, .non], st⟩) (I_seq (E_call (A_f (E_name rfl) (A_f (E_name rfl) A_nil)) (q_other_roads web_ plan_.2 hother_roads_1 _)) rfl) rfl rfl hlc_6 (fun x_2 b hb => by obtain ⟨t_5, ht_5, hb⟩ := bs hb; exact ⟨⟨[.fro (webD web_), .fro ((p2 (tC nD) (tC nD)) plan_), .fro (nD road_), .fro ((tC nD) plan_.1), .fro ((tC nD) plan_.2), .non, .fro (nD x_2)], st⟩, ⟨[.fro (webD web_), .fro ((p2 (tC nD) (tC nD)) plan_), .fro (nD road_), .fro ((tC nD) plan_.1), .fro ((tC nD) plan_.2), .non, .fro (nD x_2)], st⟩, rfl, B_as (B_orP (B_B (E_2 (O_slot rfl) (O_slot rfl) (o_inT (f := nD) x_2 plan_.1))) ht_5 (fun _ hq => (by obtain ⟨low_of_3, hlow_of_3, hq⟩ := bs hq; obtain ⟨high_of_4, hhigh_of_4, hq⟩ := bs hq; exact B_as (B_B (E_2 (O_vf (E_call (A_f (E_name rfl) (A_f (E_name rfl) A_nil)) (q_low_of web_ x_2 hlow_of_3 _))) (O_vf (E_call (A_f (E_name rfl) (A_f (E_name rfl) A_nil)) (q_high_of web_ road_ hhigh_of_4 _))) (o_ltN _ _))) (Option.some.inj hq)))) (Option.some.inj hb), rfl, fun _ yy hq => by skip; exact ⟨_, ⟨[.fro (webD web_), .fro ((p2 (tC nD) (tC nD)) plan_), .fro (nD road_), .fro ((tC nD) plan_.1), .fro ((tC nD) plan_.2), .non, .fro (nD x_2)], st⟩, (E_name rfl), congrArg nD (Option.some.inj hq), rfl⟩⟩)) rfl ?_)
  obtain ⟨first_side_7, hfirst_side_7, hp⟩ := bs hp
  refine S_ret (E_call (A_f (E_name rfl) (A_f (E_name rfl) (A_f (E_nameO (s' := ⟨[.fro (webD web_), .fro ((p2 (tC nD) (tC nD)) plan_), .fro (nD road_), .fro ((tC nD) plan_.1), .fro ((tC nD) plan_.2), .fro ((lC nD) lc_6), .non], st⟩) rfl rfl) A_nil))) (q_first_side web_ road_ lc_6 hfirst_side_7 _)) ?_
  have he := Option.some.inj hp
  exact ⟨congrArg (fun z => Out.rt (RV.fro ((oC (tC nD)) z))) he, rfl⟩
theorem q_beyond (web_ : Web) (road_ : Nat) (house_ : Nat) {r : (Option Nat)} (hp : p_beyond web_ road_ house_ = some r) (st : List Cell) : m_beyond [webD web_, nD road_, nD house_] st = some (.fro ((oC nD) r), st) := by
  refine fn_R rfl ?_
  show S ev_beyond ⟨[.fro (webD web_), .fro (nD road_), .fro (nD house_), .non, .non], st⟩ _
  unfold ev_beyond
  unfold p_beyond at hp
  obtain ⟨ends_of_1, hends_of_1, hp⟩ := bs hp
  refine S_seq (S_asg (s2 := ⟨[.fro (webD web_), .fro (nD road_), .fro (nD house_), .fro (nD ends_of_1.1), .fro (nD ends_of_1.2)], st⟩) (E_call (A_f (E_name rfl) (A_f (E_name rfl) A_nil)) (q_ends_of web_ road_ hends_of_1 _)) rfl ?_)
  refine S_seq (S_if (B_B (E_2 (O_slot rfl) (O_slot rfl) (o_eq (f := nD) house_ ends_of_1.1))) (fun hb_2 => ?_) (fun hb_2 => ?_))
  · have hp := ite_t hb_2 hp
    refine S_retF rfl ?_
    have he := Option.some.inj hp
    exact ⟨congrArg (fun z => Out.rt (RV.fro ((oC nD) z))) he, rfl⟩
  · have hp := ite_f hb_2 hp
    refine S_pass ?_
    refine S_ret (E_iteT (f := (oC nD)) (u := (some ends_of_1.1)) (v := none) (B_B (E_2 (O_slot rfl) (O_slot rfl) (o_eq (f := nD) house_ ends_of_1.2))) (E_name rfl) E_c) ?_
    have he := Option.some.inj hp
    exact ⟨congrArg (fun z => Out.rt (RV.fro ((oC nD) z))) he, rfl⟩
theorem q_ways_on : ∀ (k : Nat) (web_ : Web) (some_ : (List Nat)) (here_ : Nat) (goal_ : Nat) (seen_ : (List Nat)) {r : (List (List Nat))} (hp : p_ways_on k web_ some_ here_ goal_ seen_ = some r) (st : List Cell), m_ways_on k [webD web_, (lC nD) some_, nD here_, nD goal_, (lC nD) seen_] st = some (.own ((lC (tC nD)) r), st)
  | 0, _, _, _, _, _, _, hp, _ => by cases hp
  | k + 1, web_, some_, here_, goal_, seen_, r, hp, st => by
    refine fn_R rfl ?_
    show S (ev_ways_on (m_ways_on k)) ⟨[.fro (webD web_), .fro ((lC nD) some_), .fro (nD here_), .fro (nD goal_), .fro ((lC nD) seen_), .non, .non, .non, .non], st⟩ _
    unfold ev_ways_on
    unfold p_ways_on at hp
    refine S_seq (S_if (B_B (E_2 (O_slot rfl) (O_slot rfl) (o_eq (f := nD) here_ goal_))) (fun hb_1 => ?_) (fun hb_1 => ?_))
    · have hp := ite_t hb_1 hp
      refine S_ret (E_lst (A_f (E_tup A_nil rfl) A_nil) rfl) ?_
      have he := Option.some.inj hp
      exact ⟨congrArg (fun z => Out.rt (RV.own ((lC (tC nD)) z))) he, rfl⟩
    · have hp := ite_f hb_1 hp
      refine S_pass ?_
      refine S_seq (S_set (env' := [.fro (webD web_), .fro ((lC nD) some_), .fro (nD here_), .fro (nD goal_), .fro ((lC nD) seen_), .own ((lC (tC nD)) ([] : List (List Nat))), .non, .non, .non]) (E_lst A_nil rfl) rfl ?_)
      obtain ⟨w_14, hw_14, hp⟩ := bs hp
      refine S_seq (S_for nD (fun (v_2 : (List (List Nat))) (g_3 : Slot × Slot × Unit) => (⟨[.fro (webD web_), .fro ((lC nD) some_), .fro (nD here_), .fro (nD goal_), .fro ((lC nD) seen_), .own ((lC (tC nD)) v_2), g_3.1, g_3.2.1, .non], st⟩ : Sg)) (.non, .non, ()) (I_seq (E_name rfl) rfl) rfl hw_14 (fun x_4 v_2 w' g_3 hp => ?_) (fun g_15 => ?_))
      · refine ⟨⟨[.fro (webD web_), .fro ((lC nD) some_), .fro (nD here_), .fro (nD goal_), .fro ((lC nD) seen_), .own ((lC (tC nD)) v_2), .fro (nD x_4), g_3.2.1, .non], st⟩, rfl, ?_⟩
        obtain ⟨beyond_5, hbeyond_5, hp⟩ := bs hp
        refine S_seq (S_set (env' := [.fro (webD web_), .fro ((lC nD) some_), .fro (nD here_), .fro (nD goal_), .fro ((lC nD) seen_), .own ((lC (tC nD)) v_2), .fro (nD x_4), .fro ((oC nD) beyond_5), .non]) (E_call (A_f (E_name rfl) (A_f (E_name rfl) (A_f (E_name rfl) A_nil))) (q_beyond web_ x_4 here_ hbeyond_5 _)) rfl ?_)
        refine S_if (B_and (B_B (E_2 (O_slot rfl) (O_vf E_c) (o_isnN (f := nD) _))) (B_B (E_2 (O_slot rfl) (O_slot rfl) (o_ninLo (f := nD) beyond_5 seen_)))) (fun hb_6 => ?_) (fun hb_6 => ?_)
        · have hp := ite_t hb_6 hp
          obtain ⟨there_7, hthere_7, hp⟩ := bs hp
          refine S_env (env' := [.fro (webD web_), .fro ((lC nD) some_), .fro (nD here_), .fro (nD goal_), .fro ((lC nD) seen_), .own ((lC (tC nD)) v_2), .fro (nD x_4), .fro (nD there_7), .non]) (by simp only [hthere_7]; first | done | rfl) ?_
          obtain ⟨sum_8, hsum_8, hp⟩ := bs hp
          obtain ⟨ways_on_9, hways_on_9, hp⟩ := bs hp
          obtain ⟨lc_12, hlc_12, hp⟩ := bs hp
          obtain ⟨found_13, hfound_13, hp⟩ := bs hp
          refine S_dropM (M_mut (env' := [.fro (webD web_), .fro ((lC nD) some_), .fro (nD here_), .fro (nD goal_), .fro ((lC nD) seen_), .own ((lC (tC nD)) found_13), .fro (nD x_4), .fro (nD there_7), .non]) rfl rfl (A_o (E_lc (tC nD) (tC nD) (env := [.fro (webD web_), .fro ((lC nD) some_), .fro (nD here_), .fro (nD goal_), .fro ((lC nD) seen_), .non, .fro (nD x_4), .fro (nD there_7), .non]) (s' := ⟨[.fro (webD web_), .fro ((lC nD) some_), .fro (nD here_), .fro (nD goal_), .fro ((lC nD) seen_), .own ((lC (tC nD)) v_2), .fro (nD x_4), .fro (nD there_7), .non], st⟩) (I_seq (E_call (A_f (E_name rfl) (A_f (E_name rfl) (A_f (E_name rfl) (A_f (E_name rfl) (A_o (E_2 (O_slot rfl) (O_vo (E_lst (A_f (E_name rfl) A_nil) rfl)) (o_addL (f := nD) hsum_8)) A_nil))))) (q_ways_on k web_ some_ there_7 goal_ sum_8 hways_on_9 _)) rfl) rfl rfl hlc_12 (fun x_10 b hb => by skip; exact ⟨⟨[.fro (webD web_), .fro ((lC nD) some_), .fro (nD here_), .fro (nD goal_), .fro ((lC nD) seen_), .non, .fro (nD x_4), .fro (nD there_7), .fro ((tC nD) x_10)], st⟩, ⟨[.fro (webD web_), .fro ((lC nD) some_), .fro (nD here_), .fro (nD goal_), .fro ((lC nD) seen_), .non, .fro (nD x_4), .fro (nD there_7), .fro ((tC nD) x_10)], st⟩, rfl, B_as B_yes (Option.some.inj hb), rfl, fun _ yy hq => by obtain ⟨sum_11, hsum_11, hq⟩ := bs hq; exact ⟨_, ⟨[.fro (webD web_), .fro ((lC nD) some_), .fro (nD here_), .fro (nD goal_), .fro ((lC nD) seen_), .non, .fro (nD x_4), .fro (nD there_7), .fro ((tC nD) x_10)], st⟩, (E_2 (O_vf (E_tup (A_f (E_name rfl) A_nil) rfl)) (O_slot rfl) (o_addT (f := nD) hsum_11)), congrArg (tC nD) (Option.some.inj hq), rfl⟩⟩)) A_nil) rfl (o_ext (f := (tC nD)) hfound_13) rfl) ?_
          have he := Option.some.inj hp
          subst he
          exact ⟨.inl rfl, (.fro (nD x_4), .fro (nD there_7), ()), rfl⟩
        · have hp := ite_f hb_6 hp
          refine S_pass ?_
          have he := Option.some.inj hp
          subst he
          exact ⟨.inl rfl, (.fro (nD x_4), .fro ((oC nD) beyond_5), ()), rfl⟩
      refine S_retO rfl ?_
      have he := Option.some.inj hp
      exact ⟨congrArg (fun z => Out.rt (RV.own ((lC (tC nD)) z))) he, rfl⟩
theorem q_detours_by (web_ : Web) (road_ : Nat) (some_ : (List Nat)) {r : (List (List Nat))} (hp : p_detours_by web_ road_ some_ = some r) (st : List Cell) : m_detours_by [webD web_, nD road_, (lC nD) some_] st = some (.own ((lC (tC nD)) r), st) := by
  refine fn_R rfl ?_
  show S ev_detours_by ⟨[.fro (webD web_), .fro (nD road_), .fro ((lC nD) some_), .non, .non, .non], st⟩ _
  unfold ev_detours_by
  unfold p_detours_by at hp
  obtain ⟨ends_of_1, hends_of_1, hp⟩ := bs hp
  refine S_seq (S_asg (s2 := ⟨[.fro (webD web_), .fro (nD road_), .fro ((lC nD) some_), .fro (nD ends_of_1.1), .fro (nD ends_of_1.2), .non], st⟩) (E_call (A_f (E_name rfl) (A_f (E_name rfl) A_nil)) (q_ends_of web_ road_ hends_of_1 _)) rfl ?_)
  obtain ⟨lc_3, hlc_3, hp⟩ := bs hp
  obtain ⟨ways_on_4, hways_on_4, hp⟩ := bs hp
  obtain ⟨srt_5, hsrt_5, hp⟩ := bs hp
  refine S_ret (E_N (L_cons (O_vo (E_call (A_f (E_name rfl) (A_o (E_lc nD nD (env := [.fro (webD web_), .fro (nD road_), .fro ((lC nD) some_), .fro (nD ends_of_1.1), .fro (nD ends_of_1.2), .non]) (s' := ⟨[.fro (webD web_), .fro (nD road_), .fro ((lC nD) some_), .fro (nD ends_of_1.1), .fro (nD ends_of_1.2), .non], st⟩) (I_seq (E_name rfl) rfl) rfl rfl ((lcT_P _).trans hlc_3) (fun x_2 b hb => by skip; exact ⟨⟨[.fro (webD web_), .fro (nD road_), .fro ((lC nD) some_), .fro (nD ends_of_1.1), .fro (nD ends_of_1.2), .fro (nD x_2)], st⟩, ⟨[.fro (webD web_), .fro (nD road_), .fro ((lC nD) some_), .fro (nD ends_of_1.1), .fro (nD ends_of_1.2), .fro (nD x_2)], st⟩, rfl, B_as (B_B (E_2 (O_slot rfl) (O_slot rfl) (o_ne (f := nD) x_2 road_))) (Option.some.inj hb), rfl, fun _ yy hq => by skip; exact ⟨_, ⟨[.fro (webD web_), .fro (nD road_), .fro ((lC nD) some_), .fro (nD ends_of_1.1), .fro (nD ends_of_1.2), .fro (nD x_2)], st⟩, (E_name rfl), congrArg nD (Option.some.inj hq), rfl⟩⟩)) (A_f (E_name rfl) (A_f (E_name rfl) (A_o (E_lst (A_f (E_name rfl) A_nil) rfl) A_nil))))) (q_ways_on 7 web_ lc_3 ends_of_1.1 ends_of_1.2 ([ends_of_1.1] : List Nat) hways_on_4 _))) L_nil) (o_sortL (f := (tC nD)) hsrt_5)) ?_
  have he := Option.some.inj hp
  exact ⟨congrArg (fun z => Out.rt (RV.own ((lC (tC nD)) z))) he, rfl⟩
theorem q_first_detour (web_ : Web) (road_ : Nat) (some_ : (List Nat)) {r : (Option (List Nat))} (hp : p_first_detour web_ road_ some_ = some r) (st : List Cell) : m_first_detour [webD web_, nD road_, (lC nD) some_] st = some (.fro ((oC (tC nD)) r), st) := by
  refine fn_R rfl ?_
  show S ev_first_detour ⟨[.fro (webD web_), .fro (nD road_), .fro ((lC nD) some_), .non], st⟩ _
  unfold ev_first_detour
  unfold p_first_detour at hp
  obtain ⟨detours_by_1, hdetours_by_1, hp⟩ := bs hp
  refine S_seq (S_set (env' := [.fro (webD web_), .fro (nD road_), .fro ((lC nD) some_), .own ((lC (tC nD)) detours_by_1)]) (E_call (A_f (E_name rfl) (A_f (E_name rfl) (A_f (E_name rfl) A_nil))) (q_detours_by web_ road_ some_ hdetours_by_1 _)) rfl ?_)
  obtain ⟨c_3, hc_3, hp⟩ := bs hp
  refine S_ret (E_ite (r := .fro ((oC (tC nD)) c_3)) (s2 := ⟨[.fro (webD web_), .fro (nD road_), .fro ((lC nD) some_), .own ((lC (tC nD)) detours_by_1)], st⟩) (B_B (E_2 (O_slot rfl) (O_vo (E_lst A_nil rfl)) (o_ne (f := (lC (tC nD))) detours_by_1 ([] : List (List Nat))))) (fun hc => by have hq := ite_t hc hc_3; obtain ⟨it_2, hit_2, hq⟩ := bs hq; exact E_as (E_2 (O_slot rfl) (O_vf (E_n 0 rfl)) (o_ixL (f := (tC nD)) hit_2)) (congrArg (fun z => RV.fro ((oC (tC nD)) z)) (Option.some.inj hq))) (fun hc => by have hq := ite_f hc hc_3; skip; exact E_as E_c (congrArg (fun z => RV.fro ((oC (tC nD)) z)) (Option.some.inj hq)))) ?_
  have he := Option.some.inj hp
  exact ⟨congrArg (fun z => Out.rt (RV.fro ((oC (tC nD)) z))) he, rfl⟩
theorem q_find_detour (web_ : Web) (plan_ : ((List Nat) × (List Nat))) (road_ : Nat) {r : (Option (List Nat))} (hp : p_find_detour web_ plan_ road_ = some r) (st : List Cell) : m_find_detour [webD web_, (p2 (tC nD) (tC nD)) plan_, nD road_] st = some (.fro ((oC (tC nD)) r), st) := by
  refine fn_R rfl ?_
  show S ev_find_detour ⟨[.fro (webD web_), .fro ((p2 (tC nD) (tC nD)) plan_), .fro (nD road_), .non], st⟩ _
  unfold ev_find_detour
  unfold p_find_detour at hp
  obtain ⟨other_roads_1, hother_roads_1, hp⟩ := bs hp
  obtain ⟨lc_5, hlc_5, hp⟩ := bs hp
  obtain ⟨first_detour_6, hfirst_detour_6, hp⟩ := bs hp
  refine S_ret (E_call (A_f (E_name rfl) (A_f (E_name rfl) (A_o (E_lc nD nD (env := [.fro (webD web_), .fro ((p2 (tC nD) (tC nD)) plan_), .fro (nD road_), .non]) (s' := ⟨[.fro (webD web_), .fro ((p2 (tC nD) (tC nD)) plan_), .fro (nD road_), .non], st⟩) (I_seq (E_call (A_f (E_name rfl) (A_f (E_2 (O_slot rfl) (O_vf (E_n 1 rfl)) rfl) A_nil)) (q_other_roads web_ plan_.2 hother_roads_1 _)) rfl) rfl rfl hlc_5 (fun x_2 b hb => by obtain ⟨high_of_3, hhigh_of_3, hb⟩ := bs hb; obtain ⟨low_of_4, hlow_of_4, hb⟩ := bs hb; exact ⟨⟨[.fro (webD web_), .fro ((p2 (tC nD) (tC nD)) plan_), .fro (nD road_), .fro (nD x_2)], st⟩, ⟨[.fro (webD web_), .fro ((p2 (tC nD) (tC nD)) plan_), .fro (nD road_), .fro (nD x_2)], st⟩, rfl, B_as (B_B (E_2 (O_vf (E_call (A_f (E_name rfl) (A_f (E_name rfl) A_nil)) (q_high_of web_ x_2 hhigh_of_3 _))) (O_vf (E_call (A_f (E_name rfl) (A_f (E_name rfl) A_nil)) (q_low_of web_ road_ hlow_of_4 _))) (o_leN _ _))) (Option.some.inj hb), rfl, fun _ yy hq => by skip; exact ⟨_, ⟨[.fro (webD web_), .fro ((p2 (tC nD) (tC nD)) plan_), .fro (nD road_), .fro (nD x_2)], st⟩, (E_name rfl), congrArg nD (Option.some.inj hq), rfl⟩⟩)) A_nil))) (q_first_detour web_ road_ lc_5 hfirst_detour_6 _)) ?_
  have he := Option.some.inj hp
  exact ⟨congrArg (fun z => Out.rt (RV.fro ((oC (tC nD)) z))) he, rfl⟩
theorem q_find_reason (web_ : Web) (plan_ : ((List Nat) × (List Nat))) (road_ : Nat) {r : (Option (List Nat))} (hp : p_find_reason web_ plan_ road_ = some r) (st : List Cell) : m_find_reason [webD web_, (p2 (tC nD) (tC nD)) plan_, nD road_] st = some (.fro ((oC (tC nD)) r), st) := by
  refine fn_R rfl ?_
  show S ev_find_reason ⟨[.fro (webD web_), .fro ((p2 (tC nD) (tC nD)) plan_), .fro (nD road_)], st⟩ _
  unfold ev_find_reason
  unfold p_find_reason at hp
  obtain ⟨c_3, hc_3, hp⟩ := bs hp
  refine S_ret (E_ite (r := .fro ((oC (tC nD)) c_3)) (s2 := ⟨[.fro (webD web_), .fro ((p2 (tC nD) (tC nD)) plan_), .fro (nD road_)], st⟩) (B_B (E_2 (O_slot rfl) (O_vf (E_2 (O_slot rfl) (O_vf (E_n 0 rfl)) rfl)) (o_inT (f := nD) road_ plan_.1))) (fun hc => by have hq := ite_t hc hc_3; obtain ⟨find_side_1, hfind_side_1, hq⟩ := bs hq; exact E_as (E_call (A_f (E_name rfl) (A_f (E_name rfl) (A_f (E_name rfl) A_nil))) (q_find_side web_ plan_ road_ hfind_side_1 _)) (congrArg (fun z => RV.fro ((oC (tC nD)) z)) (Option.some.inj hq))) (fun hc => by have hq := ite_f hc hc_3; obtain ⟨find_detour_2, hfind_detour_2, hq⟩ := bs hq; exact E_as (E_call (A_f (E_name rfl) (A_f (E_name rfl) (A_f (E_name rfl) A_nil))) (q_find_detour web_ plan_ road_ hfind_detour_2 _)) (congrArg (fun z => RV.fro ((oC (tC nD)) z)) (Option.some.inj hq)))) ?_
  have he := Option.some.inj hp
  exact ⟨congrArg (fun z => Out.rt (RV.fro ((oC (tC nD)) z))) he, rfl⟩
theorem q_other_roads'1 (web_ : Web) (some_ : (List Nat)) {r : (List Nat)} (hp : p_other_roads web_ some_ = some r) (st : List Cell) : m_other_roads [webD web_, (lC nD) some_] st = some (.own ((lC nD) r), st) := by
  refine fn_R rfl ?_
  show S ev_other_roads ⟨[.fro (webD web_), .fro ((lC nD) some_), .non], st⟩ _
  unfold ev_other_roads
  unfold p_other_roads at hp
  obtain ⟨rng_1, hrng_1, hp⟩ := bs hp
  obtain ⟨lc_3, hlc_3, hp⟩ := bs hp
  refine S_ret (E_lc nD nD (env := [.fro (webD web_), .fro ((lC nD) some_), .non]) (s' := ⟨[.fro (webD web_), .fro ((lC nD) some_), .non], st⟩) (I_rng1 (A_f (E_N (L_cons (O_vf (E_2 (O_slot rfl) (O_vf (E_n 1 rfl)) rfl)) L_nil) (o_lenT (f := rdD) _)) A_nil) hrng_1) rfl rfl ((lcT_P _).trans hlc_3) (fun x_2 b hb => by skip; exact ⟨⟨[.fro (webD web_), .fro ((lC nD) some_), .fro (nD x_2)], st⟩, ⟨[.fro (webD web_), .fro ((lC nD) some_), .fro (nD x_2)], st⟩, rfl, B_as (B_B (E_2 (O_slot rfl) (O_slot rfl) (o_ninL (f := nD) x_2 some_))) (Option.some.inj hb), rfl, fun _ yy hq => by skip; exact ⟨_, ⟨[.fro (webD web_), .fro ((lC nD) some_), .fro (nD x_2)], st⟩, (E_name rfl), congrArg nD (Option.some.inj hq), rfl⟩⟩)) ?_
  have he := Option.some.inj hp
  exact ⟨congrArg (fun z => Out.rt (RV.own ((lC nD) z))) he, rfl⟩
theorem q_raised (web_ : Web) (some_ : (List Nat)) {r : (List Nat)} (hp : p_raised web_ some_ = some r) (st : List Cell) : m_raised [webD web_, (lC nD) some_] st = some (.fro ((tC nD) r), st) := by
  refine fn_R rfl ?_
  show S ev_raised ⟨[.fro (webD web_), .fro ((lC nD) some_), .non, .non, .non, .non, .non, .non], st⟩ _
  unfold ev_raised
  unfold p_raised at hp
  refine S_seq (S_set (env' := [.fro (webD web_), .fro ((lC nD) some_), .own ((lC nD) ([] : List Nat)), .non, .non, .non, .non, .non]) (E_lst A_nil rfl) rfl ?_)
  obtain ⟨w_5, hw_5, hp⟩ := bs hp
  refine S_seq (S_for (p2 nD rdD) (fun (v_1 : (List Nat)) (g_2 : Slot × Slot × Slot × Slot × Slot × Unit) => (⟨[.fro (webD web_), .fro ((lC nD) some_), .own ((lC nD) v_1), g_2.1, g_2.2.1, g_2.2.2.1, g_2.2.2.2.1, g_2.2.2.2.2.1], st⟩ : Sg)) (.non, .non, .non, .non, .non, ()) (I_args (A_f (E_2 (O_slot rfl) (O_vf (E_n 1 rfl)) rfl) A_nil) (o_enumT (f := rdD) _)) rfl hw_5 (fun x_3 v_1 w' g_2 hp => ?_) (fun g_6 => ?_))
  · refine ⟨⟨[.fro (webD web_), .fro ((lC nD) some_), .own ((lC nD) v_1), .fro (nD x_3.1), .fro (nD x_3.2.a), .fro (nD x_3.2.b), .fro (nD x_3.2.lo), .fro (nD x_3.2.hi)], st⟩, rfl, ?_⟩
    obtain ⟨found_4, hfound_4, hp⟩ := bs hp
    refine S_dropM (M_mut (env' := [.fro (webD web_), .fro ((lC nD) some_), .own ((lC nD) found_4), .fro (nD x_3.1), .fro (nD x_3.2.a), .fro (nD x_3.2.b), .fro (nD x_3.2.lo), .fro (nD x_3.2.hi)]) rfl rfl (A_f (E_iteT (f := nD) (u := x_3.2.hi) (v := x_3.2.lo) (B_B (E_2 (O_slot rfl) (O_slot rfl) (o_inL (f := nD) x_3.1 some_))) (E_name rfl) (E_name rfl)) A_nil) rfl (o_app (f := nD) hfound_4) rfl) ?_
    have he := Option.some.inj hp
    subst he
    exact ⟨.inl rfl, (.fro (nD x_3.1), .fro (nD x_3.2.a), .fro (nD x_3.2.b), .fro (nD x_3.2.lo), .fro (nD x_3.2.hi), ()), rfl⟩
  refine S_ret (E_N (L_cons (O_slot rfl) L_nil) (o_tupL (f := nD) _)) ?_
  have he := Option.some.inj hp
  exact ⟨congrArg (fun z => Out.rt (RV.fro ((tC nD) z))) he, rfl⟩
theorem q_find_breach (web_ : Web) (plan_ : ((List Nat) × (List Nat))) {r : (Option (List Nat))} (hp : p_find_breach web_ plan_ = some r) (st : List Cell) : m_find_breach [webD web_, (p2 (tC nD) (tC nD)) plan_] st = some (.fro ((oC (tC nD)) r), st) := by
  refine fn_R rfl ?_
  show S ev_find_breach ⟨[.fro (webD web_), .fro ((p2 (tC nD) (tC nD)) plan_), .non], st⟩ _
  unfold ev_find_breach
  unfold p_find_breach at hp
  obtain ⟨decided_1, hdecided_1, hp⟩ := bs hp
  obtain ⟨c_12, hc_12, hp⟩ := bs hp
  refine S_seq (S_forC nD (fun (v_2 : Unit) (g_3 : Slot × Unit) => (⟨[.fro (webD web_), .fro ((p2 (tC nD) (tC nD)) plan_), g_3.1], st⟩ : Sg)) (fun (r : (Option (List Nat))) rv (s' : Sg) => rv = RV.fro ((oC (tC nD)) r) ∧ s'.st = st) (.non, ()) (I_seq (E_call (A_f (E_name rfl) A_nil) (q_decided plan_ hdecided_1 _)) rfl) rfl hc_12 (fun x_4 v_2 c' g_3 hp => ?_) (fun r_13 rv s' hcr hrr => ?_) (fun w_10 g_11 hcr => ?_))
  · refine ⟨⟨[.fro (webD web_), .fro ((p2 (tC nD) (tC nD)) plan_), .fro (nD x_4)], st⟩, rfl, ?_⟩
    obtain ⟨find_reason_5, hfind_reason_5, hp⟩ := bs hp
    refine S_if (B_B (E_2 (O_vf (E_call (A_f (E_name rfl) (A_f (E_name rfl) (A_f (E_name rfl) A_nil))) (q_find_reason web_ plan_ x_4 hfind_reason_5 _))) (O_vf E_c) (o_isN (f := (tC nD)) _))) (fun hb_6 => ?_) (fun hb_6 => ?_)
    · have hp := ite_t hb_6 hp
      obtain ⟨c_8, hc_8, hp⟩ := bs hp
      obtain ⟨raised_9, hraised_9, hp⟩ := bs hp
      refine S_ret (E_call (A_f (E_name rfl) (A_o (E_ite (r := .own ((lC nD) c_8)) (s2 := ⟨[.fro (webD web_), .fro ((p2 (tC nD) (tC nD)) plan_), .fro (nD x_4)], st⟩) (B_B (E_2 (O_slot rfl) (O_vf (E_2 (O_slot rfl) (O_vf (E_n 0 rfl)) rfl)) (o_inT (f := nD) x_4 plan_.1))) (fun hc => by have hq := ite_t hc hc_8; skip; exact E_as (E_lst (A_f (E_name rfl) A_nil) rfl) (congrArg (fun z => RV.own ((lC nD) z)) (Option.some.inj hq))) (fun hc => by have hq := ite_f hc hc_8; obtain ⟨other_roads_7, hother_roads_7, hq⟩ := bs hq; exact E_as (E_call (A_f (E_name rfl) (A_o (E_lst (A_f (E_name rfl) A_nil) rfl) A_nil)) (q_other_roads'1 web_ ([x_4] : List Nat) hother_roads_7 _)) (congrArg (fun z => RV.own ((lC nD) z)) (Option.some.inj hq)))) A_nil)) (q_raised web_ c_8 hraised_9 _)) ?_
      have he := Option.some.inj hp
      subst he
      exact ⟨_, rfl, rfl, rfl⟩
    · have hp := ite_f hb_6 hp
      refine S_pass ?_
      have he := Option.some.inj hp
      subst he
      exact ⟨.inl rfl, (.fro (nD x_4), ()), rfl⟩
  · subst hcr
    obtain ⟨rfl, hst⟩ := hrr
    have he := Option.some.inj hp
    exact ⟨congrArg (fun z => Out.rt (RV.fro ((oC (tC nD)) z))) he, hst⟩
  · subst hcr
    have hp := (contC_r _ _ _).symm.trans hp
    refine S_ret E_c ?_
    have he := Option.some.inj hp
    exact ⟨congrArg (fun z => Out.rt (RV.fro ((oC (tC nD)) z))) he, rfl⟩
theorem q_find_against (web_ : Web) (plan_ : ((List Nat) × (List Nat))) (step_ : (Str × Nat)) {r : (Option (List Nat))} (hp : p_find_against web_ plan_ step_ = some r) (st : List Cell) : m_find_against [webD web_, (p2 (tC nD) (tC nD)) plan_, (p2 D.str nD) step_] st = some (.fro ((oC (tC nD)) r), st) := by
  refine fn_R rfl ?_
  show S ev_find_against ⟨[.fro (webD web_), .fro ((p2 (tC nD) (tC nD)) plan_), .fro ((p2 D.str nD) step_)], st⟩ _
  unfold ev_find_against
  unfold p_find_against at hp
  obtain ⟨taken_1, htaken_1, hp⟩ := bs hp
  obtain ⟨find_breach_2, hfind_breach_2, hp⟩ := bs hp
  refine S_ret (E_call (A_f (E_name rfl) (A_f (E_call (A_f (E_name rfl) (A_f (E_name rfl) A_nil)) (q_taken plan_ step_ htaken_1 _)) A_nil)) (q_find_breach web_ taken_1 hfind_breach_2 _)) ?_
  have he := Option.some.inj hp
  exact ⟨congrArg (fun z => Out.rt (RV.fro ((oC (tC nD)) z))) he, rfl⟩
theorem q__law_is_integer (held_ : Nat) {r : Bool} (hp : p__law_is_integer held_ = some r) (st : List Cell) : m__law_is_integer [nD held_] st = some (.fro (D.bl r), st) := by
  refine fn_R rfl ?_
  show S ev__law_is_integer ⟨[.fro (nD held_)], st⟩ _
  unfold ev__law_is_integer
  unfold p__law_is_integer at hp
  refine S_ret (E_and (E_isi (O_slot rfl) (isi_int_int _)) (E_not (E_isi (O_slot rfl) (isi_bool_int _)))) ?_
  have he := Option.some.inj hp
  exact ⟨congrArg (fun z => Out.rt (RV.fro (D.bl z))) he, rfl⟩
theorem q__law_fits (web_ : Web) (given_ : (List Nat)) {r : Bool} (hp : p__law_fits web_ given_ = some r) (st : List Cell) : m__law_fits [webD web_, (tC nD) given_] st = some (.fro (D.bl r), st) := by
  refine fn_R rfl ?_
  show S ev__law_fits ⟨[.fro (webD web_), .fro ((tC nD) given_), .non, .non], st⟩ _
  unfold ev__law_fits
  unfold p__law_fits at hp
  refine S_seq (S_if (B_or (B_not (B_tru (O_vf (E_isi (O_slot rfl) (isi_tuple_tuple _))) rfl)) (B_B (E_2 (O_vf (E_N (L_cons (O_slot rfl) L_nil) (o_lenT (f := nD) _))) (O_vf (E_N (L_cons (O_vf (E_2 (O_slot rfl) (O_vf (E_n 1 rfl)) rfl)) L_nil) (o_lenT (f := rdD) _))) (o_ne (f := nD) given_.length web_.rs.length)))) (fun hb_1 => ?_) (fun hb_1 => ?_))
  · have hp := ite_t hb_1 hp
    refine S_ret E_c ?_
    have he := Option.some.inj hp
    exact ⟨congrArg (fun z => Out.rt (RV.fro (D.bl z))) he, rfl⟩
  · have hp := ite_f hb_1 hp
    obtain ⟨c_9, hc_9, hp⟩ := bs hp
    refine S_pass ?_
    refine S_seq (S_forC (p2 nD rdD) (fun (v_2 : Unit) (g_3 : Slot × Slot × Unit) => (⟨[.fro (webD web_), .fro ((tC nD) given_), g_3.1, g_3.2.1], st⟩ : Sg)) (fun (r : Bool) rv (s' : Sg) => rv = RV.fro (D.bl r) ∧ s'.st = st) (.non, .non, ()) (I_args (A_f (E_name rfl) (A_f (E_2 (O_slot rfl) (O_vf (E_n 1 rfl)) rfl) A_nil)) (o_zipT (f := nD) (g := rdD) _ _)) rfl hc_9 (fun x_4 v_2 c' g_3 hp => ?_) (fun r_10 rv s' hcr hrr => ?_) (fun w_7 g_8 hcr => ?_))
    · refine ⟨⟨[.fro (webD web_), .fro ((tC nD) given_), .fro (nD x_4.1), .fro (rdD x_4.2)], st⟩, rfl, ?_⟩
      obtain ⟨is_integer_5, his_integer_5, hp⟩ := bs hp
      refine S_if (B_or (B_not (B_tru (O_vf (E_call (A_f (E_name rfl) A_nil) (q__law_is_integer x_4.1 his_integer_5 _))) rfl)) (B_not (B_B (E_ch (O_vf (E_2 (O_slot rfl) (O_vf (E_n 2 rfl)) rfl)) (O_slot rfl) (o_leN _ _) (O_vf (E_2 (O_slot rfl) (O_vf (E_n 3 rfl)) rfl)) (o_leN _ _))))) (fun hb_6 => ?_) (fun hb_6 => ?_)
      · have hp := ite_t hb_6 hp
        refine S_ret E_c ?_
        have he := Option.some.inj hp
        subst he
        exact ⟨_, rfl, rfl, rfl⟩
      · have hp := ite_f hb_6 hp
        refine S_pass ?_
        have he := Option.some.inj hp
        subst he
        exact ⟨.inl rfl, (.fro (nD x_4.1), .fro (rdD x_4.2), ()), rfl⟩
    · subst hcr
      obtain ⟨rfl, hst⟩ := hrr
      have he := Option.some.inj hp
      exact ⟨congrArg (fun z => Out.rt (RV.fro (D.bl z))) he, hst⟩
    · subst hcr
      have hp := (contC_r _ _ _).symm.trans hp
      refine S_ret E_c ?_
      have he := Option.some.inj hp
      exact ⟨congrArg (fun z => Out.rt (RV.fro (D.bl z))) he, rfl⟩
theorem q__law_least_total (web_ : Web) (lengths_ : (List Nat)) {r : Nat} (hp : p__law_least_total web_ lengths_ = some r) (st : List Cell) : m__law_least_total [webD web_, (tC nD) lengths_] st = some (.fro (nD r), st) := by
  refine fn_R rfl ?_
  show S ev__law_least_total ⟨[.fro (webD web_), .fro ((tC nD) lengths_), .non, .non, .non, .non, .non, .non, .non, .non], st⟩ _
  unfold ev__law_least_total
  unfold p__law_least_total at hp
  refine S_seq (S_par (env' := [.fro (webD web_), .fro ((tC nD) lengths_), .own ((lC nD) ([(0 : Nat)] : List Nat)), .fro (nD (0 : Nat)), .non, .non, .non, .non, .non, .non]) (E_lst (A_f (E_n 0 rfl) A_nil) rfl) (E_n 0 rfl) rfl ?_)
  obtain ⟨w_14, hw_14, hp⟩ := bs hp
  refine S_seq (S_wh (fun (v_1 : (List Nat) × Nat) (g_2 : Slot × Slot × Slot × Slot × Unit) => (⟨[.fro (webD web_), .fro ((tC nD) lengths_), .own ((lC nD) v_1.1), .fro (nD v_1.2), g_2.1, g_2.2.1, g_2.2.2.1, g_2.2.2.2.1, .non, .non], st⟩ : Sg)) (.non, .non, .non, .non, ()) rfl hw_14 (fun v_1 g_2 b hq => by skip; exact B_as (B_B (E_2 (O_vf (E_N (L_cons (O_slot rfl) L_nil) (o_lenL (f := nD) _))) (O_vf (E_2 (O_slot rfl) (O_vf (E_n 0 rfl)) rfl)) (o_ltN _ _))) (Option.some.inj hq)) (fun v_1 w' g_2 hp => ?_) (fun g_15 => ?_))
  · obtain ⟨lc_5, hlc_5, hp⟩ := bs hp
    refine S_seq (S_set (env' := [.fro (webD web_), .fro ((tC nD) lengths_), .own ((lC nD) v_1.1), .fro (nD v_1.2), .own ((lC nD) lc_5), g_2.2.1, g_2.2.2.1, g_2.2.2.2.1, .non, .non]) (E_quietL (env := [.fro (webD web_), (quietSlot (.fro ((tC nD) lengths_))), .fro ((lC nD) v_1.1), (quietSlot (.fro (nD v_1.2))), (quietSlot (g_2.1)), (quietSlot (g_2.2.1)), (quietSlot (g_2.2.2.1)), (quietSlot (g_2.2.2.2.1)), (quietSlot (.non)), (quietSlot (.non))]) (QE.fro (QE.skip (QE.own (QE.skip (QE.skip (QE.skip (QE.skip (QE.skip (QE.skip (QE.skip QE.nil)))))))))) (E_lc (p2 nD rdD) nD (env := [.fro (webD web_), (hideSlot (quietSlot (.fro ((tC nD) lengths_)))), .fro ((lC nD) v_1.1), (hideSlot (quietSlot (.fro (nD v_1.2)))), (hideSlot (quietSlot (g_2.1))), (hideSlot (quietSlot (g_2.2.1))), (hideSlot (quietSlot (g_2.2.2.1))), (hideSlot (quietSlot (g_2.2.2.2.1))), .non, .non]) (s' := ⟨[.fro (webD web_), (quietSlot (.fro ((tC nD) lengths_))), .fro ((lC nD) v_1.1), (quietSlot (.fro (nD v_1.2))), (quietSlot (g_2.1)), (quietSlot (g_2.2.1)), (quietSlot (g_2.2.2.1)), (quietSlot (g_2.2.2.2.1)), (quietSlot (.non)), (quietSlot (.non))], []⟩) (I_args (A_f (E_2 (O_slot rfl) (O_vf (E_n 1 rfl)) rfl) A_nil) (o_enumT (f := rdD) _)) rfl rfl ((lcT_P _).trans hlc_5) (fun x_4 b hb => by skip; exact ⟨⟨[.fro (webD web_), (hideSlot (quietSlot (.fro ((tC nD) lengths_)))), .fro ((lC nD) v_1.1), (hideSlot (quietSlot (.fro (nD v_1.2)))), (hideSlot (quietSlot (g_2.1))), (hideSlot (quietSlot (g_2.2.1))), (hideSlot (quietSlot (g_2.2.2.1))), (hideSlot (quietSlot (g_2.2.2.2.1))), .fro (nD x_4.1), .fro (rdD x_4.2)], []⟩, ⟨[.fro (webD web_), (hideSlot (quietSlot (.fro ((tC nD) lengths_)))), .fro ((lC nD) v_1.1), (hideSlot (quietSlot (.fro (nD v_1.2)))), (hideSlot (quietSlot (g_2.1))), (hideSlot (quietSlot (g_2.2.1))), (hideSlot (quietSlot (g_2.2.2.1))), (hideSlot (quietSlot (g_2.2.2.2.1))), .fro (nD x_4.1), .fro (rdD x_4.2)], []⟩, rfl, B_as (B_B (E_2 (O_vf (E_2 (O_vf (E_2 (O_slot rfl) (O_vf (E_n 0 rfl)) rfl)) (O_slot rfl) (o_inL (f := nD) x_4.2.a v_1.1))) (O_vf (E_2 (O_vf (E_2 (O_slot rfl) (O_vf (E_n 1 rfl)) rfl)) (O_slot rfl) (o_inL (f := nD) x_4.2.b v_1.1))) (o_ne (f := D.bl) (decide (x_4.2.a ∈ v_1.1)) (decide (x_4.2.b ∈ v_1.1))))) (Option.some.inj hb), rfl, fun _ yy hq => by skip; exact ⟨_, ⟨[.fro (webD web_), (hideSlot (quietSlot (.fro ((tC nD) lengths_)))), .fro ((lC nD) v_1.1), (hideSlot (quietSlot (.fro (nD v_1.2)))), (hideSlot (quietSlot (g_2.1))), (hideSlot (quietSlot (g_2.2.1))), (hideSlot (quietSlot (g_2.2.2.1))), (hideSlot (quietSlot (g_2.2.2.2.1))), .fro (nD x_4.1), .fro (rdD x_4.2)], []⟩, (E_name rfl), congrArg nD (Option.some.inj hq), rfl⟩⟩)) (fun _ => rfl)) rfl ?_)
    obtain ⟨lc_8, hlc_8, hp⟩ := bs hp
    obtain ⟨min_9, hmin_9, hp⟩ := bs hp
    refine S_seq (S_set (env' := [.fro (webD web_), .fro ((tC nD) lengths_), .own ((lC nD) v_1.1), .fro (nD v_1.2), .fro ((lC nD) lc_5), .fro (nD min_9.2), g_2.2.2.1, g_2.2.2.2.1, .non, .non]) (E_2 (O_vf (E_N (L_cons (O_vo (E_lc nD (p2 nD nD) (env := [.fro (webD web_), .fro ((tC nD) lengths_), .non, .fro (nD v_1.2), .fro ((lC nD) lc_5), (hideSlot g_2.2.1), (hideSlot g_2.2.2.1), (hideSlot g_2.2.2.2.1), .non, .non]) (s' := ⟨[.fro (webD web_), .fro ((tC nD) lengths_), .own ((lC nD) v_1.1), .fro (nD v_1.2), .fro ((lC nD) lc_5), g_2.2.1, g_2.2.2.1, g_2.2.2.2.1, .non, .non], st⟩) (I_seq (E_nameO (s' := ⟨[.fro (webD web_), .fro ((tC nD) lengths_), .own ((lC nD) v_1.1), .fro (nD v_1.2), .fro ((lC nD) lc_5), g_2.2.1, g_2.2.2.1, g_2.2.2.2.1, .non, .non], st⟩) rfl rfl) rfl) rfl rfl hlc_8 (fun x_6 b hb => by skip; exact ⟨⟨[.fro (webD web_), .fro ((tC nD) lengths_), .non, .fro (nD v_1.2), .fro ((lC nD) lc_5), (hideSlot g_2.2.1), (hideSlot g_2.2.2.1), (hideSlot g_2.2.2.2.1), .fro (nD x_6), .non], st⟩, ⟨[.fro (webD web_), .fro ((tC nD) lengths_), .non, .fro (nD v_1.2), .fro ((lC nD) lc_5), (hideSlot g_2.2.1), (hideSlot g_2.2.2.1), (hideSlot g_2.2.2.2.1), .fro (nD x_6), .non], st⟩, rfl, B_as B_yes (Option.some.inj hb), rfl, fun _ yy hq => by obtain ⟨it_7, hit_7, hq⟩ := bs hq; exact ⟨_, ⟨[.fro (webD web_), .fro ((tC nD) lengths_), .non, .fro (nD v_1.2), .fro ((lC nD) lc_5), (hideSlot g_2.2.1), (hideSlot g_2.2.2.1), (hideSlot g_2.2.2.2.1), .fro (nD x_6), .non], st⟩, (E_tup (A_f (E_2 (O_slot rfl) (O_slot rfl) (o_ixT (f := nD) hit_7)) (A_f (E_name rfl) A_nil)) rfl), congrArg (p2 nD nD) (Option.some.inj hq), rfl⟩⟩))) L_nil) (o_minBy hmin_9))) (O_vf (E_n 1 rfl)) rfl) rfl ?_)
    obtain ⟨it_10, hit_10, hp⟩ := bs hp
    obtain ⟨whole_11, hwhole_11, hp⟩ := bs hp
    replace hwhole_11 := Option.some.inj hwhole_11
    refine S_seq (S_set (env' := [.fro (webD web_), .fro ((tC nD) lengths_), .own ((lC nD) v_1.1), .fro (nD whole_11), .fro ((lC nD) lc_5), .fro (nD min_9.2), g_2.2.2.1, g_2.2.2.2.1, .non, .non]) (E_as (E_2 (O_slot rfl) (O_vf (E_2 (O_slot rfl) (O_slot rfl) (o_ixT (f := nD) hit_10))) (o_addN _ _)) (congrArg (fun z => RV.fro (nD z)) hwhole_11)) rfl ?_)
    obtain ⟨it_12, hit_12, hp⟩ := bs hp
    refine S_seq (S_asg (s2 := ⟨[.fro (webD web_), .fro ((tC nD) lengths_), .own ((lC nD) v_1.1), .fro (nD whole_11), .fro ((lC nD) lc_5), .fro (nD min_9.2), .fro (nD it_12.a), .fro (nD it_12.b), .non, .non], st⟩) (E_sl (O_vf (E_2 (O_vf (E_2 (O_slot rfl) (O_vf (E_n 1 rfl)) rfl)) (O_slot rfl) (o_ixT (f := rdD) hit_12))) P_no (P_pt (O_vf (E_n 2 rfl))) rfl) rfl ?_)
    obtain ⟨inside_13, hinside_13, hp⟩ := bs hp
    refine S_dropM (M_mut (env' := [.fro (webD web_), .fro ((tC nD) lengths_), .own ((lC nD) inside_13), .fro (nD whole_11), .fro ((lC nD) lc_5), .fro (nD min_9.2), .fro (nD it_12.a), .fro (nD it_12.b), .non, .non]) rfl rfl (A_f (E_iteT (f := nD) (u := it_12.b) (v := it_12.a) (B_B (E_2 (O_slot rfl) (O_slot rfl) (o_inL (f := nD) it_12.a v_1.1))) (E_name rfl) (E_name rfl)) A_nil) rfl (o_app (f := nD) hinside_13) rfl) ?_
    have he := Option.some.inj hp
    subst he
    exact ⟨.inl rfl, (.fro ((lC nD) lc_5), .fro (nD min_9.2), .fro (nD it_12.a), .fro (nD it_12.b), ()), rfl⟩
  refine S_retF rfl ?_
  have he := Option.some.inj hp
  exact ⟨congrArg (fun z => Out.rt (RV.fro (nD z))) he, rfl⟩
theorem q__law_serves (web_ : Web) (plan_ : ((List Nat) × (List Nat))) (lengths_ : (List Nat)) {r : Bool} (hp : p__law_serves web_ plan_ lengths_ = some r) (st : List Cell) : m__law_serves [webD web_, (p2 (tC nD) (tC nD)) plan_, (tC nD) lengths_] st = some (.fro (D.bl r), st) := by
  refine fn_R rfl ?_
  show S ev__law_serves ⟨[.fro (webD web_), .fro ((p2 (tC nD) (tC nD)) plan_), .fro ((tC nD) lengths_), .non, .non, .non, .non, .non, .non, .non, .non, .non], st⟩ _
  unfold ev__law_serves
  unfold p__law_serves at hp
  refine S_seq (S_asg (s2 := ⟨[.fro (webD web_), .fro ((p2 (tC nD) (tC nD)) plan_), .fro ((tC nD) lengths_), .fro ((tC nD) plan_.1), .fro ((tC nD) plan_.2), .non, .non, .non, .non, .non, .non, .non], st⟩) (E_name rfl) rfl ?_)
  obtain ⟨least_total_1, hleast_total_1, hp⟩ := bs hp
  refine S_seq (S_set (env' := [.fro (webD web_), .fro ((p2 (tC nD) (tC nD)) plan_), .fro ((tC nD) lengths_), .fro ((tC nD) plan_.1), .fro ((tC nD) plan_.2), .fro (nD least_total_1), .non, .non, .non, .non, .non, .non]) (E_call (A_f (E_name rfl) (A_f (E_name rfl) A_nil)) (q__law_least_total web_ lengths_ hleast_total_1 _)) rfl ?_)
  refine S_seq (S_par (env' := [.fro (webD web_), .fro ((p2 (tC nD) (tC nD)) plan_), .fro ((tC nD) lengths_), .fro ((tC nD) plan_.1), .fro ((tC nD) plan_.2), .fro (nD least_total_1), .own ((lC nD) ([] : List Nat)), .fro (nD (0 : Nat)), .non, .non, .non, .non]) (E_lst A_nil rfl) (E_n 0 rfl) rfl ?_)
  obtain ⟨rng_2, hrng_2, hp⟩ := bs hp
  obtain ⟨lc_5, hlc_5, hp⟩ := bs hp
  refine S_seq (S_set (env' := [.fro (webD web_), .fro ((p2 (tC nD) (tC nD)) plan_), .fro ((tC nD) lengths_), .fro ((tC nD) plan_.1), .fro ((tC nD) plan_.2), .fro (nD least_total_1), .own ((lC nD) ([] : List Nat)), .fro (nD (0 : Nat)), .own ((lC (p3 nD D.bl nD)) lc_5), .non, .non, .non]) (E_lc nD (p3 nD D.bl nD) (env := [.fro (webD web_), .fro ((p2 (tC nD) (tC nD)) plan_), .fro ((tC nD) lengths_), .fro ((tC nD) plan_.1), .fro ((tC nD) plan_.2), .fro (nD least_total_1), .non, .fro (nD (0 : Nat)), .non, .non, .non, .non]) (s' := ⟨[.fro (webD web_), .fro ((p2 (tC nD) (tC nD)) plan_), .fro ((tC nD) lengths_), .fro ((tC nD) plan_.1), .fro ((tC nD) plan_.2), .fro (nD least_total_1), .own ((lC nD) ([] : List Nat)), .fro (nD (0 : Nat)), .non, .non, .non, .non], st⟩) (I_rng1 (A_f (E_N (L_cons (O_vf (E_2 (O_slot rfl) (O_vf (E_n 1 rfl)) rfl)) L_nil) (o_lenT (f := rdD) _)) A_nil) hrng_2) rfl rfl hlc_5 (fun x_3 b hb => by skip; exact ⟨⟨[.fro (webD web_), .fro ((p2 (tC nD) (tC nD)) plan_), .fro ((tC nD) lengths_), .fro ((tC nD) plan_.1), .fro ((tC nD) plan_.2), .fro (nD least_total_1), .non, .fro (nD (0 : Nat)), .non, .non, .non, .fro (nD x_3)], st⟩, ⟨[.fro (webD web_), .fro ((p2 (tC nD) (tC nD)) plan_), .fro ((tC nD) lengths_), .fro ((tC nD) plan_.1), .fro ((tC nD) plan_.2), .fro (nD least_total_1), .non, .fro (nD (0 : Nat)), .non, .non, .non, .fro (nD x_3)], st⟩, rfl, B_as (B_B (E_2 (O_slot rfl) (O_slot rfl) (o_ninT (f := nD) x_3 plan_.2))) (Option.some.inj hb), rfl, fun _ yy hq => by obtain ⟨it_4, hit_4, hq⟩ := bs hq; exact ⟨_, ⟨[.fro (webD web_), .fro ((p2 (tC nD) (tC nD)) plan_), .fro ((tC nD) lengths_), .fro ((tC nD) plan_.1), .fro ((tC nD) plan_.2), .fro (nD least_total_1), .non, .fro (nD (0 : Nat)), .non, .non, .non, .fro (nD x_3)], st⟩, (E_tup (A_f (E_2 (O_slot rfl) (O_slot rfl) (o_ixT (f := nD) hit_4)) (A_f (E_2 (O_slot rfl) (O_slot rfl) (o_ninT (f := nD) x_3 plan_.1)) (A_f (E_name rfl) A_nil))) rfl), congrArg (p3 nD D.bl nD) (Option.some.inj hq), rfl⟩⟩)) rfl ?_)
  obtain ⟨srt_6, hsrt_6, hp⟩ := bs hp
  obtain ⟨w_14, hw_14, hp⟩ := bs hp
  refine S_seq (S_for (p3 nD D.bl nD) (fun (v_7 : (List Nat) × Nat) (g_8 : Slot × Slot × Slot × Unit) => (⟨[.fro (webD web_), .fro ((p2 (tC nD) (tC nD)) plan_), .fro ((tC nD) lengths_), .fro ((tC nD) plan_.1), .fro ((tC nD) plan_.2), .fro (nD least_total_1), .own ((lC nD) v_7.1), .fro (nD v_7.2), .own ((lC (p3 nD D.bl nD)) lc_5), g_8.1, g_8.2.1, g_8.2.2.1], st⟩ : Sg)) (.non, .non, .non, ()) (I_seq (E_N (L_cons (O_slot rfl) L_nil) (o_sortL (f := (p3 nD D.bl nD)) hsrt_6)) rfl) rfl hw_14 (fun x_9 v_7 w' g_8 hp => ?_) (fun g_15 => ?_))
  · refine ⟨⟨[.fro (webD web_), .fro ((p2 (tC nD) (tC nD)) plan_), .fro ((tC nD) lengths_), .fro ((tC nD) plan_.1), .fro ((tC nD) plan_.2), .fro (nD least_total_1), .own ((lC nD) v_7.1), .fro (nD v_7.2), .own ((lC (p3 nD D.bl nD)) lc_5), .fro (nD x_9.1), .fro (D.bl x_9.2.1), .fro (nD x_9.2.2)], st⟩, rfl, ?_⟩
    obtain ⟨is_apart_10, his_apart_10, hp⟩ := bs hp
    refine S_if (B_tru (O_vf (E_quiet (env := [.fro (webD web_), (quietSlot (.fro ((p2 (tC nD) (tC nD)) plan_))), (quietSlot (.fro ((tC nD) lengths_))), (quietSlot (.fro ((tC nD) plan_.1))), (quietSlot (.fro ((tC nD) plan_.2))), (quietSlot (.fro (nD least_total_1))), .fro ((lC nD) v_7.1), (quietSlot (.fro (nD v_7.2))), (quietSlot (.own ((lC (p3 nD D.bl nD)) lc_5))), (quietSlot (.fro (nD x_9.1))), (quietSlot (.fro (D.bl x_9.2.1))), .fro (nD x_9.2.2)]) (QE.fro (QE.skip (QE.skip (QE.skip (QE.skip (QE.skip (QE.own (QE.skip (QE.skip (QE.skip (QE.skip (QE.fro QE.nil)))))))))))) (E_call (A_f (E_name rfl) (A_f (E_name rfl) (A_f (E_name rfl) A_nil))) (q__law_is_apart web_ v_7.1 x_9.2.2 his_apart_10 _)))) rfl) (fun hb_11 => ?_) (fun hb_11 => ?_)
    · have hp := ite_t hb_11 hp
      obtain ⟨joined_12, hjoined_12, hp⟩ := bs hp
      refine S_seq (S_dropM (M_mut (env' := [.fro (webD web_), .fro ((p2 (tC nD) (tC nD)) plan_), .fro ((tC nD) lengths_), .fro ((tC nD) plan_.1), .fro ((tC nD) plan_.2), .fro (nD least_total_1), .own ((lC nD) joined_12), .fro (nD v_7.2), .own ((lC (p3 nD D.bl nD)) lc_5), .fro (nD x_9.1), .fro (D.bl x_9.2.1), .fro (nD x_9.2.2)]) rfl rfl (A_f (E_name rfl) A_nil) rfl (o_app (f := nD) hjoined_12) rfl) ?_)
      obtain ⟨whole_13, hwhole_13, hp⟩ := bs hp
      replace hwhole_13 := Option.some.inj hwhole_13
      refine S_set (env' := [.fro (webD web_), .fro ((p2 (tC nD) (tC nD)) plan_), .fro ((tC nD) lengths_), .fro ((tC nD) plan_.1), .fro ((tC nD) plan_.2), .fro (nD least_total_1), .own ((lC nD) joined_12), .fro (nD whole_13), .own ((lC (p3 nD D.bl nD)) lc_5), .fro (nD x_9.1), .fro (D.bl x_9.2.1), .fro (nD x_9.2.2)]) (E_as (E_2 (O_slot rfl) (O_slot rfl) (o_addN _ _)) (congrArg (fun z => RV.fro (nD z)) hwhole_13)) rfl ?_
      have he := Option.some.inj hp
      subst he
      exact ⟨.inl rfl, (.fro (nD x_9.1), .fro (D.bl x_9.2.1), .fro (nD x_9.2.2), ()), rfl⟩
    · have hp := ite_f hb_11 hp
      refine S_pass ?_
      have he := Option.some.inj hp
      subst he
      exact ⟨.inl rfl, (.fro (nD x_9.1), .fro (D.bl x_9.2.1), .fro (nD x_9.2.2), ()), rfl⟩
  obtain ⟨t_19, ht_19, hp⟩ := bs hp
  refine S_ret (E_andP (E_2 (O_vf (E_N (L_cons (O_slot rfl) L_nil) (o_lenL (f := nD) _))) (O_vf (E_2 (O_vf (E_2 (O_slot rfl) (O_vf (E_n 0 rfl)) rfl)) (O_vf E_c) (o_subI _ _))) (o_eq (f := D.int) (w_14.1.length : Int) ((web_.n : Int) - (1 : Int)))) ht_19 (fun _ hq => (by obtain ⟨t_18, ht_18, hq⟩ := bs hq; exact E_as (E_andP (E_2 (O_slot rfl) (O_slot rfl) (o_eq (f := nD) w_14.2 least_total_1)) ht_18 (fun _ hq => (by obtain ⟨lc_17, hlc_17, hq⟩ := bs hq; exact E_as (E_2 (O_vf E_c) (O_vo (E_quietL (env := [(quietSlot (.fro (webD web_))), (quietSlot (.fro ((p2 (tC nD) (tC nD)) plan_))), (quietSlot (.fro ((tC nD) lengths_))), .fro ((tC nD) plan_.1), (quietSlot (.fro ((tC nD) plan_.2))), (quietSlot (.fro (nD least_total_1))), .fro ((lC nD) w_14.1), (quietSlot (.fro (nD w_14.2))), (quietSlot (.own ((lC (p3 nD D.bl nD)) lc_5))), (quietSlot (g_15.1)), (quietSlot (g_15.2.1)), (quietSlot (g_15.2.2.1))]) (QE.skip (QE.skip (QE.skip (QE.fro (QE.skip (QE.skip (QE.own (QE.skip (QE.skip (QE.skip (QE.skip (QE.skip QE.nil)))))))))))) (E_lc nD D.bl (env := [(hideSlot (quietSlot (.fro (webD web_)))), (hideSlot (quietSlot (.fro ((p2 (tC nD) (tC nD)) plan_)))), (hideSlot (quietSlot (.fro ((tC nD) lengths_)))), .fro ((tC nD) plan_.1), (hideSlot (quietSlot (.fro ((tC nD) plan_.2)))), (hideSlot (quietSlot (.fro (nD least_total_1)))), .fro ((lC nD) w_14.1), (hideSlot (quietSlot (.fro (nD w_14.2)))), (hideSlot (quietSlot (.own ((lC (p3 nD D.bl nD)) lc_5)))), (hideSlot (quietSlot (g_15.1))), (hideSlot (quietSlot (g_15.2.1))), .non]) (s' := ⟨[(quietSlot (.fro (webD web_))), (quietSlot (.fro ((p2 (tC nD) (tC nD)) plan_))), (quietSlot (.fro ((tC nD) lengths_))), .fro ((tC nD) plan_.1), (quietSlot (.fro ((tC nD) plan_.2))), (quietSlot (.fro (nD least_total_1))), .fro ((lC nD) w_14.1), (quietSlot (.fro (nD w_14.2))), (quietSlot (.own ((lC (p3 nD D.bl nD)) lc_5))), (quietSlot (g_15.1)), (quietSlot (g_15.2.1)), (quietSlot (g_15.2.2.1))], []⟩) (I_seq (E_name rfl) rfl) rfl rfl ((lcT_P _).trans hlc_17) (fun x_16 b hb => by skip; exact ⟨⟨[(hideSlot (quietSlot (.fro (webD web_)))), (hideSlot (quietSlot (.fro ((p2 (tC nD) (tC nD)) plan_)))), (hideSlot (quietSlot (.fro ((tC nD) lengths_)))), .fro ((tC nD) plan_.1), (hideSlot (quietSlot (.fro ((tC nD) plan_.2)))), (hideSlot (quietSlot (.fro (nD least_total_1)))), .fro ((lC nD) w_14.1), (hideSlot (quietSlot (.fro (nD w_14.2)))), (hideSlot (quietSlot (.own ((lC (p3 nD D.bl nD)) lc_5)))), (hideSlot (quietSlot (g_15.1))), (hideSlot (quietSlot (g_15.2.1))), .fro (nD x_16)], []⟩, ⟨[(hideSlot (quietSlot (.fro (webD web_)))), (hideSlot (quietSlot (.fro ((p2 (tC nD) (tC nD)) plan_)))), (hideSlot (quietSlot (.fro ((tC nD) lengths_)))), .fro ((tC nD) plan_.1), (hideSlot (quietSlot (.fro ((tC nD) plan_.2)))), (hideSlot (quietSlot (.fro (nD least_total_1)))), .fro ((lC nD) w_14.1), (hideSlot (quietSlot (.fro (nD w_14.2)))), (hideSlot (quietSlot (.own ((lC (p3 nD D.bl nD)) lc_5)))), (hideSlot (quietSlot (g_15.1))), (hideSlot (quietSlot (g_15.2.1))), .fro (nD x_16)], []⟩, rfl, B_as B_yes (Option.some.inj hb), rfl, fun _ yy hq => by skip; exact ⟨_, ⟨[(hideSlot (quietSlot (.fro (webD web_)))), (hideSlot (quietSlot (.fro ((p2 (tC nD) (tC nD)) plan_)))), (hideSlot (quietSlot (.fro ((tC nD) lengths_)))), .fro ((tC nD) plan_.1), (hideSlot (quietSlot (.fro ((tC nD) plan_.2)))), (hideSlot (quietSlot (.fro (nD least_total_1)))), .fro ((lC nD) w_14.1), (hideSlot (quietSlot (.fro (nD w_14.2)))), (hideSlot (quietSlot (.own ((lC (p3 nD D.bl nD)) lc_5)))), (hideSlot (quietSlot (g_15.1))), (hideSlot (quietSlot (g_15.2.1))), .fro (nD x_16)], []⟩, (E_2 (O_slot rfl) (O_slot rfl) (o_inL (f := nD) x_16 w_14.1)), congrArg D.bl (Option.some.inj hq), rfl⟩⟩)) (fun _ => rfl))) (o_ninL (f := D.bl) false lc_17)) (congrArg (fun z => RV.fro (D.bl z)) (Option.some.inj hq))))) (congrArg (fun z => RV.fro (D.bl z)) (Option.some.inj hq))))) ?_
  have he := Option.some.inj hp
  exact ⟨congrArg (fun z => Out.rt (RV.fro (D.bl z))) he, rfl⟩
theorem q_holds (web_ : Web) (plan_ : ((List Nat) × (List Nat))) {r : Bool} (hp : p_holds web_ plan_ = some r) (st : List Cell) : m_holds [webD web_, (p2 (tC nD) (tC nD)) plan_] st = some (.fro (D.bl r), st) := by
  refine fn_R rfl ?_
  show S ev_holds ⟨[.fro (webD web_), .fro ((p2 (tC nD) (tC nD)) plan_)], st⟩ _
  unfold ev_holds
  unfold p_holds at hp
  obtain ⟨find_breach_1, hfind_breach_1, hp⟩ := bs hp
  refine S_ret (E_2 (O_vf (E_call (A_f (E_name rfl) (A_f (E_name rfl) A_nil)) (q_find_breach web_ plan_ hfind_breach_1 _))) (O_vf E_c) (o_isN (f := (tC nD)) _)) ?_
  have he := Option.some.inj hp
  exact ⟨congrArg (fun z => Out.rt (RV.fro (D.bl z))) he, rfl⟩
theorem q_options (web_ : Web) (plan_ : ((List Nat) × (List Nat))) {r : (List (Str × Nat))} (hp : p_options web_ plan_ = some r) (st : List Cell) : m_options [webD web_, (p2 (tC nD) (tC nD)) plan_] st = some (.own ((lC (p2 D.str nD)) r), st) := by
  refine fn_R rfl ?_
  show S ev_options ⟨[.fro (webD web_), .fro ((p2 (tC nD) (tC nD)) plan_), .non, .non, .non, .non], st⟩ _
  unfold ev_options
  unfold p_options at hp
  obtain ⟨decided_1, hdecided_1, hp⟩ := bs hp
  obtain ⟨other_roads_2, hother_roads_2, hp⟩ := bs hp
  refine S_seq (S_set (env' := [.fro (webD web_), .fro ((p2 (tC nD) (tC nD)) plan_), .own ((lC nD) other_roads_2), .non, .non, .non]) (E_call (A_f (E_name rfl) (A_o (E_call (A_f (E_name rfl) A_nil) (q_decided plan_ hdecided_1 _)) A_nil)) (q_other_roads'1 web_ decided_1 hother_roads_2 _)) rfl ?_)
  obtain ⟨lc_4, hlc_4, hp⟩ := bs hp
  obtain ⟨lc_6, hlc_6, hp⟩ := bs hp
  obtain ⟨sum_7, hsum_7, hp⟩ := bs hp
  refine S_seq (S_set (env' := [.fro (webD web_), .fro ((p2 (tC nD) (tC nD)) plan_), .fro ((lC nD) other_roads_2), .own ((lC (p2 D.str nD)) sum_7), .non, .non]) (E_2 (O_vo (E_lc nD (p2 D.str nD) (env := [.fro (webD web_), .fro ((p2 (tC nD) (tC nD)) plan_), .fro ((lC nD) other_roads_2), .non, .non, .non]) (s' := ⟨[.fro (webD web_), .fro ((p2 (tC nD) (tC nD)) plan_), .fro ((lC nD) other_roads_2), .non, .non, .non], st⟩) (I_seq (E_nameO (s' := ⟨[.fro (webD web_), .fro ((p2 (tC nD) (tC nD)) plan_), .fro ((lC nD) other_roads_2), .non, .non, .non], st⟩) rfl rfl) rfl) rfl rfl ((lcT_P _).trans hlc_4) (fun x_3 b hb => by skip; exact ⟨⟨[.fro (webD web_), .fro ((p2 (tC nD) (tC nD)) plan_), .fro ((lC nD) other_roads_2), .non, .fro (nD x_3), .non], st⟩, ⟨[.fro (webD web_), .fro ((p2 (tC nD) (tC nD)) plan_), .fro ((lC nD) other_roads_2), .non, .fro (nD x_3), .non], st⟩, rfl, B_as B_yes (Option.some.inj hb), rfl, fun _ yy hq => by skip; exact ⟨_, ⟨[.fro (webD web_), .fro ((p2 (tC nD) (tC nD)) plan_), .fro ((lC nD) other_roads_2), .non, .fro (nD x_3), .non], st⟩, (E_tup (A_f E_c (A_f (E_name rfl) A_nil)) rfl), congrArg (p2 D.str nD) (Option.some.inj hq), rfl⟩⟩))) (O_vo (E_lc nD (p2 D.str nD) (env := [.fro (webD web_), .fro ((p2 (tC nD) (tC nD)) plan_), .fro ((lC nD) other_roads_2), .non, .non, .non]) (s' := ⟨[.fro (webD web_), .fro ((p2 (tC nD) (tC nD)) plan_), .fro ((lC nD) other_roads_2), .non, .non, .non], st⟩) (I_seq (E_name rfl) rfl) rfl rfl ((lcT_P _).trans hlc_6) (fun x_5 b hb => by skip; exact ⟨⟨[.fro (webD web_), .fro ((p2 (tC nD) (tC nD)) plan_), .fro ((lC nD) other_roads_2), .non, .fro (nD x_5), .non], st⟩, ⟨[.fro (webD web_), .fro ((p2 (tC nD) (tC nD)) plan_), .fro ((lC nD) other_roads_2), .non, .fro (nD x_5), .non], st⟩, rfl, B_as B_yes (Option.some.inj hb), rfl, fun _ yy hq => by skip; exact ⟨_, ⟨[.fro (webD web_), .fro ((p2 (tC nD) (tC nD)) plan_), .fro ((lC nD) other_roads_2), .non, .fro (nD x_5), .non], st⟩, (E_tup (A_f E_c (A_f (E_name rfl) A_nil)) rfl), congrArg (p2 D.str nD) (Option.some.inj hq), rfl⟩⟩))) (o_addL (f := (p2 D.str nD)) hsum_7)) rfl ?_)
  obtain ⟨lc_11, hlc_11, hp⟩ := bs hp
  refine S_ret (E_lc (p2 D.str nD) (p2 D.str nD) (env := [.fro (webD web_), .fro ((p2 (tC nD) (tC nD)) plan_), .fro ((lC nD) other_roads_2), .fro ((lC (p2 D.str nD)) sum_7), .non, .non]) (s' := ⟨[.fro (webD web_), .fro ((p2 (tC nD) (tC nD)) plan_), .fro ((lC nD) other_roads_2), .fro ((lC (p2 D.str nD)) sum_7), .non, .non], st⟩) (I_seq (E_nameO (s' := ⟨[.fro (webD web_), .fro ((p2 (tC nD) (tC nD)) plan_), .fro ((lC nD) other_roads_2), .fro ((lC (p2 D.str nD)) sum_7), .non, .non], st⟩) rfl rfl) rfl) rfl rfl hlc_11 (fun x_8 b hb => by obtain ⟨taken_9, htaken_9, hb⟩ := bs hb; obtain ⟨holds_10, hholds_10, hb⟩ := bs hb; exact ⟨⟨[.fro (webD web_), .fro ((p2 (tC nD) (tC nD)) plan_), .fro ((lC nD) other_roads_2), .fro ((lC (p2 D.str nD)) sum_7), .non, .fro ((p2 D.str nD) x_8)], st⟩, ⟨[.fro (webD web_), .fro ((p2 (tC nD) (tC nD)) plan_), .fro ((lC nD) other_roads_2), .fro ((lC (p2 D.str nD)) sum_7), .non, .fro ((p2 D.str nD) x_8)], st⟩, rfl, B_as (B_tru (O_vf (E_call (A_f (E_name rfl) (A_f (E_call (A_f (E_name rfl) (A_f (E_name rfl) A_nil)) (q_taken plan_ x_8 htaken_9 _)) A_nil)) (q_holds web_ taken_9 hholds_10 _))) rfl) (Option.some.inj hb), rfl, fun _ yy hq => by skip; exact ⟨_, ⟨[.fro (webD web_), .fro ((p2 (tC nD) (tC nD)) plan_), .fro ((lC nD) other_roads_2), .fro ((lC (p2 D.str nD)) sum_7), .non, .fro ((p2 D.str nD) x_8)], st⟩, (E_name rfl), congrArg (p2 D.str nD) (Option.some.inj hq), rfl⟩⟩)) ?_
  have he := Option.some.inj hp
  exact ⟨congrArg (fun z => Out.rt (RV.own ((lC (p2 D.str nD)) z))) he, rfl⟩
theorem q_law (script_ : (List Int)) {r : (Bool × List Cell)} (hp : p_law script_ = some r) : m_law [D.scr script_] [] = some (.fro (D.bl r.1), r.2) := by
  refine fn_R rfl ?_
  show S ev_law ⟨[.fro (D.scr script_), .non, .non, .non, .non, .non, .non, .non, .non, .non, .non, .non, .non, .non], []⟩ _
  unfold ev_law
  unfold p_law at hp
  obtain ⟨st_1, hst_1, hp⟩ := bs hp
  obtain ⟨pd, hpd, hpe⟩ := openP_of hst_1
  refine S_seq (S_setC (env' := [.fro (D.scr script_), .fro (.hd 0), .non, .non, .non, .non, .non, .non, .non, .non, .non, .non, .non, .non]) (E_call (A_f (E_name rfl) A_nil) hpd) rfl hpe ?_)
  obtain ⟨rng_2, hrng_2, hp⟩ := bs hp
  obtain ⟨c_64, hc_64, hp⟩ := bs hp
  refine S_seq (S_forC nD (fun (v_3 : List Cell) (g_4 : Slot × Slot × Slot × Slot × Slot × Slot × Slot × Slot × Slot × Slot × Slot × Slot × Unit) => (⟨[.fro (D.scr script_), .fro (.hd 0), g_4.1, g_4.2.1, g_4.2.2.1, g_4.2.2.2.1, g_4.2.2.2.2.1, g_4.2.2.2.2.2.1, g_4.2.2.2.2.2.2.1, g_4.2.2.2.2.2.2.2.1, g_4.2.2.2.2.2.2.2.2.1, g_4.2.2.2.2.2.2.2.2.2.1, g_4.2.2.2.2.2.2.2.2.2.2.1, g_4.2.2.2.2.2.2.2.2.2.2.2.1], v_3⟩ : Sg)) (fun (r : Bool × List Cell) rv (s' : Sg) => rv = RV.fro (D.bl r.1) ∧ s'.st = r.2) (.non, .non, .non, .non, .non, .non, .non, .non, .non, .non, .non, .non, ()) (I_rng1 (A_f (E_n 3 rfl) A_nil) hrng_2) rfl hc_64 (fun x_5 v_3 c' g_4 hp => ?_) (fun r_65 rv s' hcr hrr => ?_) (fun w_62 g_63 hcr => ?_))
  · refine ⟨⟨[.fro (D.scr script_), .fro (.hd 0), .fro (nD x_5), g_4.2.1, g_4.2.2.1, g_4.2.2.2.1, g_4.2.2.2.2.1, g_4.2.2.2.2.2.1, g_4.2.2.2.2.2.2.1, g_4.2.2.2.2.2.2.2.1, g_4.2.2.2.2.2.2.2.2.1, g_4.2.2.2.2.2.2.2.2.2.1, g_4.2.2.2.2.2.2.2.2.2.2.1, g_4.2.2.2.2.2.2.2.2.2.2.2.1], v_3⟩, rfl, ?_⟩
    obtain ⟨c_9, hc_9, hp⟩ := bs hp
    refine S_seq (S_set (env' := [.fro (D.scr script_), .fro (.hd 0), .fro (nD x_5), .fro (webD c_9.1), g_4.2.2.1, g_4.2.2.2.1, g_4.2.2.2.2.1, g_4.2.2.2.2.2.1, g_4.2.2.2.2.2.2.1, g_4.2.2.2.2.2.2.2.1, g_4.2.2.2.2.2.2.2.2.1, g_4.2.2.2.2.2.2.2.2.2.1, g_4.2.2.2.2.2.2.2.2.2.2.1, g_4.2.2.2.2.2.2.2.2.2.2.2.1]) (E_ite (r := .fro (webD c_9.1)) (s2 := ⟨[.fro (D.scr script_), .fro (.hd 0), .fro (nD x_5), g_4.2.1, g_4.2.2.1, g_4.2.2.2.1, g_4.2.2.2.2.1, g_4.2.2.2.2.2.1, g_4.2.2.2.2.2.2.1, g_4.2.2.2.2.2.2.2.1, g_4.2.2.2.2.2.2.2.2.1, g_4.2.2.2.2.2.2.2.2.2.1, g_4.2.2.2.2.2.2.2.2.2.2.1, g_4.2.2.2.2.2.2.2.2.2.2.2.1], c_9.2⟩) (B_B (E_2 (O_slot rfl) (O_vf (E_n 0 rfl)) (o_gtN _ _))) (fun hc => by have hq := ite_t hc hc_9; obtain ⟨it_6, hit_6, hq⟩ := bs hq; obtain ⟨draw_near_fixed_7, hdraw_near_fixed_7, hq⟩ := bs hq; have he := Option.some.inj hq; subst he; exact (E_callS (s' := ⟨[.fro (D.scr script_), .fro (.hd 0), .fro (nD x_5), g_4.2.1, g_4.2.2.1, g_4.2.2.2.1, g_4.2.2.2.2.1, g_4.2.2.2.2.2.1, g_4.2.2.2.2.2.2.1, g_4.2.2.2.2.2.2.2.1, g_4.2.2.2.2.2.2.2.2.1, g_4.2.2.2.2.2.2.2.2.2.1, g_4.2.2.2.2.2.2.2.2.2.2.1, g_4.2.2.2.2.2.2.2.2.2.2.2.1], draw_near_fixed_7.2⟩) (A_f (E_name rfl) (A_f (E_n 6 rfl) (A_f (E_2 (O_vo (E_lst (A_f (E_n 8 rfl) (A_f (E_n 8 rfl) (A_f (E_n 10 rfl) A_nil))) rfl)) (O_slot rfl) (o_ixL (f := nD) hit_6)) A_nil))) (q__law_draw_near_fixed (6 : Nat) it_6 hdraw_near_fixed_7) rfl)) (fun hc => by have hq := ite_f hc hc_9; obtain ⟨draw_web_8, hdraw_web_8, hq⟩ := bs hq; have he := Option.some.inj hq; subst he; exact (E_callS (s' := ⟨[.fro (D.scr script_), .fro (.hd 0), .fro (nD x_5), g_4.2.1, g_4.2.2.1, g_4.2.2.2.1, g_4.2.2.2.2.1, g_4.2.2.2.2.2.1, g_4.2.2.2.2.2.2.1, g_4.2.2.2.2.2.2.2.1, g_4.2.2.2.2.2.2.2.2.1, g_4.2.2.2.2.2.2.2.2.2.1, g_4.2.2.2.2.2.2.2.2.2.2.1, g_4.2.2.2.2.2.2.2.2.2.2.2.1], draw_web_8.2⟩) (A_f (E_name rfl) (A_f (E_n 6 rfl) (A_f (E_n 10 rfl) A_nil))) (q__law_draw_web (6 : Nat) (10 : Nat) hdraw_web_8) rfl))) rfl ?_)
    obtain ⟨mul_10, hmul_10, hp⟩ := bs hp
    obtain ⟨draw_plan_11, hdraw_plan_11, hp⟩ := bs hp
    refine S_seq (S_set (env' := [.fro (D.scr script_), .fro (.hd 0), .fro (nD x_5), .fro (webD c_9.1), .fro ((p2 (tC nD) (tC nD)) draw_plan_11.1), g_4.2.2.2.1, g_4.2.2.2.2.1, g_4.2.2.2.2.2.1, g_4.2.2.2.2.2.2.1, g_4.2.2.2.2.2.2.2.1, g_4.2.2.2.2.2.2.2.2.1, g_4.2.2.2.2.2.2.2.2.2.1, g_4.2.2.2.2.2.2.2.2.2.2.1, g_4.2.2.2.2.2.2.2.2.2.2.2.1]) (E_callS (s' := ⟨[.fro (D.scr script_), .fro (.hd 0), .fro (nD x_5), .fro (webD c_9.1), g_4.2.2.1, g_4.2.2.2.1, g_4.2.2.2.2.1, g_4.2.2.2.2.2.1, g_4.2.2.2.2.2.2.1, g_4.2.2.2.2.2.2.2.1, g_4.2.2.2.2.2.2.2.2.1, g_4.2.2.2.2.2.2.2.2.2.1, g_4.2.2.2.2.2.2.2.2.2.2.1, g_4.2.2.2.2.2.2.2.2.2.2.2.1], draw_plan_11.2⟩) (A_f (E_name rfl) (A_f (E_name rfl) (A_f (E_2 (O_vf (E_n 2 rfl)) (O_slot rfl) (o_mulN hmul_10)) A_nil))) (q__law_draw_plan c_9.1 mul_10 hdraw_plan_11) rfl) rfl ?_)
    obtain ⟨rep_12, hrep_12, hp⟩ := bs hp
    refine S_seq (S_par (env' := [.fro (D.scr script_), .fro (.hd 0), .fro (nD x_5), .fro (webD c_9.1), .fro ((p2 (tC nD) (tC nD)) draw_plan_11.1), .fro (D.str rep_12), .own ((lC (p2 D.str nD)) ([] : List (Str × Nat))), g_4.2.2.2.2.2.1, g_4.2.2.2.2.2.2.1, g_4.2.2.2.2.2.2.2.1, g_4.2.2.2.2.2.2.2.2.1, g_4.2.2.2.2.2.2.2.2.2.1, g_4.2.2.2.2.2.2.2.2.2.2.1, g_4.2.2.2.2.2.2.2.2.2.2.2.1]) (E_N (L_cons (O_vf (E_tup (A_f (E_name rfl) (A_f (E_name rfl) A_nil)) rfl)) L_nil) (o_repr hrep_12)) (E_lst A_nil rfl) rfl ?_)
    obtain ⟨c_45, hc_45, hp⟩ := bs hp
    refine S_seq (S_forC D.str (fun (v_13 : (List (Str × Nat))) (g_14 : Slot × Slot × Slot × Slot × Slot × Unit) => (⟨[.fro (D.scr script_), .fro (.hd 0), .fro (nD x_5), .fro (webD c_9.1), .fro ((p2 (tC nD) (tC nD)) draw_plan_11.1), .fro (D.str rep_12), .own ((lC (p2 D.str nD)) v_13), g_14.1, g_14.2.1, g_14.2.2.1, g_14.2.2.2.1, g_14.2.2.2.2.1, g_4.2.2.2.2.2.2.2.2.2.2.1, g_4.2.2.2.2.2.2.2.2.2.2.2.1], draw_plan_11.2⟩ : Sg)) (fun (r : Bool × List Cell) rv (s' : Sg) => rv = RV.fro (D.bl r.1) ∧ s'.st = r.2) (g_4.2.2.2.2.2.1, g_4.2.2.2.2.2.2.1, g_4.2.2.2.2.2.2.2.1, g_4.2.2.2.2.2.2.2.2.1, g_4.2.2.2.2.2.2.2.2.2.1, ()) (I_seq (E_lst (A_f E_c (A_f E_c A_nil)) rfl) rfl) rfl hc_45 (fun x_15 v_13 c' g_14 hp => ?_) (fun r_46 rv s' hcr hrr => ?_) (fun w_43 g_44 hcr => ?_))
    · refine ⟨⟨[.fro (D.scr script_), .fro (.hd 0), .fro (nD x_5), .fro (webD c_9.1), .fro ((p2 (tC nD) (tC nD)) draw_plan_11.1), .fro (D.str rep_12), .own ((lC (p2 D.str nD)) v_13), .fro (D.str x_15), g_14.2.1, g_14.2.2.1, g_14.2.2.2.1, g_14.2.2.2.2.1, g_4.2.2.2.2.2.2.2.2.2.2.1, g_4.2.2.2.2.2.2.2.2.2.2.2.1], draw_plan_11.2⟩, rfl, ?_⟩
      obtain ⟨rng_16, hrng_16, hp⟩ := bs hp
      obtain ⟨c_41, hc_41, hp⟩ := bs hp
      refine S_forC nD (fun (v_17 : (List (Str × Nat))) (g_18 : Slot × Slot × Slot × Slot × Unit) => (⟨[.fro (D.scr script_), .fro (.hd 0), .fro (nD x_5), .fro (webD c_9.1), .fro ((p2 (tC nD) (tC nD)) draw_plan_11.1), .fro (D.str rep_12), .own ((lC (p2 D.str nD)) v_17), .fro (D.str x_15), g_18.1, g_18.2.1, g_18.2.2.1, g_18.2.2.2.1, g_4.2.2.2.2.2.2.2.2.2.2.1, g_4.2.2.2.2.2.2.2.2.2.2.2.1], draw_plan_11.2⟩ : Sg)) (fun (r : Bool × List Cell) rv (s' : Sg) => rv = RV.fro (D.bl r.1) ∧ s'.st = r.2) (g_14.2.1, g_14.2.2.1, g_14.2.2.2.1, g_14.2.2.2.2.1, ()) (I_rng1 (A_f (E_N (L_cons (O_vf (E_2 (O_slot rfl) (O_vf (E_n 1 rfl)) rfl)) L_nil) (o_lenT (f := rdD) _)) A_nil) hrng_16) rfl hc_41 (fun x_19 v_17 c' g_18 hp => ?_) (fun r_42 rv s' hcr hrr => ?_) (fun w_39 g_40 hcr => ?_)
      · refine ⟨⟨[.fro (D.scr script_), .fro (.hd 0), .fro (nD x_5), .fro (webD c_9.1), .fro ((p2 (tC nD) (tC nD)) draw_plan_11.1), .fro (D.str rep_12), .own ((lC (p2 D.str nD)) v_17), .fro (D.str x_15), .fro (nD x_19), g_18.2.1, g_18.2.2.1, g_18.2.2.2.1, g_4.2.2.2.2.2.2.2.2.2.2.1, g_4.2.2.2.2.2.2.2.2.2.2.2.1], draw_plan_11.2⟩, rfl, ?_⟩
        obtain ⟨sum_20, hsum_20, hp⟩ := bs hp
        refine S_if (B_B (E_2 (O_slot rfl) (O_vf (E_2 (O_vf (E_2 (O_slot rfl) (O_vf (E_n 0 rfl)) rfl)) (O_vf (E_2 (O_slot rfl) (O_vf (E_n 1 rfl)) rfl)) (o_addT (f := nD) hsum_20))) (o_ninT (f := nD) x_19 sum_20))) (fun hb_21 => ?_) (fun hb_21 => ?_)
        · have hp := ite_t hb_21 hp
          obtain ⟨taken_22, htaken_22, hp⟩ := bs hp
          refine S_seq (S_set (env' := [.fro (D.scr script_), .fro (.hd 0), .fro (nD x_5), .fro (webD c_9.1), .fro ((p2 (tC nD) (tC nD)) draw_plan_11.1), .fro (D.str rep_12), .own ((lC (p2 D.str nD)) v_17), .fro (D.str x_15), .fro (nD x_19), .fro ((p2 (tC nD) (tC nD)) taken_22), g_18.2.2.1, g_18.2.2.2.1, g_4.2.2.2.2.2.2.2.2.2.2.1, g_4.2.2.2.2.2.2.2.2.2.2.2.1]) (E_call (A_f (E_name rfl) (A_f (E_name rfl) (A_f (E_name rfl) A_nil))) (q__law_taken draw_plan_11.1 x_15 x_19 htaken_22 _)) rfl ?_)
          obtain ⟨holds_23, hholds_23, hp⟩ := bs hp
          refine S_seq (S_set (env' := [.fro (D.scr script_), .fro (.hd 0), .fro (nD x_5), .fro (webD c_9.1), .fro ((p2 (tC nD) (tC nD)) draw_plan_11.1), .fro (D.str rep_12), .own ((lC (p2 D.str nD)) v_17), .fro (D.str x_15), .fro (nD x_19), .fro ((p2 (tC nD) (tC nD)) taken_22), .fro (D.bl holds_23), g_18.2.2.2.1, g_4.2.2.2.2.2.2.2.2.2.2.1, g_4.2.2.2.2.2.2.2.2.2.2.2.1]) (E_call (A_f (E_name rfl) (A_f (E_name rfl) A_nil)) (q__law_holds c_9.1 taken_22 hholds_23 _)) rfl ?_)
          obtain ⟨rpt_24, hrpt_24, hp⟩ := bs hp
          obtain ⟨sum_25, hsum_25, hp⟩ := bs hp
          refine S_seq (S_set (env' := [.fro (D.scr script_), .fro (.hd 0), .fro (nD x_5), .fro (webD c_9.1), .fro ((p2 (tC nD) (tC nD)) draw_plan_11.1), .fro (D.str rep_12), .own ((lC (p2 D.str nD)) sum_25), .fro (D.str x_15), .fro (nD x_19), .fro ((p2 (tC nD) (tC nD)) taken_22), .fro (D.bl holds_23), g_18.2.2.2.1, g_4.2.2.2.2.2.2.2.2.2.2.1, g_4.2.2.2.2.2.2.2.2.2.2.2.1]) (E_2 (O_slot rfl) (O_vo (E_2 (O_vo (E_lst (A_f (E_tup (A_f (E_name rfl) (A_f (E_name rfl) A_nil)) rfl) A_nil) rfl)) (O_vf (E_N (L_cons (O_slot rfl) L_nil) (o_intB _))) (o_mulL (f := (p2 D.str nD)) hrpt_24))) (o_addL (f := (p2 D.str nD)) hsum_25)) rfl ?_)
          obtain ⟨find_against_26, hfind_against_26, hp⟩ := bs hp
          obtain ⟨told_27, htold_27, hp⟩ := bs hp
          replace htold_27 := Option.some.inj htold_27
          refine S_seq (S_set (env' := [.fro (D.scr script_), .fro (.hd 0), .fro (nD x_5), .fro (webD c_9.1), .fro ((p2 (tC nD) (tC nD)) draw_plan_11.1), .fro (D.str rep_12), .own ((lC (p2 D.str nD)) sum_25), .fro (D.str x_15), .fro (nD x_19), .fro ((p2 (tC nD) (tC nD)) taken_22), .fro (D.bl holds_23), .fro ((oC (tC nD)) told_27), g_4.2.2.2.2.2.2.2.2.2.2.1, g_4.2.2.2.2.2.2.2.2.2.2.2.1]) (E_as (E_call (A_f (E_name rfl) (A_f (E_name rfl) (A_f (E_tup (A_f (E_name rfl) (A_f (E_name rfl) A_nil)) rfl) A_nil))) (q_find_against c_9.1 draw_plan_11.1 (x_15, x_19) hfind_against_26 _)) (congrArg (fun z => RV.fro ((oC (tC nD)) z)) htold_27)) rfl ?_)
          obtain ⟨taken_28, htaken_28, hp⟩ := bs hp
          obtain ⟨same_29, hsame_29, hp⟩ := bs hp
          refine S_seq (S_if (B_or (B_not (B_tru (O_vf (E_quiet (env := [(quietSlot (.fro (D.scr script_))), (quietSlot (.fro (.hd 0))), (quietSlot (.fro (nD x_5))), (quietSlot (.fro (webD c_9.1))), .fro ((p2 (tC nD) (tC nD)) draw_plan_11.1), (quietSlot (.fro (D.str rep_12))), (quietSlot (.own ((lC (p2 D.str nD)) sum_25))), .fro (D.str x_15), .fro (nD x_19), .fro ((p2 (tC nD) (tC nD)) taken_22), (quietSlot (.fro (D.bl holds_23))), (quietSlot (.fro ((oC (tC nD)) told_27))), (quietSlot (g_4.2.2.2.2.2.2.2.2.2.2.1)), (quietSlot (g_4.2.2.2.2.2.2.2.2.2.2.2.1))]) (QE.skip (QE.skip (QE.skip (QE.skip (QE.fro (QE.skip (QE.skip (QE.fro (QE.fro (QE.fro (QE.skip (QE.skip (QE.skip (QE.skip QE.nil)))))))))))))) (E_call (A_f (E_call (A_f (E_name rfl) (A_f (E_tup (A_f (E_name rfl) (A_f (E_name rfl) A_nil)) rfl) A_nil)) (q_taken draw_plan_11.1 (x_15, x_19) htaken_28 _)) (A_f (E_name rfl) A_nil)) (q_same (a := taken_28) (b := taken_22) hsame_29 _)))) rfl)) (B_B (E_2 (O_vf (E_2 (O_slot rfl) (O_vf E_c) (o_isN (f := (tC nD)) _))) (O_slot rfl) (o_ne (f := D.bl) told_27.isNone holds_23)))) (fun hb_30 => ?_) (fun hb_30 => ?_))
          · have hp := ite_t hb_30 hp
            refine S_ret E_c ?_
            have he := Option.some.inj hp
            subst he
            exact ⟨_, rfl, rfl, rfl⟩
          · have hp := ite_f hb_30 hp
            obtain ⟨find_against_31, hfind_against_31, hp⟩ := bs hp
            refine S_pass ?_
            refine S_seq (S_if (B_B (E_2 (O_vf (E_call (A_f (E_name rfl) (A_f (E_name rfl) (A_f (E_tup (A_f (E_name rfl) (A_f (E_name rfl) A_nil)) rfl) A_nil))) (q_find_against c_9.1 draw_plan_11.1 (x_15, x_19) hfind_against_31 _))) (O_slot rfl) (o_ne (f := (oC (tC nD))) find_against_31 told_27))) (fun hb_32 => ?_) (fun hb_32 => ?_))
            · have hp := ite_t hb_32 hp
              refine S_ret E_c ?_
              have he := Option.some.inj hp
              subst he
              exact ⟨_, rfl, rfl, rfl⟩
            · have hp := ite_f hb_32 hp
              obtain ⟨t_37, ht_37, hp⟩ := bs hp
              refine S_pass ?_
              refine S_if (B_andP (B_B (E_2 (O_slot rfl) (O_vf E_c) (o_isnN (f := (tC nD)) _))) ht_37 (fun _ hq => (by obtain ⟨told_33, htold_33, hq⟩ := bs hq; obtain ⟨fits_34, hfits_34, hq⟩ := bs hq; obtain ⟨t_36, ht_36, hq⟩ := bs hq; exact B_as (B_env (s2 := ⟨[.fro (D.scr script_), .fro (.hd 0), .fro (nD x_5), .fro (webD c_9.1), .fro ((p2 (tC nD) (tC nD)) draw_plan_11.1), .fro (D.str rep_12), .own ((lC (p2 D.str nD)) sum_25), .fro (D.str x_15), .fro (nD x_19), .fro ((p2 (tC nD) (tC nD)) taken_22), .fro (D.bl holds_23), .fro ((tC nD) told_33), g_4.2.2.2.2.2.2.2.2.2.2.1, g_4.2.2.2.2.2.2.2.2.2.2.2.1], draw_plan_11.2⟩) (by simp only [htold_33]; first | done | rfl) (B_orP (B_not (B_tru (O_vf (E_call (A_f (E_name rfl) (A_f (E_name rfl) A_nil)) (q__law_fits c_9.1 told_33 hfits_34 _))) rfl)) ht_36 (fun _ hq => (by obtain ⟨serves_35, hserves_35, hq⟩ := bs hq; exact B_as (B_tru (O_vf (E_call (A_f (E_name rfl) (A_f (E_name rfl) (A_f (E_name rfl) A_nil))) (q__law_serves c_9.1 taken_22 told_33 hserves_35 _))) rfl) (Option.some.inj hq))))) (Option.some.inj hq)))) (fun hb_38 => ?_) (fun hb_38 => ?_)
              · have hp := ite_t hb_38 hp
                refine S_ret E_c ?_
                have he := Option.some.inj hp
                subst he
                exact ⟨_, rfl, rfl, rfl⟩
              · have hp := ite_f hb_38 hp
                refine S_pass ?_
                have he := Option.some.inj hp
                subst he
                exact ⟨.inl rfl, (.fro (nD x_19), .fro ((p2 (tC nD) (tC nD)) taken_22), .fro (D.bl holds_23), .fro ((oC (tC nD)) told_27), ()), rfl⟩
        · have hp := ite_f hb_21 hp
          refine S_pass ?_
          have he := Option.some.inj hp
          subst he
          exact ⟨.inl rfl, (.fro (nD x_19), g_18.2.1, g_18.2.2.1, g_18.2.2.2.1, ()), rfl⟩
      · subst hcr
        obtain ⟨rfl, hst⟩ := hrr
        have he := Option.some.inj hp
        subst he
        exact ⟨_, rfl, rfl, hst⟩
      · subst hcr
        have hp := (contC_r _ _ _).symm.trans hp
        have he := Option.some.inj hp
        subst he
        exact ⟨.inl rfl, (.fro (D.str x_15), g_40.1, g_40.2.1, g_40.2.2.1, g_40.2.2.2.1, ()), rfl⟩
    · subst hcr
      obtain ⟨rfl, hst⟩ := hrr
      have he := Option.some.inj hp
      subst he
      exact ⟨_, rfl, rfl, hst⟩
    · subst hcr
      have hp := (contC_r _ _ _).symm.trans hp
      obtain ⟨rng_47, hrng_47, hp⟩ := bs hp
      obtain ⟨c_60, hc_60, hp⟩ := bs hp
      refine S_forC nD (fun (v_48 : Unit) (g_49 : Slot × Slot × Unit) => (⟨[.fro (D.scr script_), .fro (.hd 0), .fro (nD x_5), .fro (webD c_9.1), .fro ((p2 (tC nD) (tC nD)) draw_plan_11.1), .fro (D.str rep_12), .own ((lC (p2 D.str nD)) w_43), g_44.1, g_44.2.1, g_44.2.2.1, g_44.2.2.2.1, g_44.2.2.2.2.1, g_49.1, g_49.2.1], draw_plan_11.2⟩ : Sg)) (fun (r : Bool × List Cell) rv (s' : Sg) => rv = RV.fro (D.bl r.1) ∧ s'.st = r.2) (g_4.2.2.2.2.2.2.2.2.2.2.1, g_4.2.2.2.2.2.2.2.2.2.2.2.1, ()) (I_rng1 (A_f (E_n 2 rfl) A_nil) hrng_47) rfl hc_60 (fun x_50 v_48 c' g_49 hp => ?_) (fun r_61 rv s' hcr hrr => ?_) (fun w_58 g_59 hcr => ?_)
      · refine ⟨⟨[.fro (D.scr script_), .fro (.hd 0), .fro (nD x_5), .fro (webD c_9.1), .fro ((p2 (tC nD) (tC nD)) draw_plan_11.1), .fro (D.str rep_12), .own ((lC (p2 D.str nD)) w_43), g_44.1, g_44.2.1, g_44.2.2.1, g_44.2.2.2.1, g_44.2.2.2.2.1, .fro (nD x_50), g_49.2.1], draw_plan_11.2⟩, rfl, ?_⟩
        obtain ⟨options_51, hoptions_51, hp⟩ := bs hp
        obtain ⟨some_52, hsome_52, hp⟩ := bs hp
        replace hsome_52 := Option.some.inj hsome_52
        refine S_seq (S_set (env' := [.fro (D.scr script_), .fro (.hd 0), .fro (nD x_5), .fro (webD c_9.1), .fro ((p2 (tC nD) (tC nD)) draw_plan_11.1), .fro (D.str rep_12), .own ((lC (p2 D.str nD)) w_43), g_44.1, g_44.2.1, g_44.2.2.1, g_44.2.2.2.1, g_44.2.2.2.2.1, .fro (nD x_50), .own ((lC (oC (p2 D.str nD))) some_52)]) (E_as (E_castO (lC_some (p2 D.str nD) options_51) (E_call (A_f (E_name rfl) (A_f (E_name rfl) A_nil)) (q_options c_9.1 draw_plan_11.1 hoptions_51 _))) (congrArg (fun z => RV.own ((lC (oC (p2 D.str nD))) z)) hsome_52)) rfl ?_)
        obtain ⟨same_53, hsame_53, hp⟩ := bs hp
        obtain ⟨t_55, ht_55, hp⟩ := bs hp
        refine S_seq (S_if (B_orP (B_not (B_tru (O_vf (E_quiet (env := [(quietSlot (.fro (D.scr script_))), (quietSlot (.fro (.hd 0))), (quietSlot (.fro (nD x_5))), (quietSlot (.fro (webD c_9.1))), (quietSlot (.fro ((p2 (tC nD) (tC nD)) draw_plan_11.1))), (quietSlot (.fro (D.str rep_12))), .fro ((lC (p2 D.str nD)) w_43), (quietSlot (g_44.1)), (quietSlot (g_44.2.1)), (quietSlot (g_44.2.2.1)), (quietSlot (g_44.2.2.2.1)), (quietSlot (g_44.2.2.2.2.1)), (quietSlot (.fro (nD x_50))), .fro ((lC (oC (p2 D.str nD))) some_52)]) (QE.skip (QE.skip (QE.skip (QE.skip (QE.skip (QE.skip (QE.own (QE.skip (QE.skip (QE.skip (QE.skip (QE.skip (QE.skip (QE.own QE.nil)))))))))))))) (E_call (A_f (E_name rfl) (A_f (E_castF (lC_some (p2 D.str nD) w_43) (E_name rfl)) A_nil)) (q_same (a := some_52) (b := (w_43.map some)) hsame_53 _)))) rfl)) ht_55 (fun _ hq => (by obtain ⟨rep_54, hrep_54, hq⟩ := bs hq; exact B_as (B_B (E_2 (O_vf (E_N (L_cons (O_vf (E_tup (A_f (E_name rfl) (A_f (E_name rfl) A_nil)) rfl)) L_nil) (o_repr hrep_54))) (O_slot rfl) (o_neS _ _))) (Option.some.inj hq)))) (fun hb_56 => ?_) (fun hb_56 => ?_))
        · have hp := ite_t hb_56 hp
          refine S_ret E_c ?_
          have he := Option.some.inj hp
          subst he
          exact ⟨_, rfl, rfl, rfl⟩
        · have hp := ite_f hb_56 hp
          obtain ⟨some_57, hsome_57, hp⟩ := bs hp
          refine S_pass ?_
          refine S_dropM (M_mut (env' := [.fro (D.scr script_), .fro (.hd 0), .fro (nD x_5), .fro (webD c_9.1), .fro ((p2 (tC nD) (tC nD)) draw_plan_11.1), .fro (D.str rep_12), .own ((lC (p2 D.str nD)) w_43), g_44.1, g_44.2.1, g_44.2.2.1, g_44.2.2.2.1, g_44.2.2.2.2.1, .fro (nD x_50), .own ((lC (oC (p2 D.str nD))) some_57)]) rfl rfl (A_f E_c A_nil) rfl (o_app (f := (oC (p2 D.str nD))) hsome_57) rfl) ?_
          have he := Option.some.inj hp
          subst he
          exact ⟨.inl rfl, (.fro (nD x_50), .own ((lC (oC (p2 D.str nD))) some_57), ()), rfl⟩
      · subst hcr
        obtain ⟨rfl, hst⟩ := hrr
        have he := Option.some.inj hp
        subst he
        exact ⟨_, rfl, rfl, hst⟩
      · subst hcr
        have hp := (contC_r _ _ _).symm.trans hp
        have he := Option.some.inj hp
        subst he
        exact ⟨.inl rfl, (.fro (nD x_5), .fro (webD c_9.1), .fro ((p2 (tC nD) (tC nD)) draw_plan_11.1), .fro (D.str rep_12), .own ((lC (p2 D.str nD)) w_43), g_44.1, g_44.2.1, g_44.2.2.1, g_44.2.2.2.1, g_44.2.2.2.2.1, g_59.1, g_59.2.1, ()), rfl⟩
  · subst hcr
    obtain ⟨rfl, hst⟩ := hrr
    have he := Option.some.inj hp
    subst he
    exact ⟨rfl, hst⟩
  · subst hcr
    have hp := (contC_r _ _ _).symm.trans hp
    refine S_ret E_c ?_
    have he := Option.some.inj hp
    subst he
    exact ⟨rfl, rfl⟩
end G

namespace G
open PySem PySem.Spec L2 Pv
section
variable {α β σ R τ : Type}
theorem lcG_eq {c : α → Option Bool} {e : α → Option β} {p : α → Bool} {f : α → β} : ∀ {xs : List α}, (∀ x ∈ xs, c x = some (p x)) → (∀ x ∈ xs, p x = true → e x = some (f x)) → lcG c e xs = some ((xs.filter p).map f)
  | [], _, _ => rfl
  | x :: xs, h1, h2 => by
    unfold lcG
    rw [h1 x (.head _), Option.bind_some]
    have ih := lcG_eq (xs := xs) (fun y hy => h1 y (.tail _ hy)) fun y hy => h2 y (.tail _ hy)
    cases hp : p x with
    | true => rw [if_pos rfl, h2 x (.head _) hp, Option.bind_some, ih, List.filter_cons_of_pos hp]; rfl
    | false => rw [if_neg (by simp), ih, List.filter_cons_of_neg (by simp [hp])]
theorem lcP_eq {c : α → Option Bool} {e : α → Option β} {xs : List α} (p : α → Bool) (f : α → β) (hl : xs.length ≤ 1000000) (h1 : ∀ x ∈ xs, c x = some (p x)) (h2 : ∀ x ∈ xs, p x = true → e x = some (f x)) : lcP c e xs = some ((xs.filter p).map f) := by
  unfold lcP; rw [if_pos hl, lcG_eq h1 h2]
theorem lcP_filter {c : α → Option Bool} {xs : List α} (p : α → Bool) (hl : xs.length ≤ 1000000) (h1 : ∀ x ∈ xs, c x = some (p x)) : lcP c (fun x => some x) xs = some (xs.filter p) := by
  have := lcP_eq (e := fun x => some x) p id hl h1 fun x _ _ => rfl
  rw [List.map_id] at this
  exact this
theorem lcP_map {e : α → Option β} {xs : List α} (f : α → β) (hl : xs.length ≤ 1000000) (h2 : ∀ x ∈ xs, e x = some (f x)) : lcP (fun _ => some true) e xs = some (xs.map f) := by
  rw [lcP_eq (fun _ => true) f hl (fun _ _ => rfl) fun x hx _ => h2 x hx, List.filter_eq_self.mpr fun _ _ => rfl]
theorem lcT_eq {p : α → Bool} {f : α → β} {xs : List α} (hl : xs.length ≤ 1000000) : lcT p f xs = some ((xs.filter p).map f) := if_pos hl
theorem lcT_filter {p : α → Bool} {xs : List α} (hl : xs.length ≤ 1000000) : lcT p (fun x => x) xs = some (xs.filter p) := by
  rw [lcT_eq hl]; simp
theorem lcT_map {f : α → β} {xs : List α} (hl : xs.length ≤ 1000000) : lcT (fun _ => true) f xs = some (xs.map f) := by
  rw [lcT_eq hl, List.filter_eq_self.mpr fun _ _ => rfl]
theorem rngP_eq {n : Nat} (h : n ≤ 1000000) : rngP n = some (List.range n) := if_pos h
theorem rng2P_eq {a b : Nat} (h : a ≤ 1000000) (h2 : b ≤ 1000000) : rng2P a b = some (List.range' a (b - a)) := if_pos ⟨h, h2⟩
theorem appP_eq {xs : List α} {x : α} (h : xs.length < 1000000) : appP xs x = some (xs ++ [x]) := if_pos h
theorem addP_eq {xs ys : List α} (h : xs.length + ys.length ≤ 1000000) : addP xs ys = some (xs ++ ys) := if_pos h
theorem insP_eq {xs : List α} {i : Nat} {x : α} (h : xs.length < 1000000) (hi : i < 1000000) : insP xs i x = some (xs.take i ++ [x] ++ xs.drop i) := if_pos ⟨h, hi⟩
theorem numd_len (xs : List α) : (numd xs).length = xs.length := by simp [numd]
theorem numd_get (xs : List α) (i : Nat) : (numd xs)[i]? = xs[i]?.map fun x => (i, x) := by
  unfold numd
  by_cases h : i < xs.length
  · rw [List.getElem?_eq_getElem (by simpa using h), List.getElem?_eq_getElem h]
    simp
  · rw [List.getElem?_eq_none (by simp; omega), List.getElem?_eq_none (by omega)]; rfl
theorem forP_inv (I : Nat → σ → Prop) {b : α → σ → Option σ} : ∀ (xs : List α) (k : Nat) (v : σ), I k v → (∀ i x v, xs[i]? = some x → I (k + i) v → ∃ w, b x v = some w ∧ I (k + i + 1) w) → ∃ w, forP b xs v = some w ∧ I (k + xs.length) w
  | [], k, v, h, _ => ⟨v, rfl, h⟩
  | x :: xs, k, v, h, hs => by
    obtain ⟨w, e, hw⟩ := hs 0 x v rfl h
    obtain ⟨u, e2, hu⟩ := forP_inv I xs (k + 1) w hw fun i y v hy hv => by
      rw [show k + 1 + i = k + (i + 1) by omega] at hv ⊢
      exact hs (i + 1) y v hy hv
    refine ⟨u, ?_, by rw [List.length_cons, show k + (xs.length + 1) = k + 1 + xs.length by omega]; exact hu⟩
    show (b x v).bind _ = _
    rw [e, Option.bind_some, e2]
theorem forP_I (I : Nat → σ → Prop) {b : α → σ → Option σ} {xs : List α} {v : σ} (h : I 0 v) (hs : ∀ i x v, xs[i]? = some x → I i v → ∃ w, b x v = some w ∧ I (i + 1) w) : ∃ w, forP b xs v = some w ∧ I xs.length w := by
  obtain ⟨w, e, q⟩ := forP_inv I xs 0 v h fun i x v hx hv => by
    rw [Nat.zero_add] at hv ⊢; exact hs i x v hx hv
  exact ⟨w, e, by simpa using q⟩
/-- a loop that is a fold -/
theorem forP_fold {b : α → σ → Option σ} (g : σ → α → σ) (I : σ → Prop) : ∀ (xs : List α) (v : σ), I v → (∀ x ∈ xs, ∀ v, I v → b x v = some (g v x) ∧ I (g v x)) → forP b xs v = some (xs.foldl g v) ∧ I (xs.foldl g v)
  | [], v, h, _ => ⟨rfl, h⟩
  | x :: xs, v, h, hs => by
    obtain ⟨e, q⟩ := hs x (.head _) v h
    obtain ⟨e2, q2⟩ := forP_fold g I xs (g v x) q fun y hy => hs y (.tail _ hy)
    refine ⟨?_, q2⟩
    show (b x v).bind _ = _
    rw [e, Option.bind_some, e2]; rfl
/-- a loop that puts things behind a list -/
theorem forP_app {b : α → List β → Option (List β)} (p : α → Bool) (f : α → β) : ∀ (xs : List α) (v : List β), v.length + xs.length ≤ 1000000 → (∀ x ∈ xs, ∀ v : List β, v.length < 1000000 → b x v = some (if p x = true then v ++ [f x] else v)) → forP b xs v = some (v ++ (xs.filter p).map f)
  | [], v, _, _ => by simp [forP]
  | x :: xs, v, hl, hs => by
    show (b x v).bind _ = _
    rw [List.length_cons] at hl
    rw [hs x (.head _) v (by omega), Option.bind_some]
    cases hp : p x with
    | true =>
      rw [if_pos rfl, forP_app p f xs _ (by simp; omega) fun y hy => hs y (.tail _ hy), List.filter_cons_of_pos hp]
      simp
    | false =>
      rw [if_neg (by simp), forP_app p f xs _ (by omega) fun y hy => hs y (.tail _ hy), List.filter_cons_of_neg (by simp [hp])]
theorem forP_map {b : α → List β → Option (List β)} (f : α → β) {xs : List α} (hl : xs.length ≤ 1000000) (hs : ∀ x ∈ xs, ∀ v : List β, v.length < 1000000 → b x v = some (v ++ [f x])) : forP b xs [] = some (xs.map f) := by
  rw [forP_app (fun _ => true) f xs [] (by simpa using hl) fun x hx v hv => by rw [if_pos rfl]; exact hs x hx v hv, List.filter_eq_self.mpr fun _ _ => rfl]
  simp
/-- a loop that looks at each -/
theorem forC_all {b : α → σ → Option (Ctl σ R)} {v : σ} : ∀ {xs : List α}, (∀ x ∈ xs, b x v = some (.nx v)) → forC b xs v = some (.inr v)
  | [], _ => rfl
  | x :: xs, h => by
    show (b x v).bind _ = _
    rw [h x (.head _), Option.bind_some]
    exact forC_all fun y hy => h y (.tail _ hy)
theorem forC_inv (I : Nat → σ → Prop) {b : α → σ → Option (Ctl σ R)} : ∀ (xs : List α) (k : Nat) (v : σ), I k v → (∀ i x v, xs[i]? = some x → I (k + i) v → ∃ w, b x v = some (.nx w) ∧ I (k + i + 1) w) → ∃ w, forC b xs v = some (.inr w) ∧ I (k + xs.length) w
  | [], k, v, h, _ => ⟨v, rfl, h⟩
  | x :: xs, k, v, h, hs => by
    obtain ⟨w, e, hw⟩ := hs 0 x v rfl h
    obtain ⟨u, e2, hu⟩ := forC_inv I xs (k + 1) w hw fun i y v hy hv => by
      rw [show k + 1 + i = k + (i + 1) by omega] at hv ⊢
      exact hs (i + 1) y v hy hv
    refine ⟨u, ?_, by rw [List.length_cons, show k + (xs.length + 1) = k + 1 + xs.length by omega]; exact hu⟩
    show (b x v).bind _ = _
    rw [e, Option.bind_some]; exact e2
theorem forC_I (I : Nat → σ → Prop) {b : α → σ → Option (Ctl σ R)} {xs : List α} {v : σ} (h : I 0 v) (hs : ∀ i x v, xs[i]? = some x → I i v → ∃ w, b x v = some (.nx w) ∧ I (i + 1) w) : ∃ w, forC b xs v = some (.inr w) ∧ I xs.length w := by
  obtain ⟨w, e, q⟩ := forC_inv I xs 0 v h fun i x v hx hv => by
    rw [Nat.zero_add] at hv ⊢; exact hs i x v hx hv
  exact ⟨w, e, by simpa using q⟩
/-- while, by a measure -/
theorem whP_meas {c : σ → Option Bool} {b : σ → Option σ} (I : Nat → σ → Prop) (h : ∀ n v, I n v → ∃ t, c v = some t ∧ (t = true → ∃ w m, b v = some w ∧ m < n ∧ I m w)) : ∀ (N n : Nat) (v : σ), n < N → I n v → ∃ w m, whP c b N v = some w ∧ I m w ∧ c w = some false
  | 0, n, v, hN, _ => by omega
  | N + 1, n, v, hN, hI => by
    obtain ⟨t, e, ht⟩ := h n v hI
    cases t with
    | false => exact ⟨v, n, by show (c v).bind _ = _; rw [e]; rfl, hI, e⟩
    | true =>
      obtain ⟨w, m, e2, hm, hw⟩ := ht rfl
      obtain ⟨u, m2, e3, q⟩ := whP_meas I h N m w (by omega) hw
      exact ⟨u, m2, by show (c v).bind _ = _; rw [e, Option.bind_some, if_pos rfl, e2, Option.bind_some, e3], q⟩
end
def Ok {α : Type} (o : Option α) (Q : α → Prop) : Prop := ∃ a, o = some a ∧ Q a
section
variable {α β σ R : Type}
theorem Ok.bind {o : Option α} {f : α → Option β} {P : α → Prop} {Q : β → Prop} (h : Ok o P) (k : ∀ a, P a → Ok (f a) Q) : Ok (o.bind f) Q := by
  obtain ⟨a, e, p⟩ := h
  obtain ⟨b, e2, q⟩ := k a p
  exact ⟨b, by rw [e, Option.bind_some, e2], q⟩
theorem Ok.bindE {o : Option α} {f : α → Option β} {a : α} {Q : β → Prop} (h : o = some a) (k : Ok (f a) Q) : Ok (o.bind f) Q := by
  obtain ⟨b, e2, q⟩ := k
  exact ⟨b, by rw [h, Option.bind_some, e2], q⟩
theorem Ok.ret {a : α} {Q : α → Prop} (h : Q a) : Ok (some a) Q := ⟨a, rfl, h⟩
theorem Ok.imp {o : Option α} {P Q : α → Prop} (h : Ok o P) (k : ∀ a, P a → Q a) : Ok o Q := by
  obtain ⟨a, e, p⟩ := h
  exact ⟨a, e, k a p⟩
theorem Ok.ite {b : Bool} {x y : Option α} {Q : α → Prop} (h1 : b = true → Ok x Q) (h2 : b = false → Ok y Q) : Ok (if b = true then x else y) Q := by
  cases b with
  | true => exact h1 rfl
  | false => exact h2 rfl
theorem Ok.eq {o : Option α} {a : α} (h : Ok o (· = a)) : o = some a := by
  obtain ⟨b, e, rfl⟩ := h
  exact e
theorem Ok.for {Q : σ → Prop} (I : Nat → σ → Prop) {b : α → σ → Option σ} {xs : List α} {v : σ} (h : I 0 v) (hs : ∀ i x v, xs[i]? = some x → I i v → Ok (b x v) (I (i + 1))) (hq : ∀ w, I xs.length w → Q w) : Ok (forP b xs v) Q := by
  obtain ⟨w, e, q⟩ := forP_I I h hs
  exact ⟨w, e, hq w q⟩
theorem Ok.forC {γ : Type} {Q : γ → Prop} (I : Nat → σ → Prop) {b : α → σ → Option (Ctl σ R)} {xs : List α} {v : σ} {f : R → Option γ} {g : σ → Option γ} (h : I 0 v) (hs : ∀ i x v, xs[i]? = some x → I i v → Ok (b x v) fun c => ∃ w, c = .nx w ∧ I (i + 1) w) (hq : ∀ w, I xs.length w → Ok (g w) Q) : Ok ((forC b xs v).bind (contC f g)) Q := by
  obtain ⟨w, e, q⟩ := forC_I I h fun i x v hx hv => by
    obtain ⟨c, e, w, rfl, hw⟩ := hs i x v hx hv
    exact ⟨w, e, hw⟩
  exact Ok.bindE e (hq w q)
theorem Ok.forCall {γ : Type} {Q : γ → Prop} {b : α → Unit → Option (Ctl Unit R)} {xs : List α} {f : R → Option γ} {g : Unit → Option γ} (hs : ∀ x ∈ xs, Ok (b x ()) (· = .nx ())) (hq : Ok (g ()) Q) : Ok ((Pv.forC b xs ()).bind (contC f g)) Q :=
  Ok.bindE (forC_all fun x hx => (hs x hx).eq) hq
end
def insS (x : Nat) : List Nat → List Nat
  | [] => [x]
  | y :: ys => if x ≤ y then x :: y :: ys else y :: insS x ys
def isort : List Nat → List Nat
  | [] => []
  | x :: xs => insS x (isort xs)
theorem insS_perm (x : Nat) : ∀ ys : List Nat, (insS x ys).Perm (x :: ys)
  | [] => List.Perm.refl _
  | y :: ys => by
    unfold insS
    split
    · exact List.Perm.refl _
    · exact ((insS_perm x ys).cons y).trans (List.Perm.swap x y ys)
theorem isort_perm : ∀ xs : List Nat, (isort xs).Perm xs
  | [] => List.Perm.refl _
  | x :: xs => (insS_perm x _).trans ((isort_perm xs).cons x)
theorem insS_pair (x : Nat) : ∀ ys : List Nat, ys.Pairwise (· ≤ ·) → (insS x ys).Pairwise (· ≤ ·)
  | [], _ => by simp [insS]
  | y :: ys, h => by
    rw [List.pairwise_cons] at h
    unfold insS
    split
    · rename_i hxy
      rw [List.pairwise_cons]
      refine ⟨fun z hz => ?_, List.pairwise_cons.mpr h⟩
      rcases List.mem_cons.mp hz with rfl | hz
      · exact hxy
      · have := h.1 z hz; omega
    · rename_i hxy
      rw [List.pairwise_cons]
      refine ⟨fun z hz => ?_, insS_pair x ys h.2⟩
      rcases List.mem_cons.mp ((insS_perm x ys).mem_iff.mp hz) with rfl | hz
      · omega
      · exact h.1 z hz
theorem isort_pair : ∀ xs : List Nat, (isort xs).Pairwise (· ≤ ·)
  | [] => List.Pairwise.nil
  | x :: xs => insS_pair x _ (isort_pair xs)
theorem isort_mem {x : Nat} {xs : List Nat} : x ∈ isort xs ↔ x ∈ xs := (isort_perm xs).mem_iff
theorem isort_nodup {xs : List Nat} : (isort xs).Nodup ↔ xs.Nodup := (isort_perm xs).nodup_iff
theorem isort_lt {xs : List Nat} (h : xs.Nodup) : (isort xs).Pairwise (· < ·) := by
  have h1 := isort_pair xs
  have h2 : (isort xs).Pairwise (· ≠ ·) := isort_nodup.mpr h
  exact (h1.and h2).imp fun h => Nat.lt_of_le_of_ne h.1 h.2
theorem dle_nD (x y : Nat) : dle (nD x) (nD y) = decide (x ≤ y) := by
  have : dle (nD x) (nD y) = !decide ((y : Int) < (x : Int)) := by
    show (!PyProof.Rows.lexLt PyProof.Rows.itemOrd [Sum.inl (y : Int)] [Sum.inl (x : Int)]) = _
    by_cases h : (y : Int) < (x : Int)
    · simp [PyProof.Rows.lexLt, PyProof.Rows.itemLt, h]
    · simp [PyProof.Rows.lexLt, PyProof.Rows.itemLt, h]
  rw [this]
  by_cases h : x ≤ y
  · simp [h]
  · simp [h]; omega
theorem sortBy_nD (xs : List Nat) : sortBy nD xs = isort xs := by
  unfold sortBy
  simp only [dle_nD]
  refine List.Perm.eq_of_pairwise (le := fun a b => a ≤ b) (fun a b _ _ h1 h2 => Nat.le_antisymm h1 h2) ?_ (isort_pair xs) ((List.mergeSort_perm _ _).trans (isort_perm xs).symm)
  have := List.pairwise_mergeSort (le := fun a b : Nat => decide (a ≤ b)) (fun a b c h1 h2 => by simp at *; omega) (fun a b => by simp; omega) xs
  exact this.imp fun h => by simpa using h
theorem sortOk_nD (xs : List Nat) (hl : xs.length ≤ 1000000) : sortOk (xs.map nD) = true := by
  unfold sortOk
  simp only [Bool.and_eq_true, Bool.or_eq_true, decide_eq_true_eq, List.length_map, List.all_eq_true, List.mem_map]
  refine ⟨⟨⟨hl, ?_⟩, ?_⟩, .inr ?_⟩
  · rintro _ ⟨x, _, rfl⟩; rfl
  · rintro _ ⟨x, _, rfl⟩ _ ⟨y, _, rfl⟩; rfl
  · rintro _ ⟨x, _, rfl⟩; rfl
theorem sortP_nD {xs : List Nat} (hl : xs.length ≤ 1000000) : sortP nD xs = some (isort xs) := by
  unfold sortP; rw [if_pos (sortOk_nD xs hl), sortBy_nD]
theorem tC_tU (xs : List Nat) : tC nD xs = tU xs := rfl
theorem sortP_tC {xs : List (List Nat)} (hl : xs.length ≤ 1000000) (h : ∀ x ∈ xs, x ≠ []) : sortP (tC nD) xs = some (sortBy (tC nD) xs) := by
  unfold sortP
  rw [if_pos]
  have e2 : xs.map (tC nD) = (xs.map fun xs => xs.map fun k : Nat => (k : Int)).map tN := by
    rw [List.map_map]
    refine List.map_congr_left fun x _ => ?_
    show tU x = tN _
    rw [tU, tN, nD_ints]
  rw [e2]
  refine sortOk_tN (by rw [List.length_map]; exact hl) fun x hx => ?_
  obtain ⟨y, hy, rfl⟩ := List.mem_map.mp hx
  exact fun z => h y hy (List.map_eq_nil_iff.mp z)
theorem sortBy_perm {α : Type} (f : α → D) (xs : List α) : (sortBy f xs).Perm xs := List.mergeSort_perm _ _
/-- two ascending lists with the same members -/
theorem asc_eq {xs ys : List Nat} (h1 : xs.Pairwise (· < ·)) (h2 : ys.Pairwise (· < ·)) (h : ∀ x, x ∈ xs ↔ x ∈ ys) : xs = ys := by
  have n1 : xs.Nodup := h1.imp fun h => Nat.ne_of_lt h
  have n2 : ys.Nodup := h2.imp fun h => Nat.ne_of_lt h
  exact List.Perm.eq_of_pairwise (le := fun a b => a < b) (fun a b _ _ h1 h2 => absurd h1 (by omega)) h1 h2 ((List.perm_ext_iff_of_nodup n1 n2).mpr h)
theorem sortUN_mem {x : Nat} {xs : List Nat} : x ∈ sortUN xs ↔ x ∈ xs := by
  unfold sortUN
  rw [List.mem_map]
  constructor
  · rintro ⟨i, hi, rfl⟩
    rw [sortU_mem, List.mem_map] at hi
    obtain ⟨a, ha, rfl⟩ := hi
    simpa using ha
  · intro h
    exact ⟨(x : Int), sortU_mem.mpr (List.mem_map.mpr ⟨x, h, rfl⟩), rfl⟩
theorem sortUN_asc (xs : List Nat) : (sortUN xs).Pairwise (· < ·) := by
  unfold sortUN
  rw [List.pairwise_map]
  refine (sortU_pair _).imp_of_mem fun {a b} ha hb h => ?_
  rw [sortU_mem, List.mem_map] at ha hb
  obtain ⟨x, _, rfl⟩ := ha
  obtain ⟨y, _, rfl⟩ := hb
  simpa using h
theorem sortUN_eq {xs : List Nat} (h : xs.Pairwise (· < ·)) : sortUN xs = xs := asc_eq (sortUN_asc xs) h fun x => sortUN_mem
theorem sortSetP_eq {xs : List Nat} (h : xs.length ≤ 60) : sortSetP xs = some (sortUN xs) := if_pos h
theorem nodup_len : ∀ (n : Nat) {l : List Nat}, l.Nodup → (∀ x ∈ l, x < n) → l.length ≤ n
  | 0, l, _, h => by
    cases l with
    | nil => simp
    | cons x l => exact absurd (h x (.head _)) (by omega)
  | n + 1, l, nd, h => by
    by_cases hn : n ∈ l
    · have h1 := nodup_len n (l := l.erase n) (nd.erase n) fun x hx => by
        have h2 := h x (List.mem_of_mem_erase hx)
        have h3 : x ≠ n := (List.Nodup.mem_erase_iff nd).mp hx |>.1
        omega
      rw [List.length_erase_of_mem hn] at h1
      omega
    · have := nodup_len n nd fun x hx => by
        have h2 := h x hx
        have h3 : x ≠ n := fun e => hn (e ▸ hx)
        omega
      omega
def bey (r : Rd) (x : Nat) : Option Nat := if x = r.a then some r.b else if x = r.b then some r.a else none
def nb (w : Web) (i x : Nat) : Option Nat := w.rs[i]?.bind fun r => bey r x
/-- the roads that are not among some -/
def oth (w : Web) (l : List Nat) : List Nat := (List.range w.rs.length).filter fun i => decide (i ∉ l)
theorem oth_mem {w : Web} {l : List Nat} {i : Nat} : i ∈ oth w l ↔ i < w.rs.length ∧ i ∉ l := by simp [oth]
theorem oth_len (w : Web) (l : List Nat) : (oth w l).length ≤ w.rs.length := by
  have := List.length_filter_le (fun i => decide (i ∉ l)) (List.range w.rs.length)
  rw [List.length_range] at this
  exact this
theorem oth_nodup (w : Web) (l : List Nat) : (oth w l).Nodup := List.nodup_range.filter _
theorem p_other_roads_eq {w : Web} (l : List Nat) (h : w.rs.length ≤ 1000) : p_other_roads w l = some (oth w l) := by
  unfold p_other_roads
  rw [rngP_eq (by omega), Option.bind_some, lcT_filter (by simp; omega), Option.bind_some]; rfl
theorem p_ends_of_eq {w : Web} {i : Nat} {r : Rd} (h : w.rs[i]? = some r) : p_ends_of w i = some (r.a, r.b) := by
  unfold p_ends_of; rw [h]; rfl
theorem p_low_of_eq {w : Web} {i : Nat} {r : Rd} (h : w.rs[i]? = some r) : p_low_of w i = some r.lo := by
  unfold p_low_of; rw [h]; rfl
theorem p_high_of_eq {w : Web} {i : Nat} {r : Rd} (h : w.rs[i]? = some r) : p_high_of w i = some r.hi := by
  unfold p_high_of; rw [h]; rfl
theorem get_lt {α : Type} {xs : List α} {i : Nat} (h : i < xs.length) : ∃ x, xs[i]? = some x := ⟨xs[i], List.getElem?_eq_getElem h⟩
/-- lengths: high for some roads, low for the others -/
def rai (w : Web) (l : List Nat) : List Nat := (numd w.rs).map fun x => if x.1 ∈ l then x.2.hi else x.2.lo
theorem p_raised_eq {w : Web} (l : List Nat) (h : w.rs.length ≤ 1000) : p_raised w l = some (rai w l) := by
  unfold p_raised
  rw [forP_map (fun x : Nat × Rd => if x.1 ∈ l then x.2.hi else x.2.lo) (by rw [numd_len]; omega) fun x _ v hv => by
    rw [appP_eq hv]; simp]
  rfl
theorem rai_len (w : Web) (l : List Nat) : (rai w l).length = w.rs.length := by rw [rai, List.length_map, numd_len]
theorem rai_get {w : Web} {l : List Nat} {i : Nat} {r : Rd} (h : w.rs[i]? = some r) : (rai w l)[i]? = some (if i ∈ l then r.hi else r.lo) := by
  rw [rai, List.getElem?_map, numd_get, h]; rfl
theorem p_beyond_eq {w : Web} {i : Nat} {r : Rd} (h : w.rs[i]? = some r) (x : Nat) : p_beyond w i x = some (nb w i x) := by
  unfold p_beyond nb bey
  rw [p_ends_of_eq h, h]
  simp only [Option.bind_some, decide_eq_true_eq]
  split
  · rfl
  · rfl
/-- a web with roads between houses -/
def RdsOk (w : Web) : Prop := ∀ r ∈ w.rs, r.a < r.b ∧ r.b < w.n
theorem nb_symm {w : Web} {i x y : Nat} (W : RdsOk w) (h : nb w i x = some y) : nb w i y = some x := by
  unfold nb at h ⊢
  obtain ⟨r, h1, h2⟩ := bind_some_iff h
  have lt := W r (List.mem_of_getElem? h1)
  rw [h1]
  show bey r y = some x
  unfold bey at h2 ⊢
  split at h2
  · rename_i e
    cases h2
    rw [if_neg (by omega), if_pos rfl, e]
  · split at h2
    · rename_i e
      cases h2
      rw [if_pos rfl, e]
    · cases h2
theorem nb_lt {w : Web} {i x t : Nat} (W : RdsOk w) (h : nb w i x = some t) : t < w.n := by
  unfold nb at h
  obtain ⟨r, h1, h2⟩ := bind_some_iff h
  have := W r (List.mem_of_getElem? h1)
  unfold bey at h2
  split at h2
  · cases h2; omega
  · split at h2
    · cases h2; omega
    · cases h2
/-- joined by roads of ok -/
inductive Jn (w : Web) (ok : List Nat) (x : Nat) : Nat → Prop
  | refl : Jn w ok x x
  | step {y z i : Nat} : Jn w ok x y → i ∈ ok → nb w i y = some z → Jn w ok x z
theorem Jn.trans {w : Web} {ok : List Nat} {x y z : Nat} (h1 : Jn w ok x y) (h2 : Jn w ok y z) : Jn w ok x z := by
  induction h2 with
  | refl => exact h1
  | step _ h3 h4 ih => exact .step ih h3 h4
theorem Jn.symm {w : Web} {ok : List Nat} (W : RdsOk w) {x y : Nat} (h : Jn w ok x y) : Jn w ok y x := by
  induction h with
  | refl => exact .refl
  | step _ h3 h4 ih => exact (Jn.step .refl h3 (nb_symm W h4)).trans ih
theorem Jn.mono {w : Web} {ok ok' : List Nat} (h : ∀ i ∈ ok, i ∈ ok') {x y : Nat} (j : Jn w ok x y) : Jn w ok' x y := by
  induction j with
  | refl => exact .refl
  | step _ h3 h4 ih => exact .step ih (h _ h3) h4
theorem Jn.lt {w : Web} {ok : List Nat} (W : RdsOk w) {x y : Nat} (j : Jn w ok x y) (hx : x < w.n) : y < w.n := by
  induction j with
  | refl => exact hx
  | step _ _ h4 _ => exact nb_lt W h4
theorem jn_closed {w : Web} {ok : List Nat} {F : Nat → Prop} {x : Nat} (h0 : F x) (hc : ∀ y, F y → ∀ i ∈ ok, ∀ z, nb w i y = some z → F z) {y : Nat} (j : Jn w ok x y) : F y := by
  induction j with
  | refl => exact h0
  | step _ h3 h4 ih => exact hc _ ih _ h3 _ h4
theorem nb_ends {w : Web} {i : Nat} {r : Rd} (h : w.rs[i]? = some r) : nb w i r.a = some r.b := by
  unfold nb; rw [h]; simp [bey]
theorem nb_cases {w : Web} {i x y : Nat} {r : Rd} (h : w.rs[i]? = some r) (e : nb w i x = some y) : (x = r.a ∧ y = r.b) ∨ (x = r.b ∧ y = r.a) := by
  unfold nb at e
  rw [h] at e
  have e : bey r x = some y := e
  unfold bey at e
  split at e
  · rename_i hx; cases e; exact .inl ⟨hx, rfl⟩
  · split at e
    · rename_i hx; cases e; exact .inr ⟨hx, rfl⟩
    · cases e
end G

namespace G
open PySem PySem.Spec L2 Pv
/-- the ways from a house to the goal, k houses deep -/
def wy (w : Web) (ok : List Nat) (goal : Nat) : Nat → Nat → List Nat → List (List Nat)
  | 0, _, _ => []
  | k + 1, here, seen => if here = goal then [[]] else ok.flatMap fun i => match nb w i here with
    | some t => if t ∈ seen then [] else (wy w ok goal k t (seen ++ [t])).map (i :: ·)
    | none => []
theorem flatMap_len {α β : Type} {f : α → List β} {B : Nat} : ∀ {l : List α}, (∀ x ∈ l, (f x).length ≤ B) → (l.flatMap f).length ≤ l.length * B
  | [], _ => by simp
  | x :: l, h => by
    rw [List.flatMap_cons, List.length_append, List.length_cons, Nat.add_mul, Nat.one_mul]
    have h1 := flatMap_len (l := l) (f := f) fun y hy => h y (.tail _ hy)
    have h2 := h x (.head _)
    omega
theorem wy_len {w : Web} {ok : List Nat} {goal : Nat} (hok : ok.length ≤ 9) : ∀ (k here : Nat) (seen : List Nat), (wy w ok goal k here seen).length ≤ 9 ^ (k - 1)
  | 0, _, _ => by simp [wy]
  | k + 1, here, seen => by
    unfold wy
    split
    · exact Nat.pos_of_ne_zero (by simp)
    · have : ∀ i ∈ ok, (match nb w i here with
        | some t => if t ∈ seen then [] else (wy w ok goal k t (seen ++ [t])).map (i :: ·)
        | none => []).length ≤ if k = 0 then 0 else 9 ^ (k - 1) := fun i _ => by
        split
        · split
          · simp
          · rename_i t _ _
            rw [List.length_map]
            split
            · rename_i hk; subst hk; simp [wy]
            · exact wy_len hok k t (seen ++ [t])
        · simp
      refine Nat.le_trans (flatMap_len this) ?_
      split
      · simp
      · rename_i hk
        rw [Nat.add_sub_cancel]
        obtain ⟨j, rfl⟩ : ∃ j, k = j + 1 := ⟨k - 1, by omega⟩
        rw [Nat.add_sub_cancel, Nat.pow_succ, Nat.mul_comm]
        exact Nat.mul_le_mul_left _ hok
theorem wy_short {w : Web} {ok : List Nat} {goal : Nat} : ∀ (k here : Nat) (seen : List Nat), ∀ x ∈ wy w ok goal k here seen, x.length < k
  | 0, _, _, x, h => by simp [wy] at h
  | k + 1, here, seen, x, h => by
    unfold wy at h
    split at h
    · simp at h; subst h; simp
    · obtain ⟨i, _, h⟩ := List.mem_flatMap.mp h
      split at h
      · split at h
        · simp at h
        · obtain ⟨y, hy, rfl⟩ := List.mem_map.mp h
          have := wy_short k _ _ y hy
          simp; omega
      · simp at h
theorem wy_ne {w : Web} {ok : List Nat} {goal k here : Nat} {seen : List Nat} (h : here ≠ goal) : ∀ x ∈ wy w ok goal k here seen, x ≠ [] := by
  intro x hx
  cases k with
  | zero => simp [wy] at hx
  | succ k =>
    unfold wy at hx
    rw [if_neg h] at hx
    obtain ⟨i, _, hx⟩ := List.mem_flatMap.mp hx
    split at hx
    · split at hx
      · simp at hx
      · obtain ⟨y, hy, rfl⟩ := List.mem_map.mp hx
        simp
    · simp at hx
inductive Pth (w : Web) (ok : List Nat) : Nat → List Nat → Nat → Prop
  | nil (x : Nat) : Pth w ok x [] x
  | cons {x t z i : Nat} {ts : List Nat} : i ∈ ok → nb w i x = some t → Pth w ok t ts z → Pth w ok x (t :: ts) z
theorem Pth.snoc {w : Web} {ok : List Nat} {x y z i : Nat} {ts : List Nat} (p : Pth w ok x ts y) (hi : i ∈ ok) (hn : nb w i y = some z) : Pth w ok x (ts ++ [z]) z := by
  induction p with
  | nil x => exact .cons hi hn (.nil _)
  | cons h1 h2 _ ih => exact .cons h1 h2 (ih hn)
theorem jn_pth {w : Web} {ok : List Nat} {x y : Nat} (j : Jn w ok x y) : ∃ ts, Pth w ok x ts y := by
  induction j with
  | refl => exact ⟨[], .nil _⟩
  | step _ h1 h2 ih =>
    obtain ⟨ts, p⟩ := ih
    exact ⟨_, p.snoc h1 h2⟩
theorem Pth.suffix {w : Web} {ok : List Nat} {x z t : Nat} {ts : List Nat} (p : Pth w ok x ts z) (ht : t ∈ ts) : ∃ us, Pth w ok t us z ∧ us.length < ts.length ∧ ∀ y ∈ us, y ∈ ts := by
  induction p with
  | nil x => simp at ht
  | cons h1 h2 p ih =>
    rcases List.mem_cons.mp ht with e | ht
    · subst e
      exact ⟨_, p, by simp, fun y hy => List.mem_cons_of_mem _ hy⟩
    · obtain ⟨us, a, b, c⟩ := ih ht
      exact ⟨us, a, by simp; omega, fun y hy => List.mem_cons_of_mem _ (c y hy)⟩
theorem wy_some {w : Web} {ok : List Nat} {goal : Nat} (W : RdsOk w) : ∀ (m k here : Nat) (seen ts : List Nat), ts.length ≤ m → Pth w ok here ts goal → (∀ y ∈ ts, y ∉ seen) → k + seen.length = w.n + 1 → seen.Nodup → (∀ y ∈ seen, y < w.n) → wy w ok goal k here seen ≠ []
  | m, 0, here, seen, ts, _, _, _, hk, nd, lt => by
    have := nodup_len _ nd lt
    omega
  | m, k + 1, here, seen, [], _, p, _, _, _, _ => by
    cases p
    unfold wy
    rw [if_pos rfl]
    simp
  | 0, k + 1, here, seen, t :: ts, h, _, _, _, _, _ => by simp at h
  | m + 1, k + 1, here, seen, t :: ts, h, p, av, hk, nd, lt => by
    cases p with
    | cons h1 h2 p =>
      rename_i i
      unfold wy
      split
      · simp
      · have ht : t ∉ seen := av t (.head _)
        have key : ∃ us, Pth w ok t us goal ∧ us.length ≤ m ∧ ∀ y ∈ us, y ∉ seen ++ [t] := by
          have base : ∀ (l : Nat) (us : List Nat), us.length ≤ l → Pth w ok t us goal → us.length ≤ m → (∀ y ∈ us, y ∉ seen) → ∃ us, Pth w ok t us goal ∧ us.length ≤ m ∧ ∀ y ∈ us, y ∉ seen ++ [t] := by
            intro l
            induction l with
            | zero =>
              intro us hl pu hm hs
              obtain rfl : us = [] := List.eq_nil_of_length_eq_zero (by omega)
              exact ⟨[], pu, by simp, by simp⟩
            | succ l ih =>
              intro us hl pu hm hs
              by_cases hin : t ∈ us
              · obtain ⟨vs, a, b, c⟩ := pu.suffix hin
                exact ih vs (by omega) a (by omega) fun y hy => hs y (c y hy)
              · refine ⟨us, pu, hm, fun y hy hy2 => ?_⟩
                rcases List.mem_append.mp hy2 with q | q
                · exact hs y hy q
                · exact hin (List.mem_singleton.mp q ▸ hy)
          exact base ts.length ts (Nat.le_refl _) p (by simpa using h) fun y hy => av y (.tail _ hy)
        obtain ⟨us, a, b, c⟩ := key
        have ih := wy_some W m k t (seen ++ [t]) us b a c (by simp; omega) (List.nodup_append.mpr ⟨nd, by simp, fun x hx y hy e => by simp at hy; subst hy; subst e; exact ht hx⟩) (fun y hy => by
          rcases List.mem_append.mp hy with hy | hy
          · exact lt y hy
          · simp at hy; subst hy; exact nb_lt W h2)
        intro e
        have := List.flatMap_eq_nil_iff.mp e i h1
        rw [h2] at this
        simp only [if_neg ht] at this
        exact ih (List.map_eq_nil_iff.mp this)
theorem wy_jn {w : Web} {ok : List Nat} {goal : Nat} : ∀ (k here : Nat) (seen : List Nat), ∀ x ∈ wy w ok goal k here seen, Jn w ok here goal
  | 0, _, _, x, h => by simp [wy] at h
  | k + 1, here, seen, x, h => by
    unfold wy at h
    split at h
    · rename_i e; subst e; exact .refl
    · obtain ⟨i, hi, h⟩ := List.mem_flatMap.mp h
      split at h
      · rename_i t ht
        split at h
        · simp at h
        · obtain ⟨y, hy, rfl⟩ := List.mem_map.mp h
          exact (Jn.step .refl hi ht).trans (wy_jn k _ _ y hy)
      · simp at h
/-- there is a way exactly between joined houses -/
theorem wy_iff {w : Web} {ok : List Nat} {a goal : Nat} (W : RdsOk w) (ha : a < w.n) (hne : a ≠ goal) : wy w ok goal w.n a [a] ≠ [] ↔ Jn w ok a goal := by
  constructor
  · intro h
    obtain ⟨x, hx⟩ := List.exists_mem_of_ne_nil _ h
    exact wy_jn _ _ _ x hx
  · intro j
    obtain ⟨ts, p⟩ := jn_pth j
    have key : ∃ us, Pth w ok a us goal ∧ ∀ y ∈ us, y ∉ [a] := by
      have base : ∀ (l : Nat) (us : List Nat), us.length ≤ l → Pth w ok a us goal → ∃ us, Pth w ok a us goal ∧ ∀ y ∈ us, y ∉ [a] := by
        intro l
        induction l with
        | zero =>
          intro us hl pu
          obtain rfl : us = [] := List.eq_nil_of_length_eq_zero (by omega)
          exact ⟨[], pu, by simp⟩
        | succ l ih =>
          intro us hl pu
          by_cases hin : a ∈ us
          · obtain ⟨vs, q1, q2, _⟩ := pu.suffix hin
            exact ih vs (by omega) q1
          · exact ⟨us, pu, fun y hy hy2 => hin (List.mem_singleton.mp hy2 ▸ hy)⟩
      exact base ts.length ts (Nat.le_refl _) p
    obtain ⟨us, q1, q2⟩ := key
    exact wy_some W us.length w.n a [a] us (Nat.le_refl _) q1 q2 (by simp) (by simp) (by simp; omega)

/-- a walk from a house to the goal that comes to no house twice -/
def Wk (w : Web) (goal : Nat) : List Nat → Nat → List Nat → Prop
  | [], here, _ => here = goal
  | i :: d, here, seen => ∃ t, nb w i here = some t ∧ t ∉ seen ∧ Wk w goal d t (seen ++ [t])
theorem wy_wk {w : Web} {ok : List Nat} {goal : Nat} : ∀ (k here : Nat) (seen : List Nat), ∀ d ∈ wy w ok goal k here seen, Wk w goal d here seen ∧ ∀ i ∈ d, i ∈ ok
  | 0, _, _, x, h => by simp [wy] at h
  | k + 1, here, seen, x, h => by
    unfold wy at h
    split at h
    · rename_i e
      simp at h
      subst h
      exact ⟨e, by simp⟩
    · obtain ⟨i, hi, h⟩ := List.mem_flatMap.mp h
      split at h
      · rename_i t ht
        split at h
        · simp at h
        · rename_i hs
          obtain ⟨y, hy, rfl⟩ := List.mem_map.mp h
          obtain ⟨a, b⟩ := wy_wk k _ _ y hy
          refine ⟨⟨t, ht, hs, a⟩, fun j hj => ?_⟩
          rcases List.mem_cons.mp hj with rfl | hj
          · exact hi
          · exact b j hj
      · simp at h
theorem wy_of_wk {w : Web} {ok : List Nat} {goal : Nat} (W : RdsOk w) : ∀ (d : List Nat) (k here : Nat) (seen : List Nat), Wk w goal d here seen → (∀ i ∈ d, i ∈ ok) → goal ∉ seen ∨ here = goal → k + seen.length = w.n + 1 → seen.Nodup → (∀ y ∈ seen, y < w.n) → here ≠ goal ∨ d = [] → d ∈ wy w ok goal k here seen
  | [], k, here, seen, h, _, _, hk, nd, lt, _ => by
    have := nodup_len _ nd lt
    obtain ⟨m, rfl⟩ : ∃ m, k = m + 1 := ⟨k - 1, by omega⟩
    have h : here = goal := h
    unfold wy
    rw [if_pos h]; simp
  | i :: d, k, here, seen, h, hi, hg, hk, nd, lt, hne => by
    have hn := nodup_len _ nd lt
    obtain ⟨m, rfl⟩ : ∃ m, k = m + 1 := ⟨k - 1, by omega⟩
    obtain ⟨t, h1, h2, h3⟩ := h
    have hne : here ≠ goal := by rcases hne with h | h; exact h; cases h
    have hg : goal ∉ seen := by rcases hg with h | h; exact h; exact absurd h hne
    unfold wy
    rw [if_neg hne, List.mem_flatMap]
    refine ⟨i, hi i (.head _), ?_⟩
    rw [h1]
    show i :: d ∈ if t ∈ seen then [] else (wy w ok goal m t (seen ++ [t])).map (i :: ·)
    rw [if_neg h2, List.mem_map]
    refine ⟨d, wy_of_wk W d m t (seen ++ [t]) h3 (fun j hj => hi j (.tail _ hj)) ?_ (by simp; omega) (List.nodup_append.mpr ⟨nd, by simp, fun x hx y hy e => by simp at hy; subst hy; subst e; exact h2 hx⟩) (fun y hy => ?_) ?_, rfl⟩
    · by_cases e : t = goal
      · exact .inr e
      · left
        intro q
        rcases List.mem_append.mp q with q | q
        · exact hg q
        · exact e (List.mem_singleton.mp q).symm
    · rcases List.mem_append.mp hy with hy | hy
      · exact lt y hy
      · simp at hy; subst hy; exact nb_lt W h1
    · by_cases e : t = goal
      · right
        cases d with
        | nil => rfl
        | cons j d =>
          exfalso
          -- the goal would be come to again
          have key : ∀ (d : List Nat) (x : Nat) (s : List Nat), Wk w goal d x s → goal ∈ s → d = [] := by
            intro d
            induction d with
            | nil => intro x s _ _; rfl
            | cons j d ih =>
              intro x s hw hs
              obtain ⟨u, a1, a2, a3⟩ := hw
              have := ih u (s ++ [u]) a3 (List.mem_append_left _ hs)
              subst this
              have a3 : u = goal := a3
              exact absurd (a3 ▸ hs) a2
          have := key (j :: d) t (seen ++ [t]) h3 (by rw [e]; simp)
          cases this
      · exact .inl e
theorem p_ways_on_eq {w : Web} (hn : w.n ≤ 6) (W : RdsOk w) {ok : List Nat} (hok : ok.length ≤ 9) (hlt : ∀ i ∈ ok, i < w.rs.length) (goal : Nat) : ∀ (K k here : Nat) (seen : List Nat), k ≤ K → k + seen.length = w.n + 1 → seen.Nodup → (∀ x ∈ seen, x < w.n) → here ∈ seen →
    p_ways_on K w ok here goal seen = some (wy w ok goal k here seen)
  | K, 0, here, seen, _, hl, nd, lt, _ => by
    have := nodup_len w.n nd lt
    omega
  | 0, k + 1, here, seen, h, _, _, _, _ => by omega
  | K + 1, k + 1, here, seen, hK, hl, nd, lt, hm => by
    have hs1 : 1 ≤ seen.length := by
      cases seen with
      | nil => simp at hm
      | cons => simp
    unfold wy p_ways_on
    by_cases hg : here = goal
    · simp [hg]
    · rw [if_neg (by simpa using hg), if_neg hg]
      let g : Nat → List (List Nat) := fun i => match nb w i here with
        | some t => if t ∈ seen then [] else (wy w ok goal k t (seen ++ [t])).map (i :: ·)
        | none => []
      have gl : ∀ i, (g i).length ≤ 9 ^ 5 := fun i => by
        show (match nb w i here with
        | some t => if t ∈ seen then [] else (wy w ok goal k t (seen ++ [t])).map (i :: ·)
        | none => []).length ≤ 9 ^ 5
        split
        · split
          · simp
          · rw [List.length_map]
            exact Nat.le_trans (wy_len hok _ _ _) (Nat.pow_le_pow_right (by decide) (by omega))
        · simp
      obtain ⟨v, e, hv⟩ := forP_I (I := fun j v => v = (ok.take j).flatMap g) (v := ([] : List (List Nat))) (xs := ok) (b := fun (x_4 : Nat) (v_2 : List (List Nat)) =>
        (p_beyond w x_4 here).bind fun beyond_5 =>
        (if (beyond_5.isSome && (!omem beyond_5 seen)) = true then
          (beyond_5).bind fun there_7 =>
          (addP seen ([there_7] : List Nat)).bind fun sum_8 =>
          (p_ways_on K w ok there_7 goal sum_8).bind fun ways_on_9 =>
          (lcP (fun (_ : (List Nat)) => some true) (fun (x_10 : (List Nat)) => (addP ([x_4] : List Nat) x_10).bind fun sum_11 => some (sum_11 : (List Nat))) ways_on_9).bind fun lc_12 =>
          (addP v_2 lc_12).bind fun found_13 =>
          some found_13
        else
          some v_2)) rfl (fun j i v hi hv => by
          subst hv
          obtain ⟨hj, _⟩ := List.getElem?_eq_some_iff.mp hi
          have him : i ∈ ok := List.mem_of_getElem? hi
          obtain ⟨r, hr⟩ := get_lt (hlt i him)
          have tk : (ok.take (j + 1)).flatMap g = (ok.take j).flatMap g ++ g i := by
            rw [List.take_succ, hi]; simp [List.flatMap_append]
          have acc : ((ok.take j).flatMap g).length ≤ 8 * 9 ^ 5 :=
            Nat.le_trans (flatMap_len fun x _ => gl x) (Nat.mul_le_mul_right _ (by rw [List.length_take]; omega))
          refine ⟨_, ?_, tk.symm⟩
          have gli := gl i
          rw [p_beyond_eq hr, Option.bind_some]
          show _ = some ((ok.take j).flatMap g ++ (match nb w i here with
            | some t => if t ∈ seen then [] else (wy w ok goal k t (seen ++ [t])).map (i :: ·)
            | none => []))
          generalize (ok.take j).flatMap g = A at acc ⊢
          cases hnb : nb w i here with
          | none => simp
          | some t =>
            by_cases hts : t ∈ seen
            · simp [hts, omem]
            · have htl := nb_lt W hnb
              have sl := nodup_len w.n nd lt
              have ih := p_ways_on_eq hn W hok hlt goal K k t (seen ++ [t]) (by omega) (by simp; omega) (List.nodup_append.mpr ⟨nd, by simp, fun x hx y hy e => by simp at hy; subst hy; subst e; exact hts hx⟩) (fun x hx => by
                rcases List.mem_append.mp hx with hx | hx
                · exact lt x hx
                · simp at hx; subst hx; exact htl) (by simp)
              have wl := wy_len (w := w) (goal := goal) hok k t (seen ++ [t])
              have wl2 : (wy w ok goal k t (seen ++ [t])).length ≤ 59049 := Nat.le_trans wl (Nat.le_trans (Nat.pow_le_pow_right (by decide) (show k - 1 ≤ 5 by omega)) (by decide))
              have e1 : addP seen [t] = some (seen ++ [t]) := addP_eq (by simp; omega)
              have e2 : lcP (fun (_ : List Nat) => some true) (fun (x : List Nat) => addP ([i] : List Nat) x) (wy w ok goal k t (seen ++ [t])) = some ((wy w ok goal k t (seen ++ [t])).map (i :: ·)) := lcP_map _ (by omega) fun x hx => by
                have := wy_short _ _ _ x hx
                rw [addP_eq (by simp; omega)]; rfl
              have e3 : addP A ((wy w ok goal k t (seen ++ [t])).map (i :: ·)) = some (A ++ (wy w ok goal k t (seen ++ [t])).map (i :: ·)) := addP_eq (by
                rw [List.length_map]
                have : 8 * 9 ^ 5 = 472392 := by decide
                omega)
              simp [hts, omem, e1, ih, e2, e3])
      rw [e, Option.bind_some, hv, List.take_of_length_le (Nat.le_refl _)]
/-- the roads of a list other than one -/
def oks (l : List Nat) (road : Nat) : List Nat := l.filter fun i => decide (i ≠ road)
theorem oks_mem {l : List Nat} {road i : Nat} : i ∈ oks l road ↔ i ∈ l ∧ i ≠ road := by simp [oks]
theorem oks_len {w : Web} {l : List Nat} {road : Nat} (nd : l.Nodup) (hl : ∀ i ∈ l, i < w.rs.length) (h : road < w.rs.length) (hm : w.rs.length ≤ 10) : (oks l road).length ≤ 9 := by
  have := nodup_len w.rs.length (l := road :: oks l road) (List.nodup_cons.mpr ⟨fun hi => (oks_mem.mp hi).2 rfl, nd.filter _⟩) fun x hx => by
    rcases List.mem_cons.mp hx with rfl | hx
    · exact h
    · exact hl x (oks_mem.mp hx).1
  rw [List.length_cons] at this
  omega
/-- all detours by some roads -/
def dets (w : Web) (l : List Nat) (road : Nat) (r : Rd) : List (List Nat) := wy w (oks l road) r.b w.n r.a [r.a]
section
variable {w : Web} {l : List Nat} {road : Nat} {r : Rd} (hn : w.n ≤ 6) (hm : w.rs.length ≤ 10) (W : RdsOk w) (hr : w.rs[road]? = some r) (nd : l.Nodup) (hl : ∀ i ∈ l, i < w.rs.length)
include hn hm W hr nd hl
theorem p_detours_by_eq : p_detours_by w road l = some (sortBy (tC nD) (dets w l road r)) := by
  have hrl := (List.getElem?_eq_some_iff.mp hr).1
  have Wr := W r (List.mem_of_getElem? hr)
  have ol := oks_len nd hl hrl hm
  have ll := nodup_len _ nd hl
  have wo := p_ways_on_eq hn W ol (fun i hi => hl i (oks_mem.mp hi).1) r.b 7 w.n r.a [r.a] (by omega) (by simp) (by simp) (by simp; omega) (by simp)
  have wl : (dets w l road r).length ≤ 1000000 := Nat.le_trans (wy_len ol _ _ _) (Nat.le_trans (Nat.pow_le_pow_right (by decide) (show w.n - 1 ≤ 5 by omega)) (by decide))
  have e1 : lcT (fun (x_2 : Nat) => (decide (x_2 ≠ road))) (fun (x_2 : Nat) => x_2) l = some (oks l road) := lcT_filter (by omega)
  unfold p_detours_by
  rw [p_ends_of_eq hr, Option.bind_some, e1, Option.bind_some, wo, Option.bind_some]
  show (sortP (tC nD) (dets w l road r)).bind _ = _
  rw [sortP_tC wl (wy_ne (by omega))]; rfl
theorem dets_iff : dets w l road r ≠ [] ↔ Jn w (oks l road) r.a r.b := by
  have Wr := W r (List.mem_of_getElem? hr)
  exact wy_iff W (by omega) (by omega)
/-- the first detour: none exactly if there is none -/
theorem p_first_detour_eq : ∃ o, p_first_detour w road l = some o ∧ (o = none ↔ ¬ Jn w (oks l road) r.a r.b) ∧ ∀ d, o = some d → d ∈ dets w l road r := by
  unfold p_first_detour
  rw [p_detours_by_eq hn hm W hr nd hl, Option.bind_some]
  have hi := dets_iff hn hm W hr nd hl
  have pm := sortBy_perm (tC nD) (dets w l road r)
  cases hs : sortBy (tC nD) (dets w l road r) with
  | nil =>
    rw [hs] at pm
    have : dets w l road r = [] := List.Perm.nil_eq pm |>.symm
    exact ⟨none, by simp, by simp [← hi, this], fun d h => by cases h⟩
  | cons d ds =>
    rw [hs] at pm
    have hd : d ∈ dets w l road r := pm.mem_iff.mp (.head _)
    refine ⟨some d, by simp, ?_, fun d' h => by cases h; exact hd⟩
    have : dets w l road r ≠ [] := fun e => by rw [e] at hd; simp at hd
    simp [hi.mp this]
theorem dets_wk {d : List Nat} (h : d ∈ dets w l road r) : Wk w r.b d r.a [r.a] ∧ (∀ i ∈ d, i ∈ l ∧ i ≠ road) ∧ d ≠ [] := by
  have Wr := W r (List.mem_of_getElem? hr)
  obtain ⟨a, b⟩ := wy_wk _ _ _ d h
  exact ⟨a, fun i hi => oks_mem.mp (b i hi), wy_ne (by omega) d h⟩
end
end G

namespace G
open PySem PySem.Spec L2 Pv
/-- joined by pairs of houses -/
inductive Jp (ps : List (Nat × Nat)) (x : Nat) : Nat → Prop
  | refl : Jp ps x x
  | fwd {p : Nat × Nat} : Jp ps x p.1 → p ∈ ps → Jp ps x p.2
  | bwd {p : Nat × Nat} : Jp ps x p.2 → p ∈ ps → Jp ps x p.1
theorem jp_closed {ps : List (Nat × Nat)} {F : Nat → Prop} {x : Nat} (h0 : F x) (hc : ∀ p ∈ ps, F p.1 ↔ F p.2) {y : Nat} (j : Jp ps x y) : F y := by
  induction j with
  | refl => exact h0
  | fwd _ h ih => exact (hc _ h).mp ih
  | bwd _ h ih => exact (hc _ h).mpr ih
/-- found so far -/
structure FdOk (ps : List (Nat × Nat)) (x n : Nat) (F : List Nat) : Prop where
  f0 : x ∈ F
  nd : F.Nodup
  lt : ∀ y ∈ F, y < n
  jn : ∀ y ∈ F, Jp ps x y
/-- one look at all pairs -/
def rstep (v : List Nat × Bool) (p : Nat × Nat) : List Nat × Bool :=
  if decide (p.1 ∈ v.1) ≠ decide (p.2 ∈ v.1) then (v.1 ++ [if p.1 ∈ v.1 then p.2 else p.1], true) else v
theorem rstep_ok {ps : List (Nat × Nat)} {x n : Nat} {v : List Nat × Bool} {p : Nat × Nat} (h : FdOk ps x n v.1) (hp : p ∈ ps) (hlt : p.1 < n ∧ p.2 < n) : FdOk ps x n (rstep v p).1 := by
  unfold rstep
  split
  · rename_i hc
    by_cases h1 : p.1 ∈ v.1
    · have h2 : p.2 ∉ v.1 := fun h2 => hc (by simp [h1, h2])
      simp only [h1, if_true]
      refine ⟨List.mem_append_left _ h.f0, List.nodup_append.mpr ⟨h.nd, by simp, fun a ha b hb e => by simp at hb; subst hb; subst e; exact h2 ha⟩, fun y hy => ?_, fun y hy => ?_⟩
      · rcases List.mem_append.mp hy with hy | hy
        · exact h.lt y hy
        · simp at hy; subst hy; exact hlt.2
      · rcases List.mem_append.mp hy with hy | hy
        · exact h.jn y hy
        · simp at hy; subst hy; exact .fwd (h.jn _ h1) hp
    · have h2 : p.2 ∈ v.1 := by
        by_cases h2 : p.2 ∈ v.1
        · exact h2
        · exact absurd (by simp [h1, h2]) hc
      simp only [h1, if_false]
      refine ⟨List.mem_append_left _ h.f0, List.nodup_append.mpr ⟨h.nd, by simp, fun a ha b hb e => by simp at hb; subst hb; subst e; exact h1 ha⟩, fun y hy => ?_, fun y hy => ?_⟩
      · rcases List.mem_append.mp hy with hy | hy
        · exact h.lt y hy
        · simp at hy; subst hy; exact hlt.1
      · rcases List.mem_append.mp hy with hy | hy
        · exact h.jn y hy
        · simp at hy; subst hy; exact .bwd (h.jn _ h2) hp
  · exact h
theorem rfold_ok {ps : List (Nat × Nat)} {x n : Nat} : ∀ (qs : List (Nat × Nat)) {v : List Nat × Bool}, FdOk ps x n v.1 → (∀ p ∈ qs, p ∈ ps ∧ p.1 < n ∧ p.2 < n) → FdOk ps x n (qs.foldl rstep v).1
  | [], v, h, _ => h
  | p :: qs, v, h, hq => rfold_ok qs (rstep_ok h (hq p (.head _)).1 (hq p (.head _)).2) fun p hp => hq p (.tail _ hp)
theorem rfold_len : ∀ (qs : List (Nat × Nat)) (v : List Nat × Bool), v.1.length ≤ (qs.foldl rstep v).1.length ∧ (v.2 = true → (qs.foldl rstep v).2 = true) ∧ ((qs.foldl rstep v).2 = true → v.2 = true ∨ v.1.length < (qs.foldl rstep v).1.length) ∧ ((qs.foldl rstep v).2 = false → (qs.foldl rstep v).1 = v.1 ∧ ∀ p ∈ qs, p.1 ∈ v.1 ↔ p.2 ∈ v.1)
  | [], v => ⟨Nat.le_refl _, fun h => h, fun h => .inl h, fun _ => ⟨rfl, fun p hp => by simp at hp⟩⟩
  | p :: qs, v => by
    obtain ⟨a, b, c, d⟩ := rfold_len qs (rstep v p)
    rw [List.foldl_cons]
    by_cases hc : decide (p.1 ∈ v.1) ≠ decide (p.2 ∈ v.1)
    · have e : rstep v p = (v.1 ++ [if p.1 ∈ v.1 then p.2 else p.1], true) := if_pos hc
      rw [e] at a b c d ⊢
      simp only [List.length_append, List.length_singleton] at a c
      refine ⟨by omega, fun _ => b rfl, fun _ => .inr (by omega), fun h => ?_⟩
      rw [b rfl] at h; cases h
    · have e : rstep v p = v := if_neg hc
      rw [e] at a b c d ⊢
      refine ⟨a, b, c, fun h => ⟨(d h).1, fun q hq => ?_⟩⟩
      rcases List.mem_cons.mp hq with rfl | hq
      · simpa using hc
      · exact (d h).2 q hq
theorem p_reached_eq {ps : List (Nat × Nat)} {x n : Nat} (hn : n ≤ 900) (hx : x < n) (hlt : ∀ p ∈ ps, p.1 < n ∧ p.2 < n) : ∃ F, p_reached ps x = some F ∧ F.Pairwise (· < ·) ∧ ∀ y, y ∈ F ↔ Jp ps x y := by
  let I : Nat → List Nat × Bool → Prop := fun m v => FdOk ps x n v.1 ∧ m = n - v.1.length + (if v.2 then 1 else 0) ∧ (v.2 = false → ∀ p ∈ ps, p.1 ∈ v.1 ↔ p.2 ∈ v.1)
  have bd : ∀ v : List Nat × Bool, FdOk ps x n v.1 → forP (fun (x_6 : (Nat × Nat)) (v_4 : (List Nat) × Bool) =>
      (if (decide ((decide (x_6.1 ∈ v_4.1)) ≠ (decide (x_6.2 ∈ v_4.1)))) = true then
        (appP v_4.1 (if (decide (x_6.1 ∈ v_4.1)) = true then x_6.2 else x_6.1)).bind fun found_8 =>
        some (found_8, true)
      else
        some (v_4.1, v_4.2))) ps v = some (ps.foldl rstep v) := fun v hv =>
    (forP_fold rstep (fun v => FdOk ps x n v.1) ps v hv fun p hp v hv => by
      refine ⟨?_, rstep_ok hv hp (hlt p hp)⟩
      have hl := nodup_len n hv.nd hv.lt
      unfold rstep
      rw [appP_eq (by omega)]
      simp only [decide_eq_true_eq, Option.bind_some]
      split <;> rfl).1
  obtain ⟨v, m, e, hv, hc⟩ := whP_meas (c := fun (v_1 : (List Nat) × Bool) => some v_1.2) (b := fun (v_1 : (List Nat) × Bool) =>
    (forP (fun (x_6 : (Nat × Nat)) (v_4 : (List Nat) × Bool) =>
      (if (decide ((decide (x_6.1 ∈ v_4.1)) ≠ (decide (x_6.2 ∈ v_4.1)))) = true then
        (appP v_4.1 (if (decide (x_6.1 ∈ v_4.1)) = true then x_6.2 else x_6.1)).bind fun found_8 =>
        some (found_8, true)
      else
        some (v_4.1, v_4.2))) ps (v_1.1, false)).bind fun (w_9 : (List Nat) × Bool) =>
    some (w_9.1, w_9.2)) I (fun m v hI => ⟨v.2, rfl, fun ht => by
      obtain ⟨h1, h2, h3⟩ := hI
      have h1' : FdOk ps x n ((v.1, false) : List Nat × Bool).1 := h1
      obtain ⟨a, b, c, d⟩ := rfold_len ps (v.1, false)
      have ok := rfold_ok (ps := ps) ps h1' fun p hp => ⟨hp, hlt p hp⟩
      refine ⟨ps.foldl rstep (v.1, false), _, by rw [bd _ h1']; rfl, ?_, ok, rfl, fun hf p hp => ?_⟩
      · rw [h2, ht]
        have l1 := nodup_len n ok.nd ok.lt
        have l2 := nodup_len n h1.nd h1.lt
        cases hb : (ps.foldl rstep (v.1, false)).2 with
        | true =>
          have := (c hb).resolve_left (by simp)
          simp only [if_true]
          have this : v.1.length < _ := this
          omega
        | false =>
          have := (d hb).1
          rw [this]
          simp
      · have q := d hf
        rw [q.1]
        exact q.2 p hp⟩) 1000 n (([x] : List Nat), true) (by omega) ⟨⟨by simp, by simp, by simp; omega, fun y hy => by simp at hy; subst hy; exact .refl⟩, by simp; omega, by simp⟩
  have hf : v.2 = false := by simpa using hc
  obtain ⟨h1, _, h3⟩ := hv
  refine ⟨isort v.1, ?_, isort_lt h1.nd, fun y => ?_⟩
  · unfold p_reached
    rw [e, Option.bind_some, sortP_nD (by have := nodup_len n h1.nd h1.lt; omega)]; rfl
  · rw [isort_mem]
    exact ⟨h1.jn y, jp_closed (F := (· ∈ v.1)) h1.f0 (h3 hf)⟩
/-- the ends of roads -/
def endsL (w : Web) (l : List Nat) : List (Nat × Nat) := l.filterMap fun i => w.rs[i]?.map fun r => (r.a, r.b)
theorem endsL_mem {w : Web} {l : List Nat} {p : Nat × Nat} : p ∈ endsL w l ↔ ∃ i ∈ l, ∃ r, w.rs[i]? = some r ∧ p = (r.a, r.b) := by
  unfold endsL
  rw [List.mem_filterMap]
  constructor
  · rintro ⟨i, hi, h⟩
    obtain ⟨r, h1, h2⟩ := map_some_iff h
    exact ⟨i, hi, r, h1, h2.symm⟩
  · rintro ⟨i, hi, r, h1, rfl⟩
    exact ⟨i, hi, by rw [h1]; rfl⟩
theorem jp_iff {w : Web} {l : List Nat} (W : RdsOk w) {x y : Nat} : Jp (endsL w l) x y ↔ Jn w l x y := by
  constructor
  · intro j
    induction j with
    | refl => exact .refl
    | fwd _ h ih =>
      obtain ⟨i, hi, r, hr, rfl⟩ := endsL_mem.mp h
      exact .step ih hi (nb_ends hr)
    | bwd _ h ih =>
      obtain ⟨i, hi, r, hr, rfl⟩ := endsL_mem.mp h
      exact .step ih hi (nb_symm W (nb_ends hr))
  · intro j
    induction j with
    | refl => exact .refl
    | step _ hi h ih =>
      obtain ⟨r, hr, _⟩ := bind_some_iff (show w.rs[_]?.bind _ = some _ from h)
      have hm : (r.a, r.b) ∈ endsL w l := endsL_mem.mpr ⟨_, hi, r, hr, rfl⟩
      rcases nb_cases hr h with ⟨rfl, rfl⟩ | ⟨rfl, rfl⟩
      · exact .fwd (p := (r.a, r.b)) ih hm
      · exact .bwd (p := (r.a, r.b)) ih hm
theorem endsL_lt {w : Web} {l : List Nat} (W : RdsOk w) : ∀ p ∈ endsL w l, p.1 < w.n ∧ p.2 < w.n := fun p hp => by
  obtain ⟨i, hi, r, hr, rfl⟩ := endsL_mem.mp hp
  have := W r (List.mem_of_getElem? hr)
  exact ⟨Nat.lt_trans this.1 this.2, this.2⟩
theorem endsL_map {w : Web} {l : List Nat} (hl : ∀ i ∈ l, i < w.rs.length) : ∃ f : Nat → Nat × Nat, endsL w l = l.map f ∧ ∀ i ∈ l, p_ends_of w i = some (f i) := by
  refine ⟨fun i => match w.rs[i]? with
    | some r => (r.a, r.b)
    | none => (0, 0), ?_, fun i hi => ?_⟩
  · unfold endsL
    induction l with
    | nil => rfl
    | cons i l ih =>
      obtain ⟨r, hr⟩ := get_lt (hl i (.head _))
      rw [List.filterMap_cons_some (b := (r.a, r.b)) (by rw [hr]; rfl), List.map_cons, ih fun j hj => hl j (.tail _ hj), hr]
  · obtain ⟨r, hr⟩ := get_lt (hl i hi)
    rw [p_ends_of_eq hr]
    simp only [hr]
/-- the side of a road by some roads -/
theorem p_first_side_eq {w : Web} {l : List Nat} {road : Nat} {r : Rd} (hn : w.n ≤ 6) (W : RdsOk w) (hr : w.rs[road]? = some r) (hll : l.length ≤ 1000) (hl : ∀ i ∈ l, i < w.rs.length) :
    ∃ o, p_first_side w road l = some o ∧ (o = none ↔ Jn w (oks l road) r.a r.b) ∧ ∀ s, o = some s → s.Pairwise (· < ·) ∧ ∀ y, y ∈ s ↔ Jn w (oks l road) r.a y := by
  have Wr := W r (List.mem_of_getElem? hr)
  have hlo : ∀ i ∈ oks l road, i < w.rs.length := fun i hi => hl i (oks_mem.mp hi).1
  obtain ⟨f, hf1, hf2⟩ := endsL_map hlo
  obtain ⟨F, e, hF, hm⟩ := p_reached_eq (ps := endsL w (oks l road)) (x := r.a) (n := w.n) (by omega) (by omega) (endsL_lt W)
  have el : lcP (fun (x_2 : Nat) => some (decide (x_2 ≠ road))) (fun (x_2 : Nat) => (p_ends_of w x_2).bind fun ends_of_3 => some (ends_of_3 : (Nat × Nat))) l = some (endsL w (oks l road)) := by
    rw [hf1]
    exact lcP_eq (fun x => decide (x ≠ road)) f (by omega) (fun _ _ => rfl) fun x hx hp => by rw [hf2 x (by rw [oks, List.mem_filter]; exact ⟨hx, hp⟩)]; rfl
  refine ⟨if r.b ∈ F then none else some F, ?_, ?_, fun s hs => ?_⟩
  · unfold p_first_side
    rw [p_ends_of_eq hr, Option.bind_some, el, Option.bind_some, e, Option.bind_some]
    simp
  · rw [← jp_iff W, ← hm]
    by_cases hb : r.b ∈ F
    · rw [if_pos hb]; exact ⟨fun _ => hb, fun _ => rfl⟩
    · rw [if_neg hb]; exact Iff.intro (fun h => nomatch h) (fun h => absurd h hb)
  · split at hs
    · cases hs
    · cases hs
      exact ⟨hF, fun y => by rw [hm, jp_iff W]⟩
end G

namespace G
open PySem PySem.Spec L2 Pv
theorem nd_sub_len : ∀ (U T : List Nat), U.Nodup → (∀ i ∈ U, i ∈ T) → U.length ≤ T.length
  | [], T, _, _ => Nat.zero_le _
  | x :: U, T, nd, h => by
    rw [List.nodup_cons] at nd
    have hx := h x (.head _)
    have := nd_sub_len U (T.erase x) nd.2 fun i hi => (List.mem_erase_of_ne (fun e => by subst e; exact nd.1 hi)).mpr (h i (.tail _ hi))
    rw [List.length_erase_of_mem hx] at this
    have := List.length_pos_of_mem hx
    simp; omega
theorem nd_perm {U T : List Nat} (u : U.Nodup) (t : T.Nodup) (h : ∀ i ∈ U, i ∈ T) (hl : T.length ≤ U.length) : U.Perm T := by
  refine (List.perm_ext_iff_of_nodup u t).mpr fun i => ⟨h i, fun hi => Classical.byContradiction fun hn => ?_⟩
  have := nd_sub_len (i :: U) T (List.nodup_cons.mpr ⟨hn, u⟩) fun j hj => by
    rcases List.mem_cons.mp hj with rfl | hj
    · exact hi
    · exact h j hj
  simp at this
  omega
/-- all houses are joined -/
def Jall (w : Web) (l : List Nat) : Prop := ∀ x, x < w.n → Jn w l 0 x
/-- without a road -/
def wo (l : List Nat) (c : Nat) : List Nat := l.filter fun i => decide (i ≠ c)
theorem wo_mem {l : List Nat} {c i : Nat} : i ∈ wo l c ↔ i ∈ l ∧ i ≠ c := by simp [wo]
theorem wo_len {l : List Nat} {c : Nat} (nd : l.Nodup) (h : c ∈ l) : (wo l c).length + 1 = l.length := by
  have p : (c :: wo l c).Perm l := (List.perm_ext_iff_of_nodup (List.nodup_cons.mpr ⟨fun h => (wo_mem.mp h).2 rfl, nd.filter _⟩) nd).mpr fun i => by
    rw [List.mem_cons, wo_mem]
    constructor
    · rintro (rfl | h')
      · exact h
      · exact h'.1
    · intro h'
      by_cases e : i = c
      · exact .inl e
      · exact .inr ⟨h', e⟩
  have := p.length_eq
  simpa using this
theorem wo_perm {l : List Nat} {c : Nat} (nd : l.Nodup) (h : c ∈ l) : (c :: wo l c).Perm l := (List.perm_ext_iff_of_nodup (List.nodup_cons.mpr ⟨fun h => (wo_mem.mp h).2 rfl, nd.filter _⟩) nd).mpr fun i => by
    rw [List.mem_cons, wo_mem]
    constructor
    · rintro (rfl | h')
      · exact h
      · exact h'.1
    · intro h'
      by_cases e : i = c
      · exact .inl e
      · exact .inr ⟨h', e⟩
section
variable {w : Web}
theorem nb_fun {i x y z u : Nat} (W : RdsOk w) (h : nb w i x = some y) (k : nb w i z = some u) : (z = x ∧ u = y) ∨ (z = y ∧ u = x) := by
  obtain ⟨r, hr, _⟩ := bind_some_iff (show w.rs[i]?.bind _ = some _ from h)
  rcases nb_cases hr h with ⟨rfl, rfl⟩ | ⟨rfl, rfl⟩ <;> rcases nb_cases hr k with ⟨rfl, rfl⟩ | ⟨rfl, rfl⟩ <;> simp
/-- a walk uses a road, or not -/
theorem jn_split (W : RdsOk w) {l : List Nat} {c p q : Nat} (j : Jn w l p q) : Jn w (wo l c) p q ∨ ∃ u v, c ∈ l ∧ nb w c u = some v ∧ Jn w (wo l c) p u ∧ Jn w (wo l c) v q := by
  induction j with
  | refl => exact .inl .refl
  | step _ hi hn ih =>
    rename_i y z i _
    by_cases e : i = c
    · subst e
      rcases ih with h | ⟨u, v, _, h1, h2, h3⟩
      · exact .inr ⟨y, z, hi, hn, h, .refl⟩
      · rcases nb_fun W h1 hn with ⟨rfl, rfl⟩ | ⟨rfl, rfl⟩
        · exact .inr ⟨_, _, hi, hn, h2, .refl⟩
        · exact .inl h2
    · have hw : i ∈ wo l c := wo_mem.mpr ⟨hi, e⟩
      rcases ih with h | ⟨u, v, h0, h1, h2, h3⟩
      · exact .inl (.step h hw hn)
      · exact .inr ⟨u, v, h0, h1, h2, .step h3 hw hn⟩
/-- each house is joined to some root: there are no more houses than roads and roots -/
theorem card_roots (W : RdsOk w) : ∀ (l S : List Nat), (∀ x, x < w.n → ∃ s ∈ S, Jn w l s x) → w.n ≤ l.length + S.length
  | [], S, h => by
    have : ∀ x ∈ List.range w.n, x ∈ S := fun x hx => by
      obtain ⟨s, hs, j⟩ := h x (List.mem_range.mp hx)
      have : x = s := by
        cases j with
        | refl => rfl
        | step _ hi _ => simp at hi
      exact this ▸ hs
    have key : ∀ (n : Nat) (S : List Nat), (∀ x, x < n → x ∈ S) → n ≤ S.length := by
      intro n
      induction n with
      | zero => intro S _; omega
      | succ n ih =>
        intro S hS
        have h1 := hS n (by omega)
        have := ih (S.erase n) fun x hx => (List.mem_erase_of_ne (by omega)).mpr (hS x (by omega))
        rw [List.length_erase_of_mem h1] at this
        have := List.length_pos_of_mem h1
        omega
    have := key w.n S fun x hx => this x (List.mem_range.mpr hx)
    simpa using this
  | i :: l, S, h => by
    have hw : ∀ j ∈ wo (i :: l) i, j ∈ l := fun j hj => by
      obtain ⟨a, b⟩ := wo_mem.mp hj
      rcases List.mem_cons.mp a with e | e
      · exact absurd e b
      · exact e
    by_cases hc : ∃ u v s, s ∈ S ∧ nb w i u = some v ∧ Jn w l s u
    · obtain ⟨u, v, s, hs, hn, hj⟩ := hc
      have := card_roots W l (v :: S) fun x hx => by
        obtain ⟨s', hs', j⟩ := h x hx
        rcases jn_split (c := i) W j with k | ⟨u', v', _, h1, h2, h3⟩
        · exact ⟨s', .tail _ hs', k.mono hw⟩
        · rcases nb_fun W hn h1 with ⟨rfl, rfl⟩ | ⟨rfl, rfl⟩
          · exact ⟨_, .head _, h3.mono hw⟩
          · exact ⟨s, .tail _ hs, hj.trans (h3.mono hw)⟩
      simp at this ⊢
      omega
    · have := card_roots W l S fun x hx => by
        obtain ⟨s', hs', j⟩ := h x hx
        rcases jn_split (c := i) W j with k | ⟨u', v', _, h1, h2, h3⟩
        · exact ⟨s', hs', k.mono hw⟩
        · exact absurd ⟨u', v', s', hs', h1, h2.mono hw⟩ hc
      simp at this ⊢
      omega
theorem jall_len (W : RdsOk w) {l : List Nat} (h : Jall w l) : w.n ≤ l.length + 1 := card_roots W l [0] fun x hx => ⟨0, by simp, h x hx⟩
/-- a tree of roads -/
structure Tr (w : Web) (T : List Nat) : Prop where
  nd : T.Nodup
  lt : ∀ i ∈ T, i < w.rs.length
  len : T.length + 1 = w.n
  ja : Jall w T
theorem Tr.all (W : RdsOk w) {T : List Nat} (t : Tr w T) {x y : Nat} (hx : x < w.n) (hy : y < w.n) : Jn w T x y := ((t.ja x hx).symm W).trans (t.ja y hy)
/-- without one of its roads a tree joins the ends no more -/
theorem Tr.cut (W : RdsOk w) {T : List Nat} (t : Tr w T) {c u v : Nat} (hc : c ∈ T) (hn : nb w c u = some v) : ¬ Jn w (wo T c) u v := fun j => by
  have : Jall w (wo T c) := fun x hx => by
    rcases jn_split (c := c) W (t.ja x hx) with k | ⟨u', v', _, h1, h2, h3⟩
    · exact k
    · rcases nb_fun W hn h1 with ⟨rfl, rfl⟩ | ⟨rfl, rfl⟩
      · exact (h2.trans j).trans h3
      · exact (h2.trans (j.symm W)).trans h3
  have h1 := jall_len W this
  have h2 := wo_len t.nd hc
  have h3 := t.len
  omega
theorem Tr.two (W : RdsOk w) {T : List Nat} (t : Tr w T) {c u v : Nat} (hc : c ∈ T) (hn : nb w c u = some v) {x : Nat} (hx : x < w.n) : Jn w (wo T c) u x ∨ Jn w (wo T c) v x := by
  have hu := nb_lt W (nb_symm W hn)
  rcases jn_split (c := c) W (t.all W hu hx) with k | ⟨u', v', _, h1, h2, h3⟩
  · exact .inl k
  · rcases nb_fun W hn h1 with ⟨rfl, rfl⟩ | ⟨rfl, rfl⟩
    · exact .inr h3
    · exact .inl h3
/-- an exchange of roads -/
theorem Tr.exch (W : RdsOk w) {T : List Nat} (t : Tr w T) {c e p q : Nat} (hc : c ∈ T) (he : nb w e p = some q) (hel : e < w.rs.length) (hj : ¬ Jn w (wo T c) p q) : Tr w (e :: wo T c) := by
  obtain ⟨r, hr⟩ := get_lt (t.lt c hc)
  have hn := nb_ends hr
  have hp := nb_lt W (nb_symm W he)
  have hq := nb_lt W he
  have up : ∀ {x y}, Jn w (wo T c) x y → Jn w (e :: wo T c) x y := fun j => j.mono fun i hi => .tail _ hi
  have hpq : Jn w (e :: wo T c) p q := .step .refl (.head _) he
  have uv : Jn w (e :: wo T c) r.a r.b := by
    rcases t.two W hc hn hp with a | a <;> rcases t.two W hc hn hq with b | b
    · exact absurd ((a.symm W).trans b) hj
    · exact ((up a).trans hpq).trans ((up b).symm W)
    · exact ((up b).trans (hpq.symm W)).trans ((up a).symm W)
    · exact absurd ((a.symm W).trans b) hj
  refine ⟨List.nodup_cons.mpr ⟨fun h => ?_, t.nd.filter _⟩, fun i hi => ?_, by rw [List.length_cons, wo_len t.nd hc]; exact t.len, fun x hx => ?_⟩
  · exact hj (.step .refl h he)
  · rcases List.mem_cons.mp hi with rfl | hi
    · exact hel
    · exact t.lt i (wo_mem.mp hi).1
  · have h0 : ∀ y, y < w.n → Jn w (e :: wo T c) r.a y := fun y hy => by
      rcases t.two W hc hn hy with a | a
      · exact up a
      · exact uv.trans (up a)
    exact ((h0 0 (by omega)).symm W).trans (h0 x hx)
/-- the other way about -/
theorem Tr.exch_iff (W : RdsOk w) {T : List Nat} (t : Tr w T) {c e p q : Nat} (hc : c ∈ T) (he : nb w e p = some q) (hel : e < w.rs.length) : Jall w (e :: wo T c) ↔ ¬ Jn w (wo T c) p q := by
  constructor
  · intro h j
    have : Jall w (wo T c) := fun x hx => by
      rcases jn_split (c := e) W (h x hx) with k | ⟨u', v', _, h1, h2, h3⟩
      · exact k.mono fun i hi => by
          obtain ⟨a, b⟩ := wo_mem.mp hi
          rcases List.mem_cons.mp a with z | z
          · exact absurd z b
          · exact z
      · have mo : ∀ i ∈ wo (e :: wo T c) e, i ∈ wo T c := fun i hi => by
          obtain ⟨a, b⟩ := wo_mem.mp hi
          rcases List.mem_cons.mp a with z | z
          · exact absurd z b
          · exact z
        rcases nb_fun W he h1 with ⟨rfl, rfl⟩ | ⟨rfl, rfl⟩
        · exact ((h2.mono mo).trans j).trans (h3.mono mo)
        · exact ((h2.mono mo).trans (j.symm W)).trans (h3.mono mo)
    have h1 := jall_len W this
    have h2 := wo_len t.nd hc
    have h3 := t.len
    omega
  · exact fun h => (t.exch W hc he hel h).ja
/-- roads that must be passed: one of them parts p and q -/
theorem jn_key (W : RdsOk w) {p q : Nat} : ∀ (X l : List Nat), Jn w l p q → ¬ Jn w (l.filter fun i => decide (i ∉ X)) p q → ∃ c ∈ X, c ∈ l ∧ ∃ u v, nb w c u = some v ∧ Jn w (wo l c) p u ∧ Jn w (wo l c) v q
  | [], l, j, h => absurd (j.mono fun i hi => by simpa using hi) h
  | c :: X, l, j, h => by
    by_cases k : Jn w (wo l c) p q
    · obtain ⟨d, hd, hdl, u, v, h1, h2, h3⟩ := jn_key W X (wo l c) k fun z => h (z.mono fun i hi => by
        rw [List.mem_filter, wo_mem] at hi
        rw [List.mem_filter]
        refine ⟨hi.1.1, ?_⟩
        have := hi.2
        simp at this ⊢
        exact ⟨hi.1.2, this⟩)
      have mo : ∀ i ∈ wo (wo l c) d, i ∈ wo l d := fun i hi => by
        rw [wo_mem, wo_mem] at hi
        exact wo_mem.mpr ⟨hi.1.1, hi.2⟩
      exact ⟨d, .tail _ hd, (wo_mem.mp hdl).1, u, v, h1, h2.mono mo, h3.mono mo⟩
    · rcases jn_split (c := c) W j with z | ⟨u, v, h0, h1, h2, h3⟩
      · exact absurd z k
      · exact ⟨c, .head _, h0, u, v, h1, h2, h3⟩
/-- a tree passes each cut between p and q, by a road that can be exchanged -/
theorem Tr.pass (W : RdsOk w) {T : List Nat} (t : Tr w T) {p q : Nat} (hp : p < w.n) (hq : q < w.n) (S : Nat → Bool) (h1 : S p = true) (h2 : S q = false) : ∃ c ∈ T, (∃ u v, nb w c u = some v ∧ S u ≠ S v) ∧ ¬ Jn w (wo T c) p q := by
  let X := T.filter fun i => match w.rs[i]? with
    | some r => S r.a != S r.b
    | none => false
  have hX : ∀ i r, w.rs[i]? = some r → (i ∈ X ↔ i ∈ T ∧ S r.a ≠ S r.b) := fun i r hr => by
    show i ∈ T.filter _ ↔ _
    rw [List.mem_filter, hr]
    simp
  have nj : ¬ Jn w (T.filter fun i => decide (i ∉ X)) p q := fun j => by
    have : S q = true := jn_closed (F := fun x => S x = true) h1 (fun y hy i hi z hz => by
      rw [List.mem_filter] at hi
      obtain ⟨r, hr⟩ := get_lt (t.lt i hi.1)
      have hnx : i ∉ X := by simpa using hi.2
      have : S r.a = S r.b := by
        refine Classical.byContradiction fun hne => hnx ((hX i r hr).mpr ⟨hi.1, hne⟩)
      rcases nb_cases hr hz with ⟨rfl, rfl⟩ | ⟨rfl, rfl⟩
      · rw [← this]; exact hy
      · rw [this]; exact hy) j
    rw [h2] at this
    cases this
  obtain ⟨c, hc, hcT, u, v, hn, j1, j2⟩ := jn_key W X T (t.all W hp hq) nj
  refine ⟨c, hcT, ⟨u, v, hn, ?_⟩, fun j => t.cut W hcT hn ((j1.symm W).trans (j.trans (j2.symm W)))⟩
  obtain ⟨r, hr⟩ := get_lt (t.lt c hcT)
  have := ((hX c r hr).mp hc).2
  rcases nb_cases hr hn with ⟨rfl, rfl⟩ | ⟨rfl, rfl⟩
  · exact this
  · exact fun e => this e.symm
/-- the total of a tree -/
def tot (f : Nat → Nat) (T : List Nat) : Nat := (T.map f).sum
theorem tot_perm {f : Nat → Nat} {T U : List Nat} (h : T.Perm U) : tot f T = tot f U := (h.map f).sum_nat
theorem tot_wo {f : Nat → Nat} {T : List Nat} {c : Nat} (nd : T.Nodup) (h : c ∈ T) : f c + tot f (wo T c) = tot f T := by
  rw [← tot_perm (f := f) (wo_perm nd h)]; simp [tot]
/-- no exchange makes it less: it is least -/
theorem Tr.least (W : RdsOk w) {f : Nat → Nat} {T : List Nat} (t : Tr w T) (h : ∀ c ∈ T, ∀ e p q, e < w.rs.length → e ∉ T → nb w e p = some q → ¬ Jn w (wo T c) p q → f c ≤ f e) : ∀ (k : Nat) (U : List Nat), Tr w U → (U.filter fun i => decide (i ∉ T)).length ≤ k → tot f T ≤ tot f U
  | k, U, u, hk => by
    cases hF : U.filter fun i => decide (i ∉ T) with
    | nil =>
      have sub : ∀ i ∈ U, i ∈ T := fun i hi => by
        have := List.filter_eq_nil_iff.mp hF i hi
        simpa using this
      have pm : U.Perm T := by
        have l1 := u.len
        have l2 := t.len
        exact nd_perm u.nd t.nd sub (by omega)
      exact Nat.le_of_eq (tot_perm pm).symm
    | cons e E =>
      have he : e ∈ U.filter fun i => decide (i ∉ T) := by rw [hF]; exact .head _
      rw [List.mem_filter] at he
      have heT : e ∉ T := by simpa using he.2
      obtain ⟨r, hr⟩ := get_lt (u.lt e he.1)
      have hn := nb_ends hr
      have lt := W r (List.mem_of_getElem? hr)
      have nj := u.cut W he.1 hn
      obtain ⟨S, hS⟩ : ∃ S : Nat → Bool, ∀ x, S x = true ↔ Jn w (wo U e) r.a x := by
        classical
        exact ⟨fun x => decide (Jn w (wo U e) r.a x), fun x => by simp⟩
      obtain ⟨c, hcT, ⟨x, y, hxy, hne⟩, hnj⟩ := t.pass W (p := r.a) (q := r.b) (by omega) (by omega) S ((hS _).mpr .refl) (by
        rw [Bool.eq_false_iff]; exact fun z => nj ((hS _).mp z))
      have hle : f c ≤ f e := h c hcT e r.a r.b (u.lt e he.1) heT hn hnj
      have hxn : ¬ Jn w (wo U e) x y := fun j => hne (by
        have : S x = true ↔ S y = true := by
          rw [hS, hS]
          exact ⟨fun a => a.trans j, fun a => a.trans (j.symm W)⟩
        exact Bool.eq_iff_iff.mpr this)
      have u' := u.exch W he.1 hxy (t.lt c hcT) hxn
      have hcU : c ∉ U := fun hc => by
        have : c ≠ e := fun z => heT (z ▸ hcT)
        exact hxn (.step .refl (wo_mem.mpr ⟨hc, this⟩) hxy)
      have hlen : ((c :: wo U e).filter fun i => decide (i ∉ T)).length + 1 = (U.filter fun i => decide (i ∉ T)).length := by
        rw [List.filter_cons_of_neg (by simpa using hcT)]
        have hf : (wo U e).filter (fun i => decide (i ∉ T)) = wo (U.filter fun i => decide (i ∉ T)) e := by
          unfold wo
          rw [List.filter_filter, List.filter_filter]
          exact List.filter_congr fun i _ => Bool.and_comm _ _
        rw [hf]
        exact wo_len (u.nd.filter _) (by rw [hF]; exact .head _)
      cases k with
      | zero => rw [hF] at hk; simp at hk
      | succ k =>
        have ih := Tr.least W t h k (c :: wo U e) u' (by omega)
        have h1 : tot f (c :: wo U e) = f c + tot f (wo U e) := by simp [tot]
        have h2 := tot_wo (f := f) u.nd he.1
        omega
theorem Tr.least' (W : RdsOk w) {f : Nat → Nat} {T U : List Nat} (t : Tr w T) (u : Tr w U) (h : ∀ c ∈ T, ∀ e p q, e < w.rs.length → e ∉ T → nb w e p = some q → ¬ Jn w (wo T c) p q → f c ≤ f e) : tot f T ≤ tot f U := t.least W h _ U u (Nat.le_refl _)
/-- a tree that is least -/
def Lst (w : Web) (f : Nat → Nat) (T : List Nat) : Prop := Tr w T ∧ ∀ U, Tr w U → tot f T ≤ tot f U
theorem exists_least {f : Nat → Nat} (h : ∃ T, Tr w T) : ∃ T, Lst w f T := by
  obtain ⟨T, t⟩ := h
  have key : ∀ (k : Nat) (T : List Nat), Tr w T → tot f T ≤ k → ∃ T, Lst w f T := by
    intro k
    induction k with
    | zero => intro T t hk; exact ⟨T, t, fun U _ => by omega⟩
    | succ k ih =>
      intro T t hk
      by_cases hx : ∃ U, Tr w U ∧ tot f U < tot f T
      · obtain ⟨U, u, hu⟩ := hx
        exact ih U u (by omega)
      · exact ⟨T, t, fun U u => Classical.byContradiction fun hn => hx ⟨U, u, by omega⟩⟩
  exact key _ T t (Nat.le_refl _)
/-- the shortest road out of a set may be taken -/
theorem Lst.add (W : RdsOk w) {f : Nat → Nat} {T Q : List Nat} (t : Lst w f T) (hQ : ∀ i ∈ Q, i ∈ T) (S : Nat → Bool) (hS : ∀ i ∈ Q, ∀ u v, nb w i u = some v → S u = S v) {e p q : Nat} (he : nb w e p = some q) (hel : e < w.rs.length) (h1 : S p = true) (h2 : S q = false) (hmin : ∀ i, i < w.rs.length → (∃ u v, nb w i u = some v ∧ S u ≠ S v) → f e ≤ f i) : ∃ T', Lst w f T' ∧ ∀ i ∈ e :: Q, i ∈ T' := by
  by_cases heT : e ∈ T
  · exact ⟨T, t, fun i hi => by
      rcases List.mem_cons.mp hi with rfl | hi
      · exact heT
      · exact hQ i hi⟩
  · obtain ⟨c, hcT, ⟨u, v, huv, hne⟩, hnj⟩ := t.1.pass W (nb_lt W (nb_symm W he)) (nb_lt W he) S h1 h2
    have t' := t.1.exch W hcT he hel hnj
    have hle := hmin c (t.1.lt c hcT) ⟨u, v, huv, hne⟩
    refine ⟨e :: wo T c, ⟨t', fun U hU => ?_⟩, fun i hi => ?_⟩
    · have a := t.2 U hU
      have b := tot_wo (f := f) t.1.nd hcT
      have d : tot f (e :: wo T c) = f e + tot f (wo T c) := by simp [tot]
      omega
    · rcases List.mem_cons.mp hi with rfl | hi
      · exact .head _
      · exact .tail _ (wo_mem.mpr ⟨hQ i hi, fun z => by subst z; exact hne (hS i hi u v huv)⟩)
end
end G

namespace G
open PySem PySem.Spec L2 Pv
theorem ltBy_pair (a b : Nat × Nat) : ltBy (p2 nD nD) a b = decide (a.1 < b.1 ∨ (a.1 = b.1 ∧ a.2 < b.2)) := by
  show PyProof.Rows.lexLt PyProof.Rows.itemOrd (PySem.W.keyToks (py (p2 nD nD a))) (PySem.W.keyToks (py (p2 nD nD b))) = _
  obtain ⟨a1, a2⟩ := a
  obtain ⟨b1, b2⟩ := b
  simp only [p2, nD, py, pyAll, PySem.W.keyToks, PySem.W.keyToksAll]
  simp [PyProof.Rows.lexLt, PyProof.Rows.itemLt, PyProof.Rows.itemOrd]
  by_cases h1 : a1 < b1
  · simp [h1]
  · by_cases h2 : a1 = b1
    · subst h2; simp
    · have : b1 < a1 := by omega
      simp [h1, h2, this]
theorem minBy_pair : ∀ (xs : List (Nat × Nat)) (x : Nat × Nat), minBy (p2 nD nD) x xs ∈ x :: xs ∧ ∀ y ∈ x :: xs, (minBy (p2 nD nD) x xs).1 ≤ y.1
  | [], x => ⟨.head _, fun y hy => by simp at hy; subst hy; exact Nat.le_refl _⟩
  | z :: xs, x => by
    have e : minBy (p2 nD nD) x (z :: xs) = minBy (p2 nD nD) (if ltBy (p2 nD nD) z x = true then z else x) xs := rfl
    obtain ⟨h1, h2⟩ := minBy_pair xs (if ltBy (p2 nD nD) z x = true then z else x)
    have h0 := h2 _ (.head _)
    rw [e]
    rw [ltBy_pair] at h0 h1 h2 ⊢
    by_cases hb : z.1 < x.1 ∨ (z.1 = x.1 ∧ z.2 < x.2)
    · rw [if_pos (by simpa using hb)] at h0 h1 h2 ⊢
      refine ⟨.tail _ h1, fun y hy => ?_⟩
      rcases List.mem_cons.mp hy with rfl | hy
      · omega
      · exact h2 y hy
    · rw [if_neg (by simpa using hb)] at h0 h1 h2 ⊢
      refine ⟨?_, fun y hy => ?_⟩
      · rcases List.mem_cons.mp h1 with h | h
        · rw [h]; exact .head _
        · exact .tail _ (.tail _ h)
      · rcases List.mem_cons.mp hy with rfl | hy
        · exact h0
        · rcases List.mem_cons.mp hy with rfl | hy
          · omega
          · exact h2 y (.tail _ hy)
theorem mmOk_pairs (xs : List (Nat × Nat)) : mmOk (xs.map (p2 nD nD)) = true := by
  unfold mmOk
  simp only [Bool.and_eq_true, List.all_eq_true, List.mem_map]
  refine ⟨⟨?_, ?_⟩, ?_⟩
  · rintro _ ⟨x, _, rfl⟩; rfl
  · rintro _ ⟨x, _, rfl⟩ _ ⟨y, _, rfl⟩; rfl
  · rintro _ ⟨x, _, rfl⟩; rfl
theorem minByP_pair {xs : List (Nat × Nat)} (h : xs ≠ []) : ∃ m, minByP (p2 nD nD) xs = some m ∧ m ∈ xs ∧ ∀ y ∈ xs, m.1 ≤ y.1 := by
  cases xs with
  | nil => exact absurd rfl h
  | cons x xs =>
    obtain ⟨h1, h2⟩ := minBy_pair xs x
    exact ⟨_, if_pos (mmOk_pairs _), h1, h2⟩
def loF (w : Web) (i : Nat) : Nat := ((w.rs[i]?).map Rd.lo).getD 0
def hiF (w : Web) (i : Nat) : Nat := ((w.rs[i]?).map Rd.hi).getD 0
theorem loF_eq {w : Web} {i : Nat} {r : Rd} (h : w.rs[i]? = some r) : loF w i = r.lo := by unfold loF; rw [h]; rfl
theorem hiF_eq {w : Web} {i : Nat} {r : Rd} (h : w.rs[i]? = some r) : hiF w i = r.hi := by unfold hiF; rw [h]; rfl
theorem p_low_F {w : Web} {i : Nat} (h : i < w.rs.length) : p_low_of w i = some (loF w i) := by
  obtain ⟨r, hr⟩ := get_lt h
  rw [p_low_of_eq hr, loF_eq hr]
theorem p_high_F {w : Web} {i : Nat} (h : i < w.rs.length) : p_high_of w i = some (hiF w i) := by
  obtain ⟨r, hr⟩ := get_lt h
  rw [p_high_of_eq hr, hiF_eq hr]
/-- lengths as a function -/
def lf (ls : List Nat) (i : Nat) : Nat := ls.getD i 0
theorem lf_rai {w : Web} {l : List Nat} {i : Nat} (h : i < w.rs.length) : lf (rai w l) i = if i ∈ l then hiF w i else loF w i := by
  obtain ⟨r, hr⟩ := get_lt h
  unfold lf
  rw [List.getD_eq_getElem?_getD, rai_get hr, hiF_eq hr, loF_eq hr]; rfl
theorem lf_get {ls : List Nat} {i : Nat} (h : i < ls.length) : ls[i]? = some (lf ls i) := by
  unfold lf
  rw [List.getD_eq_getElem?_getD, List.getElem?_eq_getElem h]; rfl
section
variable {α β σ R : Type}
theorem forP_flat {b : α → List β → Option (List β)} {g : α → List β} (N c : Nat) : ∀ (xs : List α) (v : List β), v.length + xs.length * c ≤ N → (∀ x ∈ xs, (g x).length ≤ c) → (∀ x ∈ xs, ∀ v : List β, v.length ≤ N → b x v = some (v ++ g x)) → forP b xs v = some (v ++ xs.flatMap g)
  | [], v, _, _, _ => by simp [forP]
  | x :: xs, v, hl, hc, hs => by
    show (b x v).bind _ = _
    have h1 := hc x (.head _)
    rw [List.length_cons, Nat.add_mul, Nat.one_mul] at hl
    rw [hs x (.head _) v (by omega), Option.bind_some, forP_flat N c xs (v ++ g x) (by rw [List.length_append]; omega) (fun y hy => hc y (.tail _ hy)) fun y hy => hs y (.tail _ hy)]
    simp
theorem forC_find {b : α → Unit → Option (Ctl Unit R)} (p : α → Bool) (f : α → R) : ∀ (xs : List α), (∀ x ∈ xs, b x () = some (if p x = true then .rt (f x) else .nx ())) → forC b xs () = some (match xs.find? p with
    | some x => .inl (f x)
    | none => .inr ())
  | [], _ => rfl
  | x :: xs, hs => by
    show (b x ()).bind _ = _
    rw [hs x (.head _), Option.bind_some]
    cases hp : p x with
    | true => rw [List.find?_cons_of_pos hp, if_pos rfl]
    | false =>
      rw [List.find?_cons_of_neg (by simp [hp]), if_neg (by simp)]
      exact forC_find p f xs fun y hy => hs y (.tail _ hy)
end
theorem p_do_join_eq {w : Web} {l : List Nat} (W : RdsOk w) (hn : w.n ≤ 6) (h1 : 1 ≤ w.n) (hll : l.length ≤ 1000) (hl : ∀ i ∈ l, i < w.rs.length) : ∃ b, p_do_join w l = some b ∧ (b = true ↔ Jall w l) := by
  obtain ⟨f, hf1, hf2⟩ := endsL_map hl
  obtain ⟨F, e, hF, hm⟩ := p_reached_eq (ps := endsL w l) (x := 0) (n := w.n) (by omega) (by omega) (endsL_lt W)
  have nd : F.Nodup := hF.imp fun h => Nat.ne_of_lt h
  have lt : ∀ x ∈ F, x < w.n := fun x hx => ((jp_iff W).mp ((hm x).mp hx)).lt W (by omega)
  have el : lcP (fun (_ : Nat) => some true) (fun (x_1 : Nat) => (p_ends_of w x_1).bind fun ends_of_2 => some (ends_of_2 : (Nat × Nat))) l = some (endsL w l) := by
    rw [hf1]
    exact lcP_map f (by omega) fun x hx => by rw [hf2 x hx]; rfl
  refine ⟨decide (F.length = w.n), ?_, ?_⟩
  · unfold p_do_join
    rw [el, Option.bind_some, e, Option.bind_some]
  · rw [decide_eq_true_eq]
    constructor
    · intro hl x hx
      have : F.Perm (List.range w.n) := nd_perm nd List.nodup_range (fun i hi => List.mem_range.mpr (lt i hi)) (by rw [List.length_range]; omega)
      exact (jp_iff W).mp ((hm x).mp (this.mem_iff.mpr (List.mem_range.mpr hx)))
    · intro h
      have h2 := nodup_len _ nd lt
      have h3 := nd_sub_len (List.range w.n) F List.nodup_range fun i hi => (hm i).mpr ((jp_iff W).mpr (h i (List.mem_range.mp hi)))
      rw [List.length_range] at h3
      omega
end G

namespace G
open PySem PySem.Spec L2 Pv
def addF (p : List Nat × List Nat) (t : Nat) : List Nat × List Nat := if t ∈ p.1 then p else (p.1 ++ [t], p.2 ++ [t])
def addR (p : List Nat × List Nat) (h : Nat) (r : Rd) : List Nat × List Nat := if h = r.a ∨ h = r.b then addF (addF p r.a) r.b else p
/-- found and waiting, between two roads -/
structure RcOk (w : Web) (ok : List Nat) (x : Nat) (p : List Nat × List Nat) : Prop where
  f0 : x ∈ p.1
  nd : p.1.Nodup
  nq : p.2.Nodup
  lt : ∀ y ∈ p.1, y < w.n
  jn : ∀ y ∈ p.1, Jn w ok x y
  qf : ∀ y ∈ p.2, y ∈ p.1
theorem addF_ok {w : Web} {ok : List Nat} {x t : Nat} {p : List Nat × List Nat} (R : RcOk w ok x p) (h1 : t < w.n) (h2 : Jn w ok x t) : RcOk w ok x (addF p t) := by
  unfold addF
  split
  · exact R
  · rename_i ht
    have nin : ∀ (l : List Nat), t ∉ l → l.Nodup → (l ++ [t]).Nodup := fun l h nd => List.nodup_append.mpr ⟨nd, by simp, fun a ha b hb e => by simp at hb; subst hb; subst e; exact h ha⟩
    refine ⟨List.mem_append_left _ R.f0, nin _ ht R.nd, nin _ (fun h => ht (R.qf _ h)) R.nq, fun y hy => ?_, fun y hy => ?_, fun y hy => ?_⟩
    · rcases List.mem_append.mp hy with hy | hy
      · exact R.lt y hy
      · simp at hy; subst hy; exact h1
    · rcases List.mem_append.mp hy with hy | hy
      · exact R.jn y hy
      · simp at hy; subst hy; exact h2
    · rcases List.mem_append.mp hy with hy | hy
      · exact List.mem_append_left _ (R.qf y hy)
      · exact List.mem_append_right _ hy
theorem addF_sub {p : List Nat × List Nat} {t : Nat} : (∀ y ∈ p.1, y ∈ (addF p t).1) ∧ (∀ y ∈ p.2, y ∈ (addF p t).2) ∧ t ∈ (addF p t).1 ∧ ∀ y ∈ (addF p t).1, y ∉ p.1 → y ∈ (addF p t).2 := by
  unfold addF
  split
  · rename_i h
    exact ⟨fun y h => h, fun y h => h, h, fun y h1 h2 => absurd h1 h2⟩
  · refine ⟨fun y h => List.mem_append_left _ h, fun y h => List.mem_append_left _ h, by simp, fun y h1 h2 => ?_⟩
    rcases List.mem_append.mp h1 with h1 | h1
    · exact absurd h1 h2
    · exact List.mem_append_right _ h1
theorem addF_cnt {p : List Nat × List Nat} {t : Nat} : (addF p t).2.length + p.1.length = (addF p t).1.length + p.2.length := by
  unfold addF
  split
  · omega
  · simp; omega
/-- what one step may do -/
structure Grw (p q : List Nat × List Nat) : Prop where
  f : ∀ y ∈ p.1, y ∈ q.1
  w : ∀ y ∈ p.2, y ∈ q.2
  new : ∀ y ∈ q.1, y ∉ p.1 → y ∈ q.2
  cnt : q.2.length + p.1.length = q.1.length + p.2.length
  len : p.1.length ≤ q.1.length
theorem Grw.refl (p : List Nat × List Nat) : Grw p p := ⟨fun _ h => h, fun _ h => h, fun _ a b => absurd a b, by omega, Nat.le_refl _⟩
theorem Grw.trans {a b c : List Nat × List Nat} (h1 : Grw a b) (h2 : Grw b c) : Grw a c :=
  ⟨fun y h => h2.f y (h1.f y h), fun y h => h2.w y (h1.w y h), fun y hc ha => by
    by_cases hb : y ∈ b.1
    · exact h2.w y (h1.new y hb ha)
    · exact h2.new y hc hb, by have := h1.cnt; have := h2.cnt; omega, Nat.le_trans h1.len h2.len⟩
theorem addF_grw (p : List Nat × List Nat) (t : Nat) : Grw p (addF p t) := ⟨addF_sub.1, addF_sub.2.1, addF_sub.2.2.2, addF_cnt, by unfold addF; split <;> simp⟩
theorem addR_ok {w : Web} {ok : List Nat} {x h i : Nat} {r : Rd} {p : List Nat × List Nat} (W : RdsOk w) (R : RcOk w ok x p) (hh : h ∈ p.1) (hi : i ∈ ok) (hr : w.rs[i]? = some r) :
    RcOk w ok x (addR p h r) ∧ Grw p (addR p h r) ∧ ∀ z, nb w i h = some z → z ∈ (addR p h r).1 := by
  have lt := W r (List.mem_of_getElem? hr)
  have nbe : nb w i h = bey r h := by unfold nb; rw [hr]; rfl
  unfold addR
  by_cases hm : h = r.a ∨ h = r.b
  · rw [if_pos hm]
    have ja : Jn w ok x r.a := by
      rcases hm with e | e
      · rw [← e]; exact R.jn h hh
      · exact .step (R.jn h hh) hi (by rw [nbe]; unfold bey; rw [if_neg (by omega), if_pos e])
    have jb : Jn w ok x r.b := by
      rcases hm with e | e
      · exact .step (R.jn h hh) hi (by rw [nbe]; unfold bey; rw [if_pos e])
      · rw [← e]; exact R.jn h hh
    have R1 := addF_ok R (t := r.a) (by omega) ja
    have R2 := addF_ok R1 (t := r.b) lt.2 jb
    refine ⟨R2, (addF_grw p r.a).trans (addF_grw _ r.b), fun z hz => ?_⟩
    rw [nbe] at hz
    unfold bey at hz
    split at hz
    · cases hz; exact addF_sub.2.2.1
    · split at hz
      · cases hz; exact addF_sub.1 _ addF_sub.2.2.1
      · cases hz
  · rw [if_neg hm]
    refine ⟨R, Grw.refl p, fun z hz => ?_⟩
    rw [nbe] at hz
    unfold bey at hz
    rw [if_neg (fun e => hm (.inl e)), if_neg (fun e => hm (.inr e))] at hz
    cases hz
/-- all roads, at one house -/
def rds (w : Web) (h : Nat) (l : List Nat) (p : List Nat × List Nat) : List Nat × List Nat := l.foldl (fun p i => match w.rs[i]? with
  | some r => addR p h r
  | none => p) p
theorem rds_ok {w : Web} {ok : List Nat} {x h : Nat} (W : RdsOk w) : ∀ (l : List Nat) {p : List Nat × List Nat}, (∀ i ∈ l, i ∈ ok) → RcOk w ok x p → h ∈ p.1 →
    RcOk w ok x (rds w h l p) ∧ Grw p (rds w h l p) ∧ ∀ i ∈ l, ∀ z, nb w i h = some z → z ∈ (rds w h l p).1
  | [], p, _, R, _ => ⟨R, Grw.refl p, fun i hi => by simp at hi⟩
  | i :: l, p, hl, R, hh => by
    cases hr : w.rs[i]? with
    | none =>
      have e : rds w h (i :: l) p = rds w h l p := by simp [rds, hr]
      rw [e]
      obtain ⟨a, b, c⟩ := rds_ok W l (fun j hj => hl j (.tail _ hj)) R hh
      refine ⟨a, b, fun j hj z hz => ?_⟩
      rcases List.mem_cons.mp hj with rfl | hj
      · unfold nb at hz; rw [hr] at hz; cases hz
      · exact c j hj z hz
    | some r =>
      have e : rds w h (i :: l) p = rds w h l (addR p h r) := by simp [rds, hr]
      rw [e]
      obtain ⟨a1, b1, c1⟩ := addR_ok W R hh (hl i (.head _)) hr
      obtain ⟨a, b, c⟩ := rds_ok W l (fun j hj => hl j (.tail _ hj)) a1 (b1.f h hh)
      refine ⟨a, b1.trans b, fun j hj z hz => ?_⟩
      rcases List.mem_cons.mp hj with rfl | hj
      · exact b.f z (c1 z hz)
      · exact c j hj z hz
end G

namespace G
open PySem PySem.Spec L2 Pv
theorem p_reach_eq {w : Web} {l : List Nat} {x : Nat} (W : RdsOk w) (hn : w.n ≤ 200) (hx : x < w.n) (hl : ∀ i ∈ l, i < w.rs.length) : ∃ F, p__law_reach w l x = some F ∧ ∀ y, y ∈ F ↔ Jn w l x y := by
  have one : ∀ (h : Nat) (a b : Nat) (p : List Nat × List Nat), p.1.length < 1000 → p.2.length < 1000 → ∀ t, (if ((decide (h ∈ ([a, b] : List Nat))) && (decide (t ∉ p.1))) = true then
          (appP p.1 t).bind fun found_13 =>
          (appP p.2 t).bind fun waiting_14 =>
          some (found_13, waiting_14)
        else
          some (p.1, p.2)) = some (if h = a ∨ h = b then addF p t else p) := fun h a b p h1 h2 t => by
    rw [appP_eq (by omega), appP_eq (by omega)]
    unfold addF
    by_cases hm : h = a ∨ h = b
    · by_cases ht : t ∈ p.1
      · simp [hm, ht]
      · simp [hm, ht]
    · simp [hm]
  have road : ∀ (h : Nat) (r : Rd) (p : List Nat × List Nat), p.1.length < 998 → p.2.length < 998 → forP (fun (x_11 : Nat) (v_9 : (List Nat) × (List Nat)) =>
        (if ((decide (h ∈ ([r.a, r.b] : List Nat))) && (decide (x_11 ∉ v_9.1))) = true then
          (appP v_9.1 x_11).bind fun found_13 =>
          (appP v_9.2 x_11).bind fun waiting_14 =>
          some (found_13, waiting_14)
        else
          some (v_9.1, v_9.2))) ([r.a, r.b] : List Nat) (p.1, p.2) = some (addR p h r) := fun h r p h1 h2 => by
    have l1 : (addF p r.a).1.length ≤ p.1.length + 1 ∧ (addF p r.a).2.length ≤ p.2.length + 1 := by
      unfold addF; split <;> simp
    have l2 : (if h = r.a ∨ h = r.b then addF p r.a else p).1.length < 1000 ∧ (if h = r.a ∨ h = r.b then addF p r.a else p).2.length < 1000 := by
      split <;> omega
    have o1 := one h r.a r.b p (by omega) (by omega) r.a
    have o2 := one h r.a r.b _ l2.1 l2.2 r.b
    unfold forP
    show (if ((decide (h ∈ ([r.a, r.b] : List Nat))) && (decide (r.a ∉ p.1))) = true then (appP p.1 r.a).bind fun found_13 => (appP p.2 r.a).bind fun waiting_14 => some (found_13, waiting_14) else some (p.1, p.2)).bind _ = _
    rw [o1, Option.bind_some]
    unfold forP
    rw [o2, Option.bind_some]
    unfold forP addR
    split <;> rfl
  have rdsE : ∀ (h : Nat) (ls : List Nat) (p : List Nat × List Nat), (∀ i ∈ ls, i ∈ l) → RcOk w l x p → h ∈ p.1 → forP (fun (x_7 : Nat) (v_5 : (List Nat) × (List Nat)) =>
      (w.rs[x_7]?).bind fun it_8 =>
      (forP (fun (x_11 : Nat) (v_9 : (List Nat) × (List Nat)) =>
        (if ((decide (h ∈ ([it_8.a, it_8.b] : List Nat))) && (decide (x_11 ∉ v_9.1))) = true then
          (appP v_9.1 x_11).bind fun found_13 =>
          (appP v_9.2 x_11).bind fun waiting_14 =>
          some (found_13, waiting_14)
        else
          some (v_9.1, v_9.2))) ([it_8.a, it_8.b] : List Nat) (v_5.1, v_5.2)).bind fun (w_15 : (List Nat) × (List Nat)) =>
      some (w_15.1, w_15.2)) ls p = some (rds w h ls p) := by
    intro h ls
    induction ls with
    | nil => intro p _ _ _; rfl
    | cons i ls ih =>
      intro p hs R hh
      obtain ⟨r, hr⟩ := get_lt (hl i (hs i (.head _)))
      obtain ⟨R', gr, _⟩ := addR_ok W R hh (hs i (.head _)) hr
      have n1 := nodup_len _ R.nd R.lt
      have n2 : p.2.length ≤ w.n := nodup_len _ R.nq fun y hy => R.lt y (R.qf y hy)
      unfold forP
      rw [hr, Option.bind_some, road h r p (by omega) (by omega), Option.bind_some, Option.bind_some]
      have := ih (addR p h r) (fun j hj => hs j (.tail _ hj)) R' (gr.f h hh)
      show forP _ ls (addR p h r) = _
      rw [this]
      simp [rds, hr]
  obtain ⟨v, m, e, ⟨R, hc, _⟩, hf⟩ := whP_meas (c := fun (v_1 : (List Nat) × (List Nat)) => some (decide (v_1.2 ≠ ([] : List Nat)))) (b := fun (v_1 : (List Nat) × (List Nat)) =>
    (popP v_1.2).bind fun waiting_4 =>
    (forP (fun (x_7 : Nat) (v_5 : (List Nat) × (List Nat)) =>
      (w.rs[x_7]?).bind fun it_8 =>
      (forP (fun (x_11 : Nat) (v_9 : (List Nat) × (List Nat)) =>
        (if ((decide (waiting_4.1 ∈ ([it_8.a, it_8.b] : List Nat))) && (decide (x_11 ∉ v_9.1))) = true then
          (appP v_9.1 x_11).bind fun found_13 =>
          (appP v_9.2 x_11).bind fun waiting_14 =>
          some (found_13, waiting_14)
        else
          some (v_9.1, v_9.2))) ([it_8.a, it_8.b] : List Nat) (v_5.1, v_5.2)).bind fun (w_15 : (List Nat) × (List Nat)) =>
      some (w_15.1, w_15.2)) l (v_1.1, waiting_4.2)).bind fun (w_17 : (List Nat) × (List Nat)) =>
    some (w_17.1, w_17.2))
    (fun m v => RcOk w l x v ∧ (∀ y ∈ v.1, y ∉ v.2 → ∀ i ∈ l, ∀ z, nb w i y = some z → z ∈ v.1) ∧ m = 2 * (w.n - v.1.length) + v.2.length) (fun m v hI => ⟨_, rfl, fun ht => by
      obtain ⟨R, hc, hm⟩ := hI
      have hne : v.2 ≠ [] := by simpa using ht
      obtain ⟨q, h, hq⟩ : ∃ q h, v.2 = q ++ [h] := ⟨v.2.dropLast, v.2.getLast hne, (List.dropLast_concat_getLast hne).symm⟩
      have hp : popP v.2 = some (h, q) := by
        unfold popP; rw [hq]; simp
      have nq : (q ++ [h]).Nodup := hq ▸ R.nq
      have hh : h ∈ v.1 := R.qf h (by rw [hq]; simp)
      have R' : RcOk w l x (v.1, q) := ⟨R.f0, R.nd, (List.nodup_append.mp nq).1, R.lt, R.jn, fun y hy => R.qf y (by rw [hq]; exact List.mem_append_left _ hy)⟩
      obtain ⟨R2, gr, nw⟩ := rds_ok W l (fun i hi => hi) R' hh
      have n1 := nodup_len _ R2.nd R2.lt
      have n2 := nodup_len _ R.nd R.lt
      refine ⟨rds w h l (v.1, q), _, by rw [hp, Option.bind_some, rdsE h l (v.1, q) (fun i hi => hi) R' hh]; rfl, ?_, R2, fun y hy hyq i hi z hz => ?_, rfl⟩
      · have c := gr.cnt
        have c2 := gr.len
        simp only at c c2
        rw [hm, hq, List.length_append, List.length_singleton]
        omega
      · by_cases hyv : y ∈ v.1
        · by_cases e : y = h
          · exact nw i hi z (e ▸ hz)
          · refine gr.f z (hc y hyv (fun hy2 => ?_) i hi z hz)
            rw [hq] at hy2
            rcases List.mem_append.mp hy2 with h1 | h1
            · exact hyq (gr.w y h1)
            · exact e (List.mem_singleton.mp h1)
        · exact absurd (gr.new y hy hyv) hyq⟩) 1000 (2 * (w.n - 1) + 1) ([x], [x]) (by omega) ⟨⟨by simp, by simp, by simp, by simp; omega, fun y hy => by simp at hy; subst hy; exact .refl, fun y hy => hy⟩, fun y h1 h2 => absurd h1 h2, rfl⟩
  have hv : v.2 = [] := by simpa using hf
  refine ⟨isort v.1, ?_, fun y => ?_⟩
  · unfold p__law_reach
    have := nodup_len _ R.nd R.lt
    rw [e, Option.bind_some, sortP_nD (by omega)]; rfl
  · rw [isort_mem]
    exact ⟨R.jn y, jn_closed (F := (· ∈ v.1)) R.f0 fun y hy => hc y hy (by rw [hv]; simp)⟩
theorem p_apart_eq {w : Web} {l : List Nat} {road : Nat} {r : Rd} (W : RdsOk w) (hn : w.n ≤ 200) (hr : w.rs[road]? = some r) (hll : l.length ≤ 1000) (hl : ∀ i ∈ l, i < w.rs.length) : ∃ b, p__law_is_apart w l road = some b ∧ (b = true ↔ ¬ Jn w (oks l road) r.a r.b) := by
  have Wr := W r (List.mem_of_getElem? hr)
  obtain ⟨F, e, hF⟩ := p_reach_eq (l := oks l road) (x := r.a) W hn (by omega) fun i hi => hl i (oks_mem.mp hi).1
  refine ⟨decide (r.b ∉ F), ?_, ?_⟩
  · unfold p__law_is_apart
    rw [hr, Option.bind_some, lcT_filter (by omega), Option.bind_some]
    show (p__law_reach w (oks l road) r.a).bind _ = _
    rw [e]; rfl
  · rw [← hF]; simp
theorem jn_same2 {w : Web} {l k : List Nat} (h : ∀ i, i ∈ l ↔ i ∈ k) {x y : Nat} : Jn w l x y ↔ Jn w k x y := ⟨Jn.mono fun i hi => (h i).mp hi, Jn.mono fun i hi => (h i).mpr hi⟩
end G

namespace G
open PySem PySem.Spec L2 Pv
/-- always the shortest road out: the total of a least tree -/
theorem l_least_total_eq {w : Web} {ls : List Nat} (W : RdsOk w) (hn : w.n ≤ 6) (h1 : 1 ≤ w.n) (hm : w.rs.length ≤ 10) (hl : ls.length = w.rs.length) (ht : ∃ T, Tr w T) : ∃ T, Lst w (lf ls) T ∧ p__law_least_total w ls = some (tot (lf ls) T) := by
  let I : Nat → List Nat × Nat → Prop := fun m v => m = w.n - v.1.length ∧ v.1.Nodup ∧ (∀ x ∈ v.1, x < w.n) ∧ ∃ Q T, Lst w (lf ls) T ∧ (∀ i ∈ Q, i ∈ T) ∧ Q.Nodup ∧ Q.length + 1 = v.1.length ∧ tot (lf ls) Q = v.2 ∧ ∀ i ∈ Q, ∀ x y, nb w i x = some y → x ∈ v.1 ∧ y ∈ v.1
  obtain ⟨v, m, e, hv, hc⟩ := whP_meas (c := fun (v_1 : (List Nat) × Nat) => some (decide (v_1.1.length < w.n))) (b := fun (v_1 : (List Nat) × Nat) =>
    (lcT (fun (x_4 : (Nat × Rd)) => (decide ((decide (x_4.2.a ∈ v_1.1)) ≠ (decide (x_4.2.b ∈ v_1.1))))) (fun (x_4 : (Nat × Rd)) => x_4.1) (numd w.rs)).bind fun lc_5 =>
    (lcP (fun (_ : Nat) => some true) (fun (x_6 : Nat) => (ls[x_6]?).bind fun it_7 => some ((it_7, x_6) : (Nat × Nat))) lc_5).bind fun lc_8 =>
    (minByP (p2 nD nD) lc_8).bind fun min_9 =>
    (ls[min_9.2]?).bind fun it_10 =>
    (some ((v_1.2 + it_10) : Nat)).bind fun whole_11 =>
    (w.rs[min_9.2]?).bind fun it_12 =>
    (appP v_1.1 (if (decide (it_12.a ∈ v_1.1)) = true then it_12.b else it_12.a)).bind fun inside_13 =>
    some (inside_13, whole_11)) I (fun m v hI => ⟨_, rfl, fun hlt => by
      obtain ⟨hme, nd, lt, Q, T, hL, hQT, nQ, lQ, tQ, inQ⟩ := hI
      have hlt : v.1.length < w.n := by simpa using hlt
      -- the roads that cross
      obtain ⟨C, hC⟩ : ∃ C : List Nat, C = ((numd w.rs).filter fun x => decide (decide (x.2.a ∈ v.1) ≠ decide (x.2.b ∈ v.1))).map (·.1) := ⟨_, rfl⟩
      have memC : ∀ i, i ∈ C ↔ ∃ r, w.rs[i]? = some r ∧ decide (r.a ∈ v.1) ≠ decide (r.b ∈ v.1) := fun i => by
        rw [hC, List.mem_map]
        constructor
        · rintro ⟨p, hp, rfl⟩
          rw [List.mem_filter] at hp
          obtain ⟨j, hj⟩ := List.getElem?_of_mem hp.1
          rw [numd_get] at hj
          obtain ⟨y, k1, k2⟩ := map_some_iff hj
          subst k2
          exact ⟨y, k1, by simpa using hp.2⟩
        · rintro ⟨r, k1, k2⟩
          exact ⟨(i, r), by rw [List.mem_filter]; exact ⟨List.mem_of_getElem? (i := i) (by rw [numd_get, k1]; rfl), by simpa using k2⟩, rfl⟩
      have lenC : C.length ≤ 10 := by
        rw [hC, List.length_map]
        have := List.length_filter_le (fun x : Nat × Rd => decide (decide (x.2.a ∈ v.1) ≠ decide (x.2.b ∈ v.1))) (numd w.rs)
        rw [numd_len] at this
        omega
      have ltC : ∀ i ∈ C, i < w.rs.length := fun i hi => by
        obtain ⟨r, hr, _⟩ := (memC i).mp hi
        exact (List.getElem?_eq_some_iff.mp hr).1
      -- there is one
      have hin : ∃ p, p ∈ v.1 := by
        cases hv1 : v.1 with
        | nil => rw [hv1] at lQ; simp at lQ
        | cons p l => exact ⟨p, .head _⟩
      obtain ⟨p, hp⟩ := hin
      have hout : ∃ q, q < w.n ∧ q ∉ v.1 := Classical.byContradiction fun hno => by
        have := nd_sub_len (List.range w.n) v.1 List.nodup_range fun i hi => Classical.byContradiction fun h => hno ⟨i, List.mem_range.mp hi, h⟩
        rw [List.length_range] at this
        omega
      obtain ⟨q, hq, hqn⟩ := hout
      obtain ⟨c, hcT, ⟨a, b, hab, hne⟩, _⟩ := hL.1.pass W (lt p hp) hq (fun x => decide (x ∈ v.1)) (by simpa using hp) (by simpa using hqn)
      have crossC : ∀ i a b, i < w.rs.length → nb w i a = some b → decide (a ∈ v.1) ≠ decide (b ∈ v.1) → i ∈ C := fun i a b hi hab hne => by
        obtain ⟨r, hr⟩ := get_lt hi
        refine (memC i).mpr ⟨r, hr, ?_⟩
        rcases nb_cases hr hab with ⟨rfl, rfl⟩ | ⟨rfl, rfl⟩
        · exact hne
        · exact fun e => hne e.symm
      have hcC := crossC c a b (hL.1.lt c hcT) hab hne
      have e2 : lcP (fun (_ : Nat) => some true) (fun (x_6 : Nat) => (ls[x_6]?).bind fun it_7 => some ((it_7, x_6) : (Nat × Nat))) C = some (C.map fun i => (lf ls i, i)) := lcP_map _ (by omega) fun i hi => by
        rw [lf_get (by rw [hl]; exact ltC i hi)]; rfl
      obtain ⟨m', em, hm1, hm2⟩ := minByP_pair (xs := C.map fun i => (lf ls i, i)) (by
        intro h
        rw [List.map_eq_nil_iff.mp h] at hcC
        simp at hcC)
      obtain ⟨i, hiC, rfl⟩ := List.mem_map.mp hm1
      obtain ⟨r, hr, hrc⟩ := (memC i).mp hiC
      have lt' := W r (List.mem_of_getElem? hr)
      have hmin : ∀ j, j < w.rs.length → (∃ u z, nb w j u = some z ∧ decide (u ∈ v.1) ≠ decide (z ∈ v.1)) → lf ls i ≤ lf ls j := fun j hj ⟨u, z, h3, h4⟩ =>
        hm2 (lf ls j, j) (List.mem_map.mpr ⟨j, crossC j u z hj h3 h4, rfl⟩)
      -- the new house
      obtain ⟨x, y, hxy, hx, hy, hnew⟩ : ∃ x y, nb w i x = some y ∧ x ∈ v.1 ∧ y ∉ v.1 ∧ (if (decide (r.a ∈ v.1)) = true then r.b else r.a) = y := by
        by_cases ha : r.a ∈ v.1
        · have hb : r.b ∉ v.1 := fun hb => hrc (by simp [ha, hb])
          exact ⟨r.a, r.b, nb_ends hr, ha, hb, by simp [ha]⟩
        · have hb : r.b ∈ v.1 := Classical.byContradiction fun hb => hrc (by simp [ha, hb])
          exact ⟨r.b, r.a, nb_symm W (nb_ends hr), hb, ha, by simp [ha]⟩
      obtain ⟨T', hL', hQ'⟩ := hL.add W hQT (fun x => decide (x ∈ v.1)) (fun j hj u z huz => by
        obtain ⟨k1, k2⟩ := inQ j hj u z huz
        simp [k1, k2]) hxy (ltC i hiC) (by simpa using hx) (by simpa using hy) hmin
      have hyn := nb_lt W hxy
      have hiQ : i ∉ Q := fun hi => hy (inQ i hi x y hxy).2
      refine ⟨(v.1 ++ [y], v.2 + lf ls i), w.n - (v.1 ++ [y]).length, ?_, by simp; omega, rfl, List.nodup_append.mpr ⟨nd, by simp, fun a ha b hb e => by simp at hb; subst hb; subst e; exact hy ha⟩, fun z hz => ?_, i :: Q, T', hL', hQ', List.nodup_cons.mpr ⟨hiQ, nQ⟩, by simp; omega, by simp only [tot, List.map_cons, List.sum_cons]; rw [← tQ]; unfold tot; omega, fun j hj u z huz => ?_⟩
      · rw [lcT_eq (by rw [numd_len]; omega), Option.bind_some, ← hC, e2, Option.bind_some, em, Option.bind_some, lf_get (by rw [hl]; exact ltC i hiC), Option.bind_some, Option.bind_some, hr, Option.bind_some, hnew, appP_eq (by omega)]; rfl
      · rcases List.mem_append.mp hz with hz | hz
        · exact lt z hz
        · simp at hz; subst hz; exact hyn
      · rcases List.mem_cons.mp hj with rfl | hj
        · rcases nb_fun W hxy huz with ⟨rfl, rfl⟩ | ⟨rfl, rfl⟩
          · exact ⟨List.mem_append_left _ hx, by simp⟩
          · exact ⟨by simp, List.mem_append_left _ hx⟩
        · obtain ⟨k1, k2⟩ := inQ j hj u z huz
          exact ⟨List.mem_append_left _ k1, List.mem_append_left _ k2⟩⟩) 1000 (w.n - 1) (([0] : List Nat), 0) (by omega) (by
      obtain ⟨T, hL⟩ := exists_least (f := lf ls) ht
      exact ⟨rfl, by simp, by simp; omega, [], T, hL, by simp, by simp, by simp, by simp [tot], by simp⟩)
  have hge : ¬ v.1.length < w.n := by simpa using hc
  obtain ⟨_, nd, lt, Q, T, hL, hQT, nQ, lQ, tQ, _⟩ := hv
  have hle := nodup_len _ nd lt
  have pm : Q.Perm T := nd_perm nQ hL.1.nd hQT (by have := hL.1.len; omega)
  refine ⟨T, hL, ?_⟩
  unfold p__law_least_total
  rw [e, Option.bind_some, ← tQ, tot_perm pm]
end G

namespace G
open PySem PySem.Spec L2 Pv
structure NmOk (k : Nat) (nm : List Nat) : Prop where
  len : nm.length = k
  nd : nm.Nodup
  lt : ∀ x ∈ nm, x < k
theorem NmOk.ins {k : Nat} {nm : List Nat} (N : NmOk k nm) (i : Nat) : NmOk (k + 1) (nm.take i ++ [k] ++ nm.drop i) := by
  have pm : (nm.take i ++ [k] ++ nm.drop i).Perm (k :: nm) := by
    have : (nm.take i ++ [k] ++ nm.drop i).Perm (k :: (nm.take i ++ nm.drop i)) := by
      rw [List.append_assoc]
      exact List.perm_middle
    rwa [List.take_append_drop] at this
  refine ⟨by rw [pm.length_eq, List.length_cons, N.len], pm.nodup_iff.mpr (List.nodup_cons.mpr ⟨fun h => Nat.lt_irrefl _ (N.lt _ h), N.nd⟩), fun x hx => ?_⟩
  rcases List.mem_cons.mp (pm.mem_iff.mp hx) with rfl | h
  · omega
  · have := N.lt x h; omega
theorem rng1_get {i n x : Nat} : (List.range' 1 n)[i]? = some x ↔ i < n ∧ x = i + 1 := by
  rw [List.getElem?_eq_some_iff]
  constructor
  · rintro ⟨h, e⟩
    rw [List.length_range'] at h
    rw [List.getElem_range'] at e
    omega
  · rintro ⟨h, rfl⟩
    exact ⟨by rw [List.length_range']; exact h, by rw [List.getElem_range']; omega⟩
theorem nm_get {nm : List Nat} {i : Nat} (h : i < nm.length) : nm[i]? = some (nm.getD i 0) := by
  rw [List.getD_eq_getElem?_getD, List.getElem?_eq_getElem h]; rfl
theorem ins_perm {α : Type} (xs : List α) (i : Nat) (x : α) : (xs.take i ++ [x] ++ xs.drop i).Perm (x :: xs) := by
  have : (xs.take i ++ [x] ++ xs.drop i).Perm (x :: (xs.take i ++ xs.drop i)) := by
    rw [List.append_assoc]
    exact List.perm_middle
  rwa [List.take_append_drop] at this
/-- the drawn roads, the houses not yet named -/
structure RsOk (size : Nat) (rs : List Rd) : Prop where
  lt : ∀ r ∈ rs, r.a < r.b ∧ r.b < size
  lh : ∀ r ∈ rs, r.lo ≤ r.hi ∧ r.hi ≤ 99
theorem RsOk.ins {size : Nat} {rs : List Rd} (P : RsOk size rs) (i : Nat) {r : Rd} (h1 : r.a < r.b) (h2 : r.b < size) (h3 : r.lo ≤ r.hi) (h4 : r.hi ≤ 99) : RsOk size (rs.take i ++ [r] ++ rs.drop i) :=
  ⟨fun q hq => by
    rcases List.mem_cons.mp ((ins_perm rs i r).mem_iff.mp hq) with rfl | hq
    · exact ⟨h1, h2⟩
    · exact P.lt q hq, fun q hq => by
    rcases List.mem_cons.mp ((ins_perm rs i r).mem_iff.mp hq) with rfl | hq
    · exact ⟨h3, h4⟩
    · exact P.lh q hq⟩
def rnR (nm : List Nat) (r : Rd) : Rd := ⟨min (nm.getD r.a 0) (nm.getD r.b 0), max (nm.getD r.a 0) (nm.getD r.b 0), r.lo, r.hi⟩
theorem web_of {size houses most : Nat} {rs : List Rd} {nm : List Nat} (hs1 : 1 ≤ size) (hs2 : size ≤ houses) (hl : rs.length ≤ most) (P : RsOk size rs) (N : NmOk size nm) (cn : ∀ k, 1 ≤ k → k < size → ∃ r ∈ rs, r.b = k) : WebOk ⟨size, rs.map (rnR nm)⟩ houses most := by
  have hlen := N.len
  have g : ∀ x, x < size → nm[x]? = some (nm.getD x 0) := fun x hx => nm_get (by omega)
  have ne_ : ∀ r ∈ rs, nm.getD r.a 0 ≠ nm.getD r.b 0 ∧ nm.getD r.a 0 < size ∧ nm.getD r.b 0 < size := fun r hr => by
    obtain ⟨q1, q2⟩ := P.lt r hr
    have g1 := g r.a (by omega)
    have g2 := g r.b q2
    refine ⟨fun e => ?_, N.lt _ (List.mem_of_getElem? g1), N.lt _ (List.mem_of_getElem? g2)⟩
    rw [← e] at g2
    have : r.a = r.b := (List.getElem_inj N.nd).mp ((List.getElem?_eq_some_iff.mp g1).2.trans (List.getElem?_eq_some_iff.mp g2).2.symm)
    omega
  refine ⟨hs1, hs2, by rw [List.length_map]; exact hl, fun r hr => ?_, fun r hr => ?_, nm, N.len, N.nd, N.lt, fun x x1 x2 => ?_⟩
  · obtain ⟨r, hr', rfl⟩ := List.mem_map.mp (show r ∈ rs.map (rnR nm) from hr)
    obtain ⟨q1, q2, q3⟩ := ne_ r hr'
    show min _ _ < max _ _ ∧ max _ _ < size
    omega
  · obtain ⟨r, hr', rfl⟩ := List.mem_map.mp (show r ∈ rs.map (rnR nm) from hr)
    exact P.lh r hr'
  · obtain ⟨r, hr, e⟩ := cn x x1 x2
    have ha := (P.lt r hr).1
    have hx2 : x < size := x2
    refine ⟨r.a, rnR nm r, by omega, List.mem_map_of_mem hr, ?_⟩
    rw [g r.a (by omega), g x hx2]
    show (some _ = some (min (nm.getD r.a 0) (nm.getD r.b 0)) ∧ some _ = some (max (nm.getD r.a 0) (nm.getD r.b 0))) ∨ (some _ = some (max (nm.getD r.a 0) (nm.getD r.b 0)) ∧ some _ = some (min (nm.getD r.a 0) (nm.getD r.b 0)))
    rw [e]
    by_cases hle : nm.getD r.a 0 ≤ nm.getD x 0
    · left; rw [Nat.min_eq_left hle, Nat.max_eq_right hle]; exact ⟨rfl, rfl⟩
    · right; rw [Nat.min_eq_right (by omega), Nat.max_eq_left (by omega)]; exact ⟨rfl, rfl⟩
end G

namespace G
open PySem PySem.Spec L2 Pv
/-- the pen: n takes at most were made -/
structure PenOk (n : Nat) (c : Cell) : Prop where
  ex : ∃ (cs : List Int) (at_ : Nat) (cur : Int), c = .d (.lst [.lst (cs.map .int), .int at_, .int cur]) ∧ at_ ≤ n ∧ 0 ≤ cur
theorem PenOk.mono {n m : Nat} {c : Cell} (h : PenOk n c) (hm : n ≤ m) : PenOk m c := by
  obtain ⟨cs, a, cur, h1, h2, h3⟩ := h.ex
  exact ⟨cs, a, cur, h1, by omega, h3⟩
theorem smallI_of {i : Int} (h1 : -(2 ^ 64) < i) (h2 : i < 2 ^ 64) : smallI i = true := by simp [smallI]; omega
def primesL : List Int := [2147483629, 2147483587, 2147483579, 2147483563, 2147483549, 2147483543, 2147483497, 2147483489, 2147483477, 2147483423, 2147483399, 2147483353, 2147483323]
theorem prime_at (i : Int) : ∃ p : Int, dIx (.lst [.int 2147483629, .int 2147483587, .int 2147483579, .int 2147483563, .int 2147483549, .int 2147483543, .int 2147483497, .int 2147483489, .int 2147483477, .int 2147483423, .int 2147483399, .int 2147483353, .int 2147483323]) (.int (i % 13)) = some (.fro (.int p)) ∧ 0 < p ∧ p < 2147483648 := by
  have h1 : 0 ≤ i % 13 := Int.emod_nonneg _ (by decide)
  have h2 : i % 13 < 13 := Int.emod_lt_of_pos _ (by decide)
  have h3 : i % 13 = ((i % 13).toNat : Int) := by omega
  generalize hk : (i % 13).toNat = k at h3
  have h4 : k < 13 := by omega
  rw [h3]
  match k, h4 with
  | 0, _ => exact ⟨_, rfl, by decide, by decide⟩
  | 1, _ => exact ⟨_, rfl, by decide, by decide⟩
  | 2, _ => exact ⟨_, rfl, by decide, by decide⟩
  | 3, _ => exact ⟨_, rfl, by decide, by decide⟩
  | 4, _ => exact ⟨_, rfl, by decide, by decide⟩
  | 5, _ => exact ⟨_, rfl, by decide, by decide⟩
  | 6, _ => exact ⟨_, rfl, by decide, by decide⟩
  | 7, _ => exact ⟨_, rfl, by decide, by decide⟩
  | 8, _ => exact ⟨_, rfl, by decide, by decide⟩
  | 9, _ => exact ⟨_, rfl, by decide, by decide⟩
  | 10, _ => exact ⟨_, rfl, by decide, by decide⟩
  | 11, _ => exact ⟨_, rfl, by decide, by decide⟩
  | 12, _ => exact ⟨_, rfl, by decide, by decide⟩
theorem mul_bd {a b A B : Int} (h0 : 0 ≤ a) (h1 : a ≤ A) (k0 : 0 ≤ b) (k1 : b ≤ B) : 0 ≤ a * b ∧ a * b ≤ A * B :=
  ⟨Int.mul_nonneg h0 k0, Int.le_trans (Int.mul_le_mul_of_nonneg_right h1 k0) (Int.mul_le_mul_of_nonneg_left k1 (by omega))⟩
theorem v_spread0 {cell at_ p1 p2 p3 one two three : Int} {st : List Cell} (hc : ¬ (1000000000000000000 : Int) ≤ cell)
    (h1 : dIx (.lst [.int 2147483629, .int 2147483587, .int 2147483579, .int 2147483563, .int 2147483549, .int 2147483543, .int 2147483497, .int 2147483489, .int 2147483477, .int 2147483423, .int 2147483399, .int 2147483353, .int 2147483323]) (.int (at_ % 13)) = some (.fro (.int p1)))
    (h2 : dIx (.lst [.int 2147483629, .int 2147483587, .int 2147483579, .int 2147483563, .int 2147483549, .int 2147483543, .int 2147483497, .int 2147483489, .int 2147483477, .int 2147483423, .int 2147483399, .int 2147483353, .int 2147483323]) (.int ((at_ + 5) % 13)) = some (.fro (.int p2)))
    (h3 : dIx (.lst [.int 2147483629, .int 2147483587, .int 2147483579, .int 2147483563, .int 2147483549, .int 2147483543, .int 2147483497, .int 2147483489, .int 2147483477, .int 2147483423, .int 2147483399, .int 2147483353, .int 2147483323]) (.int ((at_ + 7) % 13)) = some (.fro (.int p3)))
    (a1 : 0 < p1) (a2 : 0 < p2) (a3 : 0 < p3) (k1 : smallI (cell % 1000000007) = true) (k3 : smallI (cell % 1000000007 * (2 * at_ + 69069) + at_ * 40503 + 977) = true) (ho : (cell % 1000000007 * (2 * at_ + 69069) + at_ * 40503 + 977) ^ 3 % p1 = one)
    (k4 : smallI one = true) (k5 : smallI (one * (at_ + 3) + cell % 65537 + 5) = true) (ht : (one * (at_ + 3) + cell % 65537 + 5) ^ 5 % p2 = two) (k6 : smallI (two + one % 1009 + at_) = true) (hh : (two + one % 1009 + at_) ^ 3 % p3 = three) :
    m__law_spread [.int cell, .int at_] st = some (.fro (.int ((one * 2147483647 + two) * 2147483647 + three)), st) := by
  have e10 : smallI 10 = true := by decide
  have s2 : smallI 2 = true := by decide
  have k2 : smallI 40503 = true := by decide
  have k7 : smallI 2147483647 = true := by decide
  simp [m__law_spread, ev__law_spread, dAdd_lst, e10, hc, h1, h2, h3, s2, k1, k2, k3, k4, k5, k6, k7, ho, ht, hh, a1, a2, a3]
theorem v_spread (cell : Int) (at_ : Nat) (ha : at_ ≤ 1000000) (st : List Cell) : ∃ r : Int, 0 ≤ r ∧ m__law_spread [.int cell, .int at_] st = some (.fro (.int r), st) := by
  have e10 : smallI 10 = true := by decide
  by_cases hc : (1000000000000000000 : Int) ≤ cell
  · exact ⟨cell, by omega, by simp [m__law_spread, ev__law_spread, e10, hc]⟩
  · obtain ⟨p1, h1, a1, b1⟩ := prime_at at_
    obtain ⟨p2, h2, a2, b2⟩ := prime_at (at_ + 5)
    obtain ⟨p3, h3, a3, b3⟩ := prime_at (at_ + 7)
    have c0 := Int.emod_nonneg cell (b := 1000000007) (by decide)
    have c1 := Int.emod_lt_of_pos cell (b := 1000000007) (by decide)
    have w0 := Int.emod_nonneg cell (b := 65537) (by decide)
    have w1 := Int.emod_lt_of_pos cell (b := 65537) (by decide)
    obtain ⟨d0, d1⟩ := mul_bd (b := 2 * (at_ : Int) + 69069) (A := 1000000007) (B := 2069069) c0 (by omega) (by omega) (by omega)
    have k1 : smallI (cell % 1000000007) = true := smallI_of (by omega) (by omega)
    have k3 : smallI (cell % 1000000007 * (2 * (at_ : Int) + 69069) + (at_ : Int) * 40503 + 977) = true := smallI_of (by omega) (by omega)
    obtain ⟨one, ho⟩ : ∃ one : Int, (cell % 1000000007 * (2 * (at_ : Int) + 69069) + (at_ : Int) * 40503 + 977) ^ 3 % p1 = one := ⟨_, rfl⟩
    have o0 : 0 ≤ one := ho ▸ Int.emod_nonneg _ (by omega)
    have o1 : one < 2147483648 := by have := Int.emod_lt_of_pos ((cell % 1000000007 * (2 * (at_ : Int) + 69069) + (at_ : Int) * 40503 + 977) ^ 3) a1; omega
    obtain ⟨f0, f1⟩ := mul_bd (b := (at_ : Int) + 3) (A := 2147483648) (B := 1000003) o0 (by omega) (by omega) (by omega)
    have k4 : smallI one = true := smallI_of (by omega) (by omega)
    have k5 : smallI (one * ((at_ : Int) + 3) + cell % 65537 + 5) = true := smallI_of (by omega) (by omega)
    obtain ⟨two, ht⟩ : ∃ two : Int, (one * ((at_ : Int) + 3) + cell % 65537 + 5) ^ 5 % p2 = two := ⟨_, rfl⟩
    have t0 : 0 ≤ two := ht ▸ Int.emod_nonneg _ (by omega)
    have t1 : two < 2147483648 := by have := Int.emod_lt_of_pos ((one * ((at_ : Int) + 3) + cell % 65537 + 5) ^ 5) a2; omega
    have u0 := Int.emod_nonneg one (b := 1009) (by decide)
    have u1 := Int.emod_lt_of_pos one (b := 1009) (by decide)
    have k6 : smallI (two + one % 1009 + (at_ : Int)) = true := smallI_of (by omega) (by omega)
    obtain ⟨three, hh⟩ : ∃ three : Int, (two + one % 1009 + (at_ : Int)) ^ 3 % p3 = three := ⟨_, rfl⟩
    have v0 : 0 ≤ three := hh ▸ Int.emod_nonneg _ (by omega)
    refine ⟨(one * 2147483647 + two) * 2147483647 + three, by omega, ?_⟩
    exact v_spread0 hc h1 h2 h3 a1 a2 a3 k1 k3 ho k4 k5 ht k6 hh
theorem get_ints {cs : List Int} {i : Nat} (h : i < cs.length) : (cs.map D.int)[i]? = some (.int cs[i]) := by simp [h]
theorem take0 {ks : List D} {t cur amount r t' : Int} {x : Int} (hl : cur < amount) (h1 : 0 < amount) (h64 : amount < 18446744073709551616) (hA : t < (ks.length : Int)) (hx : dIx (.lst ks) (.int t) = some (.fro (.int x))) (ht : t + 1 = t')
    (hr : m__law_spread [.int x, .int t] [.d (.lst [.lst ks, .int t', .int cur])] = some (.fro (.int r), [.d (.lst [.lst ks, .int t', .int cur])])) :
    m__law_take [.hd 0, .int amount] [.d (.lst [.lst ks, .int t, .int cur])] = some (.fro (.int (r % amount)), [.d (.lst [.lst ks, .int t', .int (r / amount)])]) := by
  simp [m__law_take, ev__law_take, hl, h1, h64, hA, hx, ht, hr]
theorem take1 {ks : List D} {t cur amount r t' k : Int} {x : Int} (hl : cur < amount) (h1 : 0 < amount) (h64 : amount < 18446744073709551616) (hA : ¬ t < (ks.length : Int)) (hB : 0 < ks.length) (hk : (t * 5 + 3) % (ks.length : Int) = k) (hx : dIx (.lst ks) (.int k) = some (.fro (.int x))) (ht : t + 1 = t') (hp : 0 < 100000000000000000 + t)
    (hr : m__law_spread [.int (x % (100000000000000000 + t)), .int t] [.d (.lst [.lst ks, .int t', .int cur])] = some (.fro (.int r), [.d (.lst [.lst ks, .int t', .int cur])])) :
    m__law_take [.hd 0, .int amount] [.d (.lst [.lst ks, .int t, .int cur])] = some (.fro (.int (r % amount)), [.d (.lst [.lst ks, .int t', .int (r / amount)])]) := by
  have e10 : smallI 10 = true := by decide
  have s5 : smallI 5 = true := by decide
  have hB' : 0 < (ks.length : Int) := by omega
  simp [m__law_take, ev__law_take, hl, h1, h64, hA, hB, hB', hk, hx, ht, hr, e10, s5, hp]
theorem take2 {t cur amount r t' : Int} (hl : cur < amount) (h1 : 0 < amount) (h64 : amount < 18446744073709551616) (hA : ¬ t < 0) (ht : t + 1 = t')
    (hr : m__law_spread [.int 0, .int t] [.d (.lst [.lst [], .int t', .int cur])] = some (.fro (.int r), [.d (.lst [.lst [], .int t', .int cur])])) :
    m__law_take [.hd 0, .int amount] [.d (.lst [.lst [], .int t, .int cur])] = some (.fro (.int (r % amount)), [.d (.lst [.lst [], .int t', .int (r / amount)])]) := by
  simp [m__law_take, ev__law_take, hl, h1, h64, hA, ht, hr]
theorem take3 {ks : List D} {t cur amount : Int} (hl : ¬ cur < amount) (h1 : 0 < amount) (h64 : amount < 18446744073709551616) :
    m__law_take [.hd 0, .int amount] [.d (.lst [.lst ks, .int t, .int cur])] = some (.fro (.int (cur % amount)), [.d (.lst [.lst ks, .int t, .int (cur / amount)])]) := by
  simp [m__law_take, ev__law_take, hl, h1, h64]
/-- one take -/
theorem v_take {n : Nat} {c : Cell} (h : PenOk n c) (hn : n ≤ 999999) (amount : Int) (h1 : 0 < amount) (h2 : amount ≤ 1000000) : ∃ (v : Int) (c' : Cell), m__law_take [.hd 0, .int amount] [c] = some (.fro (.int v), [c']) ∧ 0 ≤ v ∧ v < amount ∧ PenOk (n + 1) c' := by
  obtain ⟨cs, at_, cur, rfl, ha, hc⟩ := h.ex
  have h64 : amount < 18446744073709551616 := by omega
  have hll : ((cs.map D.int).length : Int) = (cs.length : Int) := by simp
  by_cases hl : cur < amount
  · have e1 : (at_ : Int) + 1 = ((at_ + 1 : Nat) : Int) := rfl
    have fin : ∀ r : Int, 0 ≤ r → m__law_take [.hd 0, .int amount] [.d (.lst [.lst (cs.map .int), .int at_, .int cur])] = some (.fro (.int (r % amount)), [.d (.lst [.lst (cs.map .int), .int ((at_ + 1 : Nat) : Int), .int (r / amount)])]) →
      ∃ (v : Int) (c' : Cell), m__law_take [.hd 0, .int amount] [.d (.lst [.lst (cs.map .int), .int at_, .int cur])] = some (.fro (.int v), [c']) ∧ 0 ≤ v ∧ v < amount ∧ PenOk (n + 1) c' := fun r r0 e =>
      ⟨_, _, e, Int.emod_nonneg _ (by omega), Int.emod_lt_of_pos _ h1, ⟨cs, at_ + 1, _, rfl, by omega, Int.ediv_nonneg r0 (by omega)⟩⟩
    by_cases hA : at_ < cs.length
    · obtain ⟨r, r0, hr⟩ := v_spread cs[at_] at_ (by omega) [.d (.lst [.lst (cs.map .int), .int ((at_ + 1 : Nat) : Int), .int cur])]
      exact fin r r0 (take0 hl h1 h64 (by rw [hll]; omega) (dIx_lst (get_ints hA)) e1 hr)
    · by_cases hB : 0 < cs.length
      · have m0 := Int.emod_nonneg ((at_ : Int) * 5 + 3) (b := (cs.length : Int)) (by omega)
        have m1 := Int.emod_lt_of_pos ((at_ : Int) * 5 + 3) (b := (cs.length : Int)) (by omega)
        obtain ⟨k, hk⟩ : ∃ k : Nat, ((at_ : Int) * 5 + 3) % (cs.length : Int) = (k : Int) := ⟨_, (Int.toNat_of_nonneg m0).symm⟩
        have hkl : k < cs.length := by omega
        obtain ⟨r, r0, hr⟩ := v_spread (cs[k] % (100000000000000000 + (at_ : Int))) at_ (by omega) [.d (.lst [.lst (cs.map .int), .int ((at_ + 1 : Nat) : Int), .int cur])]
        exact fin r r0 (take1 hl h1 h64 (by rw [hll]; omega) (by simpa using hB) (by rw [hll]; exact hk) (dIx_lst (get_ints hkl)) e1 (by omega) hr)
      · obtain rfl : cs = [] := List.eq_nil_of_length_eq_zero (by omega)
        obtain ⟨r, r0, hr⟩ := v_spread 0 at_ (by omega) [.d (.lst [.lst [], .int ((at_ + 1 : Nat) : Int), .int cur])]
        exact fin r r0 (take2 hl h1 h64 (by omega) e1 hr)
  · exact ⟨_, _, take3 hl h1 h64, Int.emod_nonneg _ (by omega), Int.emod_lt_of_pos _ h1, ⟨cs, at_, _, rfl, by omega, Int.ediv_nonneg hc (by omega)⟩⟩
/-- a drawn item of a list -/
theorem v_one_of {n : Nat} {c : Cell} (h : PenOk n c) (hn : n ≤ 999999) (xs : List D) (h1 : 0 < xs.length) (h2 : xs.length ≤ 1000000) : ∃ (v : D) (c' : Cell), m__law_one_of [.hd 0, .lst xs] [c] = some (.fro v, [c']) ∧ v ∈ xs ∧ PenOk (n + 1) c' := by
  obtain ⟨v, c', e, a, b, p⟩ := v_take h hn xs.length (by omega) (by omega)
  obtain ⟨k, rfl⟩ : ∃ k : Nat, v = (k : Int) := ⟨_, (Int.toNat_of_nonneg a).symm⟩
  have hk : k < xs.length := by omega
  refine ⟨xs[k], c', ?_, List.getElem_mem hk, p⟩
  simp [m__law_one_of, ev__law_one_of, e, dIx_lst (List.getElem?_eq_getElem hk)]
end G

namespace G
open PySem PySem.Spec L2 Pv
def PenS (n : Nat) (st : List Cell) : Prop := ∃ c, st = [c] ∧ PenOk n c
theorem PenS.mono {n m : Nat} {st : List Cell} (h : PenS n st) (hm : n ≤ m) : PenS m st := by
  obtain ⟨c, e, p⟩ := h
  exact ⟨c, e, p.mono hm⟩
/-- a draw: what it gives, by so many takes -/
def Dr {R : Type} (k : Nat) (f : List Cell → Option (R × List Cell)) (Q : R → Prop) : Prop := ∀ n st, PenS n st → n + k ≤ 999999 → ∃ r st', f st = some (r, st') ∧ Q r ∧ PenS (n + k) st'
theorem Dr.imp {R : Type} {k : Nat} {f : List Cell → Option (R × List Cell)} {Q T : R → Prop} (h : Dr k f Q) (i : ∀ r, Q r → T r) : Dr k f T := fun n st p hn => by
  obtain ⟨r, st', e, q, p'⟩ := h n st p hn
  exact ⟨r, st', e, i r q, p'⟩
theorem d_take {a : Nat} (h0 : 0 < a) (h1 : a ≤ 1000000) : Dr 1 (p__law_take a) (· < a) := fun n st p hn => by
  obtain ⟨c, rfl, pc⟩ := p
  obtain ⟨v, c', e, a0, a1, pc'⟩ := v_take pc (by omega) (a : Int) (by omega) (by omega)
  refine ⟨v.toNat, [c'], ?_, by omega, c', rfl, pc'⟩
  unfold p__law_take
  show (match m__law_take [.hd 0, .int (a : Int)] [c] with
    | some (.fro (.int v), st') => if 0 ≤ v then some (v.toNat, st') else none
    | _ => none) = _
  rw [e]
  exact if_pos a0
theorem d_one_of {xs : List Nat} (h0 : 0 < xs.length) (h1 : xs.length ≤ 1000000) : Dr 1 (p__law_one_of xs) (· ∈ xs) := fun n st p hn => by
  obtain ⟨v, st1, e, hv, p1⟩ := d_take h0 h1 n st p hn
  refine ⟨xs[v], st1, ?_, List.getElem_mem _, p1⟩
  unfold p__law_one_of
  rw [e]
  simp [List.getElem?_eq_getElem hv]
theorem d_bounds : Dr 6 p__law_draw_bounds (fun p => p.1 ≤ p.2 ∧ p.2 ≤ 99) := fun n st p hn => by
  obtain ⟨v1, s1, e1, q1, p1⟩ := d_take (a := 10) (by omega) (by omega) n st p (by omega)
  obtain ⟨v2, s2, e2, q2, p2⟩ := d_take (a := 100) (by omega) (by omega) _ s1 p1 (by omega)
  obtain ⟨v3, s3, e3, q3, p3⟩ := d_one_of (xs := [0, 1, 2, 3, 5, v1, v2]) (by simp) (by simp) _ s2 p2 (by omega)
  obtain ⟨v4, s4, e4, q4, p4⟩ := d_take (a := 10) (by omega) (by omega) _ s3 p3 (by omega)
  obtain ⟨v5, s5, e5, q5, p5⟩ := d_take (a := 100) (by omega) (by omega) _ s4 p4 (by omega)
  obtain ⟨v6, s6, e6, q6, p6⟩ := d_one_of (xs := [0, 0, 1, 2, 4, v4, v5]) (by simp) (by simp) _ s5 p5 (by omega)
  refine ⟨(v3, min 99 (v3 + v6)), s6, ?_, ?_, p6⟩
  · unfold p__law_draw_bounds
    simp only [e1, e2, e3, e4, e5, e6, Option.bind_some]
  · have : v3 ≤ 99 := by simp at q3; omega
    show v3 ≤ min 99 (v3 + v6) ∧ min 99 (v3 + v6) ≤ 99
    omega
theorem d_web {houses most : Nat} (h1 : 1 ≤ houses) (h2 : houses ≤ most + 1) (h3 : most ≤ 98) : Dr 3000 (p__law_draw_web houses most) (fun w => WebOk w houses most) := fun n st p hn => by
  obtain ⟨v, s1, e1, q1, p1⟩ := d_take (a := houses) (by omega) (by omega) n st p (by omega)
  obtain ⟨size, hsz⟩ : ∃ size, 1 + v = size := ⟨_, rfl⟩
  obtain ⟨w1, f1, g1, g2, g3, g4⟩ := forP_I (xs := List.range' 1 (size - 1)) (b := fun (x_6 : Nat) (v_4 : (List Rd) × List Cell) =>
    (p__law_take (v_4.1.length + (1 : Nat)) v_4.2).bind fun take_7 =>
    (p__law_take x_6 take_7.2).bind fun take_8 =>
    (p__law_draw_bounds take_8.2).bind fun draw_bounds_9 =>
    (insP v_4.1 take_7.1 (Rd.mk take_8.1 x_6 draw_bounds_9.1.1 draw_bounds_9.1.2)).bind fun roads_10 =>
    some (roads_10, draw_bounds_9.2)) (v := (([] : List Rd), s1)) (fun i v => PenS (n + 1 + 8 * i) v.2 ∧ v.1.length = i ∧ RsOk size v.1 ∧ ∀ k, 1 ≤ k → k ≤ i → ∃ r ∈ v.1, r.b = k)
    ⟨by simpa using p1, rfl, ⟨fun r hr => by simp at hr, fun r hr => by simp at hr⟩, fun k a b => by omega⟩ (fun i x v hx ⟨g1, g2, g3, g4⟩ => by
      obtain ⟨hi, rfl⟩ := rng1_get.mp hx
      obtain ⟨u1, s2, e2, q2, p2⟩ := d_take (a := v.1.length + 1) (by omega) (by omega) _ v.2 g1 (by omega)
      obtain ⟨u2, s3, e3, q3, p3⟩ := d_take (a := i + 1) (by omega) (by omega) _ s2 p2 (by omega)
      obtain ⟨u3, s4, e4, q4, p4⟩ := d_bounds _ s3 p3 (by omega)
      refine ⟨(v.1.take u1 ++ [Rd.mk u2 (i + 1) u3.1 u3.2] ++ v.1.drop u1, s4), ?_, p4.mono (by omega), ?_, ?_, fun k a b => ?_⟩
      · simp only [e2, e3, e4, Option.bind_some]
        rw [insP_eq (by omega) (by omega)]; rfl
      · have := (ins_perm v.1 u1 (Rd.mk u2 (i + 1) u3.1 u3.2)).length_eq
        rw [List.length_cons] at this
        show (v.1.take u1 ++ [Rd.mk u2 (i + 1) u3.1 u3.2] ++ v.1.drop u1).length = i + 1
        omega
      · exact g3.ins u1 (r := Rd.mk u2 (i + 1) u3.1 u3.2) q3 (by show i + 1 < size; omega) q4.1 q4.2
      · by_cases hk : k = i + 1
        · exact ⟨Rd.mk u2 (i + 1) u3.1 u3.2, by simp, hk.symm⟩
        · obtain ⟨r, hr, hb⟩ := g4 k a (by omega)
          exact ⟨r, (ins_perm _ _ _).mem_iff.mpr (.tail _ hr), hb⟩)
  rw [List.length_range'] at g1 g2 g4
  obtain ⟨v2, s2, e2, q2, p2⟩ := d_take (a := most + 1) (by omega) (by omega) _ w1.2 g1 (by omega)
  obtain ⟨w2, f2, k1, k2, k3, k4⟩ := forP_I (xs := List.range v2) (b := fun (x_17 : Nat) (v_15 : (List Rd) × List Cell) =>
    (if ((decide ((1 : Nat) < size)) && (decide (v_15.1.length < most))) = true then
      (natP ((size : Int) - (1 : Int))).bind fun y_19 =>
      (p__law_take y_19 v_15.2).bind fun take_20 =>
      (some (((1 : Nat) + take_20.1) : Nat)).bind fun b_21 =>
      (p__law_take (v_15.1.length + (1 : Nat)) take_20.2).bind fun take_22 =>
      (p__law_take b_21 take_22.2).bind fun take_23 =>
      (p__law_draw_bounds take_23.2).bind fun draw_bounds_24 =>
      (insP v_15.1 take_22.1 (Rd.mk take_23.1 b_21 draw_bounds_24.1.1 draw_bounds_24.1.2)).bind fun roads_25 =>
      some (roads_25, draw_bounds_24.2)
    else
      some (v_15.1, v_15.2))) (v := (w1.1, s2)) (fun i v => PenS (n + 1 + 8 * (size - 1) + 1 + 9 * i) v.2 ∧ v.1.length ≤ most ∧ RsOk size v.1 ∧ ∀ k, 1 ≤ k → k < size → ∃ r ∈ v.1, r.b = k)
    ⟨by simpa using p2, by show w1.1.length ≤ most; omega, g3, fun k a b => g4 k a (by omega)⟩ (fun i x v hx ⟨g1, g2, g3, g4⟩ => by
      by_cases hc : 1 < size ∧ v.1.length < most
      · have hi : i < v2 := by
          have := (List.getElem?_eq_some_iff.mp hx).1
          simpa using this
        have en : natP ((size : Int) - (1 : Int)) = some (size - 1) := by
          unfold natP; rw [if_pos (by omega)]; congr 1; omega
        obtain ⟨u0, s1', e1', q1', p1'⟩ := d_take (a := size - 1) (by omega) (by omega) _ v.2 g1 (by omega)
        obtain ⟨u1, s2, e2, q2, p2⟩ := d_take (a := v.1.length + 1) (by omega) (by omega) _ s1' p1' (by omega)
        obtain ⟨u2, s3, e3, q3, p3⟩ := d_take (a := 1 + u0) (by omega) (by omega) _ s2 p2 (by omega)
        obtain ⟨u3, s4, e4, q4, p4⟩ := d_bounds _ s3 p3 (by omega)
        refine ⟨(v.1.take u1 ++ [Rd.mk u2 (1 + u0) u3.1 u3.2] ++ v.1.drop u1, s4), ?_, p4.mono (by omega), ?_, ?_, fun k a b => ?_⟩
        · rw [if_pos (by simp [hc.1, hc.2])]
          simp only [en, e1', e2, e3, e4, Option.bind_some]
          rw [insP_eq (by omega) (by omega)]; rfl
        · have := (ins_perm v.1 u1 (Rd.mk u2 (1 + u0) u3.1 u3.2)).length_eq
          rw [List.length_cons] at this
          show (v.1.take u1 ++ [Rd.mk u2 (1 + u0) u3.1 u3.2] ++ v.1.drop u1).length ≤ most
          omega
        · exact g3.ins u1 (r := Rd.mk u2 (1 + u0) u3.1 u3.2) q3 (by show 1 + u0 < size; omega) q4.1 q4.2
        · obtain ⟨r, hr, hb⟩ := g4 k a b
          exact ⟨r, (ins_perm _ _ _).mem_iff.mpr (.tail _ hr), hb⟩
      · refine ⟨v, ?_, g1.mono (by omega), g2, g3, g4⟩
        rw [if_neg (by simpa using hc)])
  rw [List.length_range] at k1
  obtain ⟨w3, f3, n1, n2⟩ := forP_I (xs := List.range size) (b := fun (x_31 : Nat) (v_29 : (List Nat) × List Cell) =>
    (p__law_take (x_31 + (1 : Nat)) v_29.2).bind fun take_32 =>
    (insP v_29.1 take_32.1 x_31).bind fun order_33 =>
    some (order_33, take_32.2)) (v := (([] : List Nat), w2.2)) (fun i v => PenS (n + 1 + 8 * (size - 1) + 1 + 9 * v2 + i) v.2 ∧ NmOk i v.1)
    ⟨by simpa using k1, ⟨rfl, List.nodup_nil, fun x hx => by simp at hx⟩⟩ (fun i x v hx ⟨g1, g2⟩ => by
      obtain ⟨hi, hx⟩ := List.getElem?_eq_some_iff.mp hx
      rw [List.length_range] at hi
      rw [List.getElem_range] at hx
      subst hx
      obtain ⟨u1, s2, e2, q2, p2⟩ := d_take (a := i + 1) (by omega) (by omega) _ v.2 g1 (by omega)
      have := g2.len
      refine ⟨(v.1.take u1 ++ [i] ++ v.1.drop u1, s2), ?_, p2.mono (by omega), g2.ins u1⟩
      simp only [e2, Option.bind_some]
      rw [insP_eq (by omega) (by omega)]; rfl)
  rw [List.length_range] at n1 n2
  have f4 : forP (fun (x_38 : Rd) (v_36 : (List Rd)) =>
    (w3.1[x_38.a]?).bind fun it_39 =>
    (w3.1[x_38.b]?).bind fun it_40 =>
    (w3.1[x_38.a]?).bind fun it_41 =>
    (w3.1[x_38.b]?).bind fun it_42 =>
    (appP v_36 (Rd.mk (min it_39 it_40) (max it_41 it_42) x_38.lo x_38.hi)).bind fun turned_43 =>
    some turned_43) w2.1 ([] : List Rd) = some (w2.1.map (rnR w3.1)) := forP_map _ (by omega) fun r hr v hv => by
      have lt := k3.lt r hr
      have ln := n2.len
      rw [nm_get (i := r.a) (by omega), nm_get (i := r.b) (by omega)]
      simp only [Option.bind_some]
      rw [appP_eq hv]; rfl
  refine ⟨⟨size, w2.1.map (rnR w3.1)⟩, w3.2, ?_, web_of (by omega) (by omega) k2 k3 n2 k4, n1.mono (by omega)⟩
  unfold p__law_draw_web
  rw [e1, Option.bind_some, Option.bind_some]
  dsimp only
  rw [hsz, rng2P_eq (by omega) (by omega), Option.bind_some, f1, Option.bind_some, e2, Option.bind_some]
  dsimp only
  rw [rngP_eq (by omega), Option.bind_some, f2, Option.bind_some, rngP_eq (by omega), Option.bind_some, f3, Option.bind_some, f4, Option.bind_some]
end G

namespace G
open PySem PySem.Spec L2 Pv
/-- roads that close no ring -/
inductive Fo (w : Web) : List Nat → Prop
  | nil : Fo w []
  | snoc {l : List Nat} {i : Nat} {r : Rd} : Fo w l → w.rs[i]? = some r → ¬ Jn w l r.a r.b → Fo w (l ++ [i])
theorem Fo.lt {w : Web} {l : List Nat} (h : Fo w l) : ∀ i ∈ l, i < w.rs.length := by
  induction h with
  | nil => intro i hi; simp at hi
  | snoc _ hr _ ih =>
    intro j hj
    rcases List.mem_append.mp hj with hj | hj
    · exact ih j hj
    · simp at hj; subst hj; exact (List.getElem?_eq_some_iff.mp hr).1
theorem Fo.nd {w : Web} {l : List Nat} (h : Fo w l) : l.Nodup := by
  induction h with
  | nil => exact List.nodup_nil
  | snoc _ hr hj ih => exact List.nodup_append.mpr ⟨ih, by simp, fun a ha b hb e => by simp at hb; subst hb; subst e; exact hj (.step .refl ha (nb_ends hr))⟩
theorem Fo.roots {w : Web} (W : RdsOk w) {l : List Nat} (h : Fo w l) : ∃ S : List Nat, S.length + l.length = w.n ∧ ∀ x, x < w.n → ∃ s ∈ S, Jn w l s x := by
  induction h with
  | nil => exact ⟨List.range w.n, by simp, fun x hx => ⟨x, List.mem_range.mpr hx, .refl⟩⟩
  | @snoc l i r _ hr hj ih =>
    obtain ⟨S, hS, hc⟩ := ih
    have lt := W r (List.mem_of_getElem? hr)
    have up : ∀ {x y}, Jn w l x y → Jn w (l ++ [i]) x y := fun j => j.mono fun i hi => List.mem_append_left _ hi
    obtain ⟨s1, h1, j1⟩ := hc r.a (by omega)
    obtain ⟨s2, h2, j2⟩ := hc r.b lt.2
    have hne : s1 ≠ s2 := fun e => hj ((j1.symm W).trans (e ▸ j2))
    refine ⟨S.erase s2, by
      rw [List.length_erase_of_mem h2, List.length_append]
      have := List.length_pos_of_mem h2
      simp; omega, fun x hx => ?_⟩
    obtain ⟨s, hs, j⟩ := hc x hx
    by_cases e : s = s2
    · subst e
      refine ⟨s1, (List.mem_erase_of_ne hne).mpr h1, ?_⟩
      exact ((up j1).trans (.step .refl (by simp) (nb_ends hr))).trans ((up (j2.symm W)).trans (up j))
    · exact ⟨s, (List.mem_erase_of_ne e).mpr hs, up j⟩
theorem Fo.len {w : Web} (W : RdsOk w) (h1 : 1 ≤ w.n) {l : List Nat} (h : Fo w l) : l.length + 1 ≤ w.n := by
  obtain ⟨S, hS, hc⟩ := h.roots W
  obtain ⟨s, hs, _⟩ := hc 0 (by omega)
  have := List.length_pos_of_mem hs
  omega
theorem Fo.tr {w : Web} (W : RdsOk w) (h1 : 1 ≤ w.n) {l : List Nat} (h : Fo w l) (hl : l.length + 1 = w.n) : Tr w l := by
  obtain ⟨S, hS, hc⟩ := h.roots W
  refine ⟨h.nd, h.lt, hl, fun x hx => ?_⟩
  obtain ⟨s, hs, j⟩ := hc x hx
  obtain ⟨s', hs', j'⟩ := hc 0 (by omega)
  have : s = s' := by
    match S, (show S.length = 1 by omega) with
    | [a], _ => simp at hs hs'; rw [hs, hs']
  subst this
  exact (j'.symm W).trans j
/-- all houses of a drawn web are joined -/
theorem web_all {w : Web} {h m : Nat} (W : WebOk w h m) : Jall w (List.range w.rs.length) := by
  obtain ⟨nm, l1, nd, lt, hc⟩ := W.cn
  have n1 := W.n1
  have get : ∀ k, k < w.n → ∃ x, nm[k]? = some x := fun k hk => get_lt (by omega)
  obtain ⟨z, hz⟩ := get 0 n1
  have key : ∀ k, k < w.n → ∀ x, nm[k]? = some x → Jn w (List.range w.rs.length) z x := by
    intro k
    induction k using Nat.strongRecOn with
    | ind k ih =>
      intro hk x hx
      by_cases h0 : k = 0
      · subst h0; rw [hz] at hx; cases hx; exact .refl
      · obtain ⟨a, r, ha, hr, he⟩ := hc k (by omega) hk
        obtain ⟨i, hi⟩ := List.getElem?_of_mem hr
        have hil : i ∈ List.range w.rs.length := List.mem_range.mpr (List.getElem?_eq_some_iff.mp hi).1
        rcases he with ⟨e1, e2⟩ | ⟨e1, e2⟩
        · rw [hx] at e2; cases e2
          exact .step (ih a ha (by omega) _ e1) hil (nb_ends hi)
        · rw [hx] at e2; cases e2
          exact .step (ih a ha (by omega) _ e1) hil (nb_symm W.ab (nb_ends hi))
  have pm : nm.Perm (List.range w.n) := nd_perm nd List.nodup_range (fun i hi => List.mem_range.mpr (lt i hi)) (by rw [List.length_range]; omega)
  have at_ : ∀ x, x < w.n → Jn w (List.range w.rs.length) z x := fun x hx => by
    obtain ⟨k, hk⟩ := List.getElem?_of_mem (pm.mem_iff.mpr (List.mem_range.mpr hx))
    exact key k (by have := (List.getElem?_eq_some_iff.mp hk).1; omega) x hk
  exact fun x hx => ((at_ 0 n1).symm W.ab).trans (at_ x hx)
/-- a drawn web has a tree -/
theorem web_tree {w : Web} {h m : Nat} (Wo : WebOk w h m) : ∃ T, Tr w T := by
  have W : RdsOk w := Wo.ab
  have h1 := Wo.n1
  have key : ∀ k, k ≤ w.rs.length → ∃ B, Fo w B ∧ ∀ i, i < k → ∀ r, w.rs[i]? = some r → Jn w B r.a r.b := by
    intro k
    induction k with
    | zero => intro _; exact ⟨[], .nil, fun i hi => by omega⟩
    | succ k ih =>
      intro hk
      obtain ⟨B, fB, hB⟩ := ih (by omega)
      obtain ⟨r, hr⟩ := get_lt (show k < w.rs.length by omega)
      by_cases hj : Jn w B r.a r.b
      · refine ⟨B, fB, fun i hi r' hr' => ?_⟩
        by_cases e : i = k
        · subst e; rw [hr] at hr'; cases hr'; exact hj
        · exact hB i (by omega) r' hr'
      · refine ⟨B ++ [k], .snoc fB hr hj, fun i hi r' hr' => ?_⟩
        by_cases e : i = k
        · subst e; rw [hr] at hr'; cases hr'
          exact .step .refl (by simp) (nb_ends hr)
        · exact (hB i (by omega) r' hr').mono fun j hj => List.mem_append_left _ hj
  obtain ⟨B, fB, hB2⟩ := key _ (Nat.le_refl _)
  have Ball : Jall w B := fun x hx => by
    have := web_all Wo x hx
    induction this with
    | refl => exact .refl
    | step _ hi hn' ih =>
      have hi := List.mem_range.mp hi
      obtain ⟨r, hr⟩ := get_lt hi
      have hb := hB2 _ hi r hr
      rcases nb_cases hr hn' with ⟨rfl, rfl⟩ | ⟨rfl, rfl⟩
      · exact (ih (nb_lt W (nb_symm W hn'))).trans hb
      · exact (ih (nb_lt W (nb_symm W hn'))).trans (hb.symm W)
  have lB : B.length + 1 = w.n := by
    have := fB.len W h1
    have := jall_len W Ball
    omega
  exact ⟨B, fB.tr W h1 lB⟩
end G

namespace G
open PySem PySem.Spec L2 Pv
theorem p_fits_eq {w : Web} {g : List Nat} (hl : g.length = w.rs.length) (h : ∀ (i : Nat) x r, g[i]? = some x → w.rs[i]? = some r → r.lo ≤ x ∧ x ≤ r.hi) : p__law_fits w g = some true := by
  unfold p__law_fits
  have e : ∀ p ∈ g.zip w.rs, p.2.lo ≤ p.1 ∧ p.1 ≤ p.2.hi := fun p hp => by
    obtain ⟨i, hi⟩ := List.getElem?_of_mem hp
    rw [List.getElem?_zip_eq_some] at hi
    exact h i p.1 p.2 hi.1 hi.2
  rw [if_neg (by simp [hl]), forC_all]
  · rfl
  · intro p hp
    obtain ⟨h1, h2⟩ := e p hp
    simp [p__law_is_integer, h1, h2]
theorem rai_fits {w : Web} {l : List Nat} (h : ∀ r ∈ w.rs, r.lo ≤ r.hi) : p__law_fits w (rai w l) = some true := p_fits_eq (rai_len w l) fun i x r hx hr => by
  rw [rai_get hr] at hx
  have := h r (List.mem_of_getElem? hr)
  cases hx
  split <;> omega
end G

namespace G
open PySem PySem.Spec L2 Pv
/-- a web in which a road has other bounds -/
theorem webok_with {w : Web} {h m i : Nat} {r : Rd} {lo hi : Nat} (W : WebOk w h m) (hr : w.rs[i]? = some r) (h1 : lo ≤ hi) (h2 : hi ≤ 99) : WebOk ⟨w.n, w.rs.take i ++ [⟨r.a, r.b, lo, hi⟩] ++ w.rs.drop (i + 1)⟩ h m ∧ (w.rs.take i ++ [(⟨r.a, r.b, lo, hi⟩ : Rd)] ++ w.rs.drop (i + 1)).length = w.rs.length := by
  have hil := (List.getElem?_eq_some_iff.mp hr).1
  have hlen : (w.rs.take i ++ [(⟨r.a, r.b, lo, hi⟩ : Rd)] ++ w.rs.drop (i + 1)).length = w.rs.length := by simp; omega
  have back : ∀ q ∈ w.rs.take i ++ [(⟨r.a, r.b, lo, hi⟩ : Rd)] ++ w.rs.drop (i + 1), q ∈ w.rs ∨ q = ⟨r.a, r.b, lo, hi⟩ := fun q hq => by
    rcases List.mem_append.mp hq with hq | hq
    · rcases List.mem_append.mp hq with hq | hq
      · exact .inl (List.mem_of_mem_take hq)
      · exact .inr (List.mem_singleton.mp hq)
    · exact .inl (List.mem_of_mem_drop hq)
  have forth : ∀ q ∈ w.rs, ∃ q' ∈ w.rs.take i ++ [(⟨r.a, r.b, lo, hi⟩ : Rd)] ++ w.rs.drop (i + 1), q'.a = q.a ∧ q'.b = q.b := fun q hq => by
    obtain ⟨j, hj⟩ := List.getElem?_of_mem hq
    by_cases e : j = i
    · subst e; rw [hr] at hj; cases hj
      exact ⟨⟨r.a, r.b, lo, hi⟩, by simp, rfl, rfl⟩
    · refine ⟨q, ?_, rfl, rfl⟩
      by_cases hlt : j < i
      · refine List.mem_append_left _ (List.mem_append_left _ (List.mem_of_getElem? (i := j) ?_))
        rw [List.getElem?_take_of_lt hlt]; exact hj
      · refine List.mem_append_right _ (List.mem_of_getElem? (i := j - (i + 1)) ?_)
        rw [List.getElem?_drop, show i + 1 + (j - (i + 1)) = j by omega]; exact hj
  have hri := List.mem_of_getElem? hr
  refine ⟨⟨W.n1, W.nh, by show (w.rs.take i ++ [(⟨r.a, r.b, lo, hi⟩ : Rd)] ++ w.rs.drop (i + 1)).length ≤ m; rw [hlen]; exact W.rm, fun q hq => ?_, fun q hq => ?_, ?_⟩, hlen⟩
  · rcases back q hq with h | rfl
    · exact W.ab q h
    · exact W.ab r hri
  · rcases back q hq with h | rfl
    · exact W.lh q h
    · exact ⟨h1, h2⟩
  · obtain ⟨nm, a1, a2, a3, a4⟩ := W.cn
    refine ⟨nm, a1, a2, a3, fun k k1 k2 => ?_⟩
    obtain ⟨a, q, b1, b2, b3⟩ := a4 k k1 k2
    obtain ⟨q', c1, c2, c3⟩ := forth q b2
    exact ⟨a, q', b1, c1, by rw [c2, c3]; exact b3⟩
theorem l_with_eq {w : Web} {i lo hi : Nat} {r : Rd} (hm : w.rs.length ≤ 1000) (hr : w.rs[i]? = some r) : p__law_with w i lo hi = some (w.n, w.rs.take i ++ [⟨r.a, r.b, lo, hi⟩] ++ w.rs.drop (i + 1)) := by
  have hil := (List.getElem?_eq_some_iff.mp hr).1
  unfold p__law_with
  rw [hr, Option.bind_some, addP_eq (by simp; omega), Option.bind_some, addP_eq (by simp; omega), Option.bind_some]
theorem d_near {houses most : Nat} (h1 : 1 ≤ houses) (h2 : houses ≤ most + 1) (h3 : most ≤ 98) : Dr 4000 (p__law_draw_near_fixed houses most) (fun w => WebOk w houses most) := fun n st p hn => by
  obtain ⟨w, s1, e1, W, p1⟩ := d_web h1 h2 h3 n st p (by omega)
  have hm := W.rm
  suffices h : Ok (p__law_draw_near_fixed houses most st) (fun v => WebOk v.1 houses most ∧ PenS (n + 4000) v.2) by
    obtain ⟨a, e, q⟩ := h
    exact ⟨a.1, a.2, e, q⟩
  unfold p__law_draw_near_fixed
  refine Ok.bindE e1 ?_
  dsimp only
  refine Ok.bindE (rngP_eq (show w.rs.length ≤ 1000000 by omega)) ?_
  refine Ok.bind (P := fun v => WebOk v.1 houses most ∧ PenS (n + 4000) v.2) (Ok.for (fun k v => PenS (n + 3000 + 3 * k) v.2 ∧ WebOk v.1 houses most ∧ v.1.rs.length = w.rs.length) ⟨by simpa using p1, W, rfl⟩ (fun k x v hx ⟨g1, g2, g3⟩ => ?_) fun v ⟨g1, g2, _⟩ => ⟨g2, g1.mono (by rw [List.length_range]; omega)⟩) fun v ⟨g1, g2⟩ => Ok.ret ⟨g1, g2⟩
  obtain ⟨hk, hx⟩ := List.getElem?_eq_some_iff.mp hx
  rw [List.length_range] at hk
  rw [List.getElem_range] at hx
  subst hx
  obtain ⟨a, s2, e2, q2, p2⟩ := d_take (a := 3) (by omega) (by omega) _ v.2 g1 (by omega)
  refine Ok.bindE e2 ?_
  refine Ok.ite (fun _ => ?_) fun _ => Ok.ret ⟨p2.mono (by omega), g2, g3⟩
  obtain ⟨lo, s3, e3, q3, p3⟩ := d_take (a := 8) (by omega) (by omega) _ s2 p2 (by omega)
  refine Ok.bindE e3 ?_
  obtain ⟨d, s4, e4, q4, p4⟩ := d_one_of (xs := [0, 0, 1]) (by simp) (by simp) _ s3 p3 (by omega)
  refine Ok.bindE e4 ?_
  obtain ⟨r, hr⟩ := get_lt (show k < v.1.rs.length by omega)
  have hd : d ≤ 1 := by simp at q4; omega
  obtain ⟨Wn, ln⟩ := webok_with g2 hr (lo := lo) (hi := lo + d) (by omega) (by omega)
  refine Ok.bindE (l_with_eq (by omega) hr) ?_
  refine Ok.bindE rfl ?_
  exact Ok.ret ⟨p4.mono (by omega), Wn, by rw [← g3]; exact ln⟩
theorem WebOk.up {w : Web} {h m h' m' : Nat} (W : WebOk w h m) (a : h ≤ h') (b : m ≤ m') : WebOk w h' m' := ⟨W.n1, Nat.le_trans W.nh a, Nat.le_trans W.rm b, W.ab, W.lh, W.cn⟩
theorem keeps_of {m : Fm} {p : List Int → Option (Bool × List Cell)} (q : ∀ ns r, p ns = some r → m [.scr ns] [] = some (.fro (.bl r.1), r.2)) (h : ∀ ns, Ok (p ns) fun r => r.1 = true) : Keeps m := fun ns _ _ => by
  obtain ⟨r, e, hr⟩ := h ns
  refine ⟨r.2, ?_⟩
  rw [q ns r e, hr]
end G

namespace G
open PySem PySem.Spec L2 Pv
theorem sh_nat (k n : Nat) : shortD k (nD n) = true := by cases k <;> rfl
theorem sh_non (k : Nat) : shortD k .non = true := by cases k <;> rfl
theorem sh_bl (k : Nat) (b : Bool) : shortD k (.bl b) = true := by cases k <;> rfl
theorem sh_lC {α : Type} {f : α → D} {k : Nat} {xs : List α} (hl : xs.length ≤ 1000000) (h : ∀ x ∈ xs, shortD k (f x) = true) : shortD (k + 1) (lC f xs) = true := by
  show (decide ((xs.map f).length ≤ 1000000) && (xs.map f).all (shortD k)) = true
  rw [List.length_map, decide_eq_true hl, Bool.true_and, List.all_eq_true]
  rintro _ hx
  obtain ⟨a, ha, rfl⟩ := List.mem_map.mp hx
  exact h a ha
theorem sh_tC {α : Type} {f : α → D} {k : Nat} {xs : List α} (hl : xs.length ≤ 1000000) (h : ∀ x ∈ xs, shortD k (f x) = true) : shortD (k + 1) (tC f xs) = true := sh_lC (f := f) hl h
theorem sh_oC {α : Type} {f : α → D} {k : Nat} {x : Option α} (h : ∀ a, x = some a → shortD k (f a) = true) : shortD k (oC f x) = true := by
  cases x with
  | none => exact sh_non k
  | some a => exact h a rfl
theorem sh_p2 {α β : Type} {f : α → D} {g : β → D} {k : Nat} {x : α × β} (h1 : shortD k (f x.1) = true) (h2 : shortD k (g x.2) = true) : shortD (k + 1) (p2 f g x) = true := by
  show (decide (2 ≤ 1000000) && ([f x.1, g x.2].all (shortD k))) = true
  simp [h1, h2]
theorem sameP_eq {α : Type} [DecidableEq α] {f : α → D} {a b : α} (e : a = b) (h : shortD 4 (f a) = true) : sameP f a b = some true := if_pos ⟨e, h⟩
end G

namespace G
open PySem PySem.Spec L2 Pv
structure Rp (k b : Nat) (d : D) : Prop where
  ok : eqOk k d = true
  sh : (py d).showable = true
  ls : (py d).leavesShort 8 = true
  bk : (py d).bulk ≤ b
structure RpA (k b : Nat) (ds : List D) : Prop where
  ok : ds.all (eqOk k) = true
  sh : PyData.showableAll (pyAll ds) = true
  ls : PyData.leavesShortAll 8 (pyAll ds) = true
  bk : PyData.bulkAll (pyAll ds) ≤ b
theorem sh99 : ∀ i : Nat, i < 1100 → (PyData.shown (.int (i : Int))).length ≤ 8 ∧ (PyData.showable (.int (i : Int))) = true := by decide +kernel
theorem Rp.nat {i : Nat} (k : Nat) (h : i < 1100) : Rp k 0 (nD i) := by
  obtain ⟨a, b⟩ := sh99 i h
  exact ⟨by cases k <;> rfl, b, by show decide ((PyData.shown (.int (i : Int))).length ≤ 8) = true; rw [decide_eq_true a], Nat.le_refl _⟩
theorem Rp.non (k : Nat) : Rp k 0 .non := ⟨by cases k <;> rfl, rfl, by decide +kernel, Nat.le_refl _⟩
theorem Rp.bl (k : Nat) (b : Bool) : Rp k 0 (.bl b) := ⟨by cases k <;> rfl, rfl, by cases b <;> decide +kernel, Nat.le_refl _⟩
theorem RpA.nil (k : Nat) : RpA k 0 [] := ⟨rfl, rfl, rfl, Nat.le_refl _⟩
theorem RpA.cons {k b c : Nat} {d : D} {ds : List D} (h : Rp k b d) (hs : RpA k c ds) : RpA k (b + 1 + c) (d :: ds) :=
  ⟨by rw [List.all_cons, h.ok, hs.ok]; rfl, by show ((py d).showable && PyData.showableAll (pyAll ds)) = true; rw [h.sh, hs.sh]; rfl,
    by show ((py d).leavesShort 8 && PyData.leavesShortAll 8 (pyAll ds)) = true; rw [h.ls, hs.ls]; rfl, by
      show (py d).bulk + 1 + PyData.bulkAll (pyAll ds) ≤ _
      have := h.bk; have := hs.bk; omega⟩
theorem RpA.mono {k b c : Nat} {ds : List D} (h : RpA k b ds) (l : b ≤ c) : RpA k c ds := ⟨h.ok, h.sh, h.ls, Nat.le_trans h.bk l⟩
theorem Rp.mono {k b c : Nat} {ds : D} (h : Rp k b ds) (l : b ≤ c) : Rp k c ds := ⟨h.ok, h.sh, h.ls, Nat.le_trans h.bk l⟩
theorem Rp.tup {k b : Nat} {ds : List D} (h : RpA k b ds) : Rp (k + 1) b (.tup ds) := ⟨h.ok, h.sh, h.ls, h.bk⟩
theorem Rp.lst {k b : Nat} {ds : List D} (h : RpA k b ds) : Rp (k + 1) b (.lst ds) := ⟨h.ok, h.sh, h.ls, h.bk⟩
theorem RpA.map {α : Type} {k b : Nat} {f : α → D} : ∀ {xs : List α}, (∀ x ∈ xs, Rp k b (f x)) → RpA k (xs.length * (b + 1)) (xs.map f)
  | [], _ => (RpA.nil k).mono (Nat.zero_le _)
  | x :: xs, h => ((h x (.head _)).mono (Nat.le_refl _) |> fun p => RpA.cons p (RpA.map fun y hy => h y (.tail _ hy))).mono (by rw [List.length_cons, Nat.add_mul, Nat.one_mul]; omega)
theorem Rp.ret {k b : Nat} {d : D} (h : Rp k b d) (hk : k = 40) (hb : b ≤ 90000) : reprP d = some (reprD d) := by
  subst hk
  unfold reprP
  rw [if_pos]
  unfold rpOk
  have e := PyData.shown_le_bulk 8 (Nat.le_refl _) (py d) h.ls
  have := h.bk
  rw [h.ok, h.sh, decide_eq_true (show (py d).shown.length ≤ 1000000 by omega)]
  rfl
theorem Rp.rd {r : Rd} {k : Nat} (h : r.a < 1100 ∧ r.b < 1100 ∧ r.lo < 1100 ∧ r.hi < 1100) : Rp (k + 1) 4 (rdD r) :=
  Rp.tup (RpA.cons (Rp.nat k h.1) (RpA.cons (Rp.nat k h.2.1) (RpA.cons (Rp.nat k h.2.2.1) (RpA.cons (Rp.nat k h.2.2.2) (RpA.nil k)))))
theorem Rp.web {w : Web} {k : Nat} (W : WebOk w 6 10) : Rp (k + 3) 60 (webD w) := by
  have h1 := W.nh
  have h2 := W.rm
  have hr : ∀ r ∈ w.rs, Rp (k + 1) 4 (rdD r) := fun r hr => Rp.rd (by
    have a := W.ab r hr
    have b := W.lh r hr
    omega)
  exact (Rp.tup (RpA.cons (Rp.nat (k + 2) (i := w.n) (by omega)) (RpA.cons (Rp.tup (RpA.map hr)) (RpA.nil _)))).mono (by omega)
theorem repr_web {w : Web} (W : WebOk w 6 10) : reprP (webD w) = some (reprD (webD w)) := (Rp.web (k := 37) W).ret rfl (by omega)
theorem WebOk.W {w : Web} {h m : Nat} (W : WebOk w h m) : RdsOk w := W.ab
end G

namespace G
open PySem PySem.Spec L2 Pv
theorem open_step {ns : List Int} {cs : List Int} {k : Int} {x y : Int} {j : Nat} (hk : k % 12 = (j : Int)) (hj : j < cs.length) (hy : cs[j] = y) :
    evSetI 1 dSet (evV (ev2 dMod (evSlot 2) (evV (evC (.int 12))))) (ev2 dAdd (evV (ev2 dIx (evSlot 1) (evV (ev2 dMod (evSlot 2) (evV (evC (.int 12))))))) (evSlot 3)) ⟨[.fro (.scr ns), .own (.lst (cs.map .int)), .fro (.int k), .fro (.int x)], []⟩ =
      some (.nx, ⟨[.fro (.scr ns), .own (.lst ((cs.set j (y + x)).map .int)), .fro (.int k), .fro (.int x)], []⟩) := by
  have h1 : dIx (.lst (cs.map .int)) (.int (j : Int)) = some (.fro (.int y)) := dIx_lst (by simp [hj, hy])
  have h2 : dSet (.lst (cs.map .int)) (.int (j : Int)) (.int (y + x)) = some (.lst ((cs.set j (y + x)).map .int)) := by
    rw [dSet_lst _ (by simpa using hj), List.map_set]
  simp [hk, h1, h2]
theorem v_open (ns : List Int) : ∃ d, m__law_open [.scr ns] [] = some (.own d, []) ∧ PenOk 0 (.d d) := by
  obtain ⟨c0, e1, l0⟩ : ∃ c0 : List Int, dSl (.scr ns) none (some 12) = some (.own (.lst (c0.map .int))) ∧ c0.length = min 12 ns.length := by
    refine ⟨ns.take 12, ?_, by simp⟩
    have := cut_take (ns.map D.int) 12
    simp only [dSl]
    rw [show (some (12 : Int)) = some ((12 : Nat) : Int) from rfl, this, List.map_take]
  obtain ⟨ws, e2⟩ : ∃ ws : List Int, dSl (.scr ns) (some 12) (some 63) = some (.own (.lst (ws.map .int))) ∧ (ws ≠ [] → 12 < ns.length) := by
    refine ⟨(ns.drop (min 12 ns.length)).take (min 63 ns.length - min 12 ns.length), ?_, fun h => ?_⟩
    · simp only [dSl, cutL]
      rw [show (some (12 : Int)) = some ((12 : Nat) : Int) from rfl, show (some (63 : Int)) = some ((63 : Nat) : Int) from rfl, HT.sIx_nat, HT.sIx_nat]
      simp
    · refine Classical.byContradiction fun hn => h ?_
      rw [List.drop_eq_nil_of_le (by omega)]
      simp
  obtain ⟨e2, h12⟩ := e2
  obtain ⟨s', hs, cs, g2, g3, hcs, rfl⟩ := forS_inv (it := evArgs dEnumS (evCons (evSl dSl (evSlot 0) (evPt (evV (evC (.int 12)))) (evPt (evV (evC (.int 63))))) (evNil))) (t := tgTup 2 (tgCons (tgName 2) (tgCons (tgName 3) (tgNil))))
    (b := evSetI 1 dSet (evV (ev2 dMod (evSlot 2) (evV (evC (.int 12))))) (ev2 dAdd (evV (ev2 dIx (evSlot 1) (evV (ev2 dMod (evSlot 2) (evV (evC (.int 12))))))) (evSlot 3)))
    (fun _ s => ∃ (cs : List Int) (g2 g3 : Slot), cs.length = min 12 ns.length ∧ s = ⟨[.fro (.scr ns), .own (.lst (cs.map .int)), g2, g3], []⟩)
    (ds := pairUp (upTo 0 (ws.map D.int).length) (ws.map .int)) (s := ⟨[.fro (.scr ns), .own (.lst (c0.map .int)), .non, .non], []⟩) (by simp [e2]) ⟨c0, .non, .non, l0, rfl⟩
    (fun i d s hd ⟨cs, g2, g3, hl, he⟩ => by
      subst he
      obtain ⟨x, y, hx, hy, rfl⟩ := pairUp_get hd
      have hne : ws ≠ [] := by rintro rfl; simp at hy
      have := h12 hne
      rw [upTo0, List.getElem?_map] at hx
      obtain ⟨k, hk, rfl⟩ := Option.map_eq_some_iff.mp hx
      rw [List.getElem?_map] at hy
      obtain ⟨z, hz, rfl⟩ := Option.map_eq_some_iff.mp hy
      have hj : k % 12 < cs.length := by omega
      refine ⟨⟨[.fro (.scr ns), .own (.lst (cs.map .int)), .fro (.int k), .fro (.int z)], []⟩, _, _, by simp, open_step (j := k % 12) (by omega) hj rfl, .inl rfl, cs.set (k % 12) (cs[k % 12] + z), .fro (.int k), .fro (.int z), by simp [hl], rfl⟩)
  refine ⟨.lst [.lst (cs.map .int), .int 0, .int 0], ?_, ⟨cs, 0, 0, rfl, by omega, by omega⟩⟩
  simp [m__law_open, ev__law_open, e1, dList, hs]
/-- the pen that a script opens -/
theorem openP_ok (ns : List Int) : Ok (openP ns) (PenS 0) := by
  obtain ⟨d, e, p⟩ := v_open ns
  exact ⟨[.d d], by unfold openP; rw [e], _, rfl, p⟩
theorem nat_of {i : Int} (h : 0 ≤ i) : ∃ k : Nat, i = (k : Int) := ⟨i.toNat, (Int.toNat_of_nonneg h).symm⟩
end G

namespace G
open PySem PySem.Spec L2 Pv
/-- the roads that a built road's side must not pass -/
def lS (w : Web) (pl : List Nat × List Nat) (road : Nat) : List Nat := (oth w pl.2).filter fun i => decide (i ∈ pl.1) || decide (loF w i < hiF w road)
/-- the roads of a dropped road's detours -/
def lD (w : Web) (pl : List Nat × List Nat) (road : Nat) : List Nat := (oth w pl.2).filter fun i => decide (hiF w i ≤ loF w road)
theorem lS_mem {w : Web} {pl : List Nat × List Nat} {road i : Nat} : i ∈ lS w pl road ↔ (i < w.rs.length ∧ i ∉ pl.2) ∧ (i ∈ pl.1 ∨ loF w i < hiF w road) := by
  unfold lS; rw [List.mem_filter, oth_mem]; simp
theorem lD_mem {w : Web} {pl : List Nat × List Nat} {road i : Nat} : i ∈ lD w pl road ↔ (i < w.rs.length ∧ i ∉ pl.2) ∧ hiF w i ≤ loF w road := by
  unfold lD; rw [List.mem_filter, oth_mem]; simp
theorem lS_len {w : Web} {pl : List Nat × List Nat} {road : Nat} : (lS w pl road).length ≤ w.rs.length := Nat.le_trans (List.length_filter_le _ _) (oth_len w pl.2)
theorem lD_len {w : Web} {pl : List Nat × List Nat} {road : Nat} : (lD w pl road).length ≤ w.rs.length := Nat.le_trans (List.length_filter_le _ _) (oth_len w pl.2)
/-- the ends of a road are joined by others -/
def Je (w : Web) (l : List Nat) (road : Nat) : Prop := ∃ r, w.rs[road]? = some r ∧ Jn w (oks l road) r.a r.b
theorem je_iff {w : Web} {l : List Nat} {road : Nat} {r : Rd} (hr : w.rs[road]? = some r) : Je w l road ↔ Jn w (oks l road) r.a r.b := ⟨fun ⟨q, hq, j⟩ => by rw [hr] at hq; cases hq; exact j, fun j => ⟨r, hr, j⟩⟩
/-- plans of a web -/
structure PlOk (w : Web) (pl : List Nat × List Nat) : Prop where
  b : ∀ i ∈ pl.1, i < w.rs.length
  d : ∀ i ∈ pl.2, i < w.rs.length
  nb : pl.1.Nodup
  nd : pl.2.Nodup
  dis : ∀ i ∈ pl.1, i ∉ pl.2
theorem PlOk.l1 {w : Web} {pl : List Nat × List Nat} (P : PlOk w pl) : pl.1.length ≤ w.rs.length := nodup_len _ P.nb P.b
theorem PlOk.l2 {w : Web} {pl : List Nat × List Nat} (P : PlOk w pl) : pl.2.length ≤ w.rs.length := nodup_len _ P.nd P.d
/-- a plan holds -/
structure Hol (w : Web) (pl : List Nat × List Nat) : Prop where
  s : ∀ i ∈ pl.1, ¬ Je w (lS w pl i) i
  t : ∀ i ∈ pl.2, Je w (lD w pl i) i
theorem sortTP_nD {xs : List Nat} (hl : xs.length ≤ 1000000) : sortTP nD xs = some (isort xs) := by
  unfold sortTP; rw [if_pos (sortOk_nD xs hl), sortBy_nD]
section
variable {w : Web} {pl : List Nat × List Nat} (hn : w.n ≤ 6) (hm : w.rs.length ≤ 10) (W : RdsOk w)
include hn hm W
theorem p_find_side_eq {road : Nat} (h : road < w.rs.length) : ∃ o, p_find_side w pl road = some o ∧ (o = none ↔ Je w (lS w pl road) road) := by
  obtain ⟨r, hr⟩ := get_lt h
  obtain ⟨o, e, h1, _⟩ := p_first_side_eq (l := lS w pl road) hn W hr (by have := lS_len (w := w) (pl := pl) (road := road); omega) fun i hi => (lS_mem.mp hi).1.1
  refine ⟨o, ?_, h1.trans (je_iff hr).symm⟩
  have ol := oth_len w pl.2
  unfold p_find_side
  rw [p_other_roads_eq _ (by omega), Option.bind_some, lcP_filter (fun i => decide (i ∈ pl.1) || decide (loF w i < hiF w road)) (by omega) fun i hi => by
    rw [p_low_F (oth_mem.mp hi).1, p_high_F h]
    cases decide (i ∈ pl.1) <;> rfl, Option.bind_some]
  show (p_first_side w road (lS w pl road)).bind _ = _
  rw [e]; rfl
theorem p_find_detour_eq {road : Nat} (h : road < w.rs.length) : ∃ o, p_find_detour w pl road = some o ∧ (o = none ↔ ¬ Je w (lD w pl road) road) := by
  obtain ⟨r, hr⟩ := get_lt h
  obtain ⟨o, e, h1, _⟩ := p_first_detour_eq (l := lD w pl road) hn hm W hr ((oth_nodup w pl.2).filter _) fun i hi => (lD_mem.mp hi).1.1
  refine ⟨o, ?_, h1.trans (not_congr (je_iff hr).symm)⟩
  have ol := oth_len w pl.2
  unfold p_find_detour
  rw [p_other_roads_eq _ (by omega), Option.bind_some, lcP_filter (fun i => decide (hiF w i ≤ loF w road)) (by omega) fun i hi => by
    rw [p_high_F (oth_mem.mp hi).1, p_low_F h]
    rfl, Option.bind_some]
  show (p_first_detour w road (lD w pl road)).bind _ = _
  rw [e]; rfl
/-- a road that breaks a plan -/
def Bad (w : Web) (pl : List Nat × List Nat) (road : Nat) : Prop := (road ∈ pl.1 ∧ Je w (lS w pl road) road) ∨ (road ∉ pl.1 ∧ ¬ Je w (lD w pl road) road)
theorem p_find_reason_eq {road : Nat} (h : road < w.rs.length) : ∃ o, p_find_reason w pl road = some o ∧ (o = none ↔ Bad w pl road) := by
  unfold p_find_reason
  by_cases hb : road ∈ pl.1
  · obtain ⟨o, e, h1⟩ := p_find_side_eq (pl := pl) hn hm W h
    refine ⟨o, by rw [if_pos (by simpa using hb), e]; rfl, h1.trans ⟨fun j => .inl ⟨hb, j⟩, ?_⟩⟩
    rintro (⟨_, j⟩ | ⟨k, _⟩)
    · exact j
    · exact absurd hb k
  · obtain ⟨o, e, h1⟩ := p_find_detour_eq (pl := pl) hn hm W h
    refine ⟨o, by rw [if_neg (by simpa using hb), e]; rfl, h1.trans ⟨fun j => .inr ⟨hb, j⟩, ?_⟩⟩
    rintro (⟨k, _⟩ | ⟨_, j⟩)
    · exact absurd k hb
    · exact j
theorem p_find_breach_eq (P : PlOk w pl) : ∃ o, p_find_breach w pl = some o ∧ (o = none ↔ Hol w pl) ∧ ∀ L, o = some L → ∃ i, ((i ∈ pl.1 ∧ Je w (lS w pl i) i ∧ L = rai w [i]) ∨ (i ∈ pl.2 ∧ ¬ Je w (lD w pl i) i ∧ L = rai w (oth w [i]))) := by
  classical
  have l1 := P.l1
  have l2 := P.l2
  have mem : ∀ i, i ∈ isort (pl.1 ++ pl.2) ↔ i ∈ pl.1 ∨ i ∈ pl.2 := fun i => by rw [isort_mem, List.mem_append]
  have lt : ∀ i ∈ isort (pl.1 ++ pl.2), i < w.rs.length := fun i hi => ((mem i).mp hi).elim (P.b i) (P.d i)
  have e0 : p_decided pl = some (isort (pl.1 ++ pl.2)) := by
    unfold p_decided
    rw [addP_eq (by omega), Option.bind_some, sortTP_nD (by rw [List.length_append]; omega)]; rfl
  let f : Nat → Option (List Nat) := fun i => some (rai w (if i ∈ pl.1 then [i] else oth w [i]))
  have e1 := forC_find (b := fun (x_4 : Nat) (v_2 : Unit) =>
    (p_find_reason w pl x_4).bind fun find_reason_5 =>
    (if find_reason_5.isNone = true then
      (if (decide (x_4 ∈ pl.1)) = true then some (([x_4] : List Nat) : (List Nat)) else (p_other_roads w ([x_4] : List Nat)).bind fun other_roads_7 => some (other_roads_7 : (List Nat))).bind fun c_8 =>
      (p_raised w c_8).bind fun raised_9 =>
      some (.rt (some raised_9))
    else
      some (.nx ()))) (fun i => decide (Bad w pl i)) f (isort (pl.1 ++ pl.2)) fun i hi => by
    obtain ⟨o, e, h1⟩ := p_find_reason_eq (pl := pl) hn hm W (lt i hi)
    show (p_find_reason w pl i).bind _ = _
    rw [e, Option.bind_some]
    by_cases hB : Bad w pl i
    · have ho := h1.mpr hB
      subst ho
      rw [if_pos (show (none : Option (List Nat)).isNone = true from rfl), if_pos (show decide (Bad w pl i) = true by simpa using hB)]
      by_cases hb : i ∈ pl.1
      · rw [if_pos (by simpa using hb), Option.bind_some, p_raised_eq _ (by omega)]
        show some (Ctl.rt (some (rai w [i]))) = some (Ctl.rt (some (rai w (if i ∈ pl.1 then [i] else oth w [i]))))
        rw [if_pos hb]
      · rw [if_neg (by simpa using hb), p_other_roads_eq _ (by omega), Option.bind_some, Option.bind_some, p_raised_eq _ (by omega)]
        show some (Ctl.rt (some (rai w (oth w [i])))) = some (Ctl.rt (some (rai w (if i ∈ pl.1 then [i] else oth w [i]))))
        rw [if_neg hb]
    · have ho : o.isNone = false := by
        cases o with
        | none => exact absurd (h1.mp rfl) hB
        | some x => rfl
      rw [ho, if_neg (by simp), if_neg (by simpa using hB)]
  have hol : Hol w pl ↔ ∀ i ∈ isort (pl.1 ++ pl.2), ¬ Bad w pl i := by
    constructor
    · rintro ⟨s, t⟩ i hi (⟨h1, h2⟩ | ⟨h1, h2⟩)
      · exact s i h1 h2
      · rcases (mem i).mp hi with h | h
        · exact h1 h
        · exact h2 (t i h)
    · intro h
      refine ⟨fun i hi j => h i ((mem i).mpr (.inl hi)) (.inl ⟨hi, j⟩), fun i hi => Classical.byContradiction fun j => h i ((mem i).mpr (.inr hi)) (.inr ⟨fun k => P.dis i k hi, j⟩)⟩
  unfold p_find_breach
  rw [e0, Option.bind_some, e1, Option.bind_some]
  cases hf : (isort (pl.1 ++ pl.2)).find? fun i => decide (Bad w pl i) with
  | none =>
    refine ⟨none, rfl, ⟨fun _ => hol.mpr fun i hi hB => ?_, fun _ => rfl⟩, fun L h => by cases h⟩
    have := List.find?_eq_none.mp hf i hi
    exact this (by simpa using hB)
  | some i =>
    have hB : Bad w pl i := by simpa using List.find?_some hf
    have hi := List.mem_of_find?_eq_some hf
    refine ⟨f i, rfl, ⟨fun h => (by cases h), fun h => absurd hB (hol.mp h i hi)⟩, fun L h => ⟨i, ?_⟩⟩
    have hL : rai w (if i ∈ pl.1 then [i] else oth w [i]) = L := Option.some.inj h
    rcases hB with ⟨h1, h2⟩ | ⟨h1, h2⟩
    · rw [if_pos h1] at hL
      exact .inl ⟨h1, h2, hL.symm⟩
    · rw [if_neg h1] at hL
      exact .inr ⟨((mem i).mp hi).resolve_left h1, h2, hL.symm⟩
end
theorem Lst.exch {w : Web} (W : RdsOk w) {f : Nat → Nat} {T : List Nat} (t : Lst w f T) {c e p q : Nat} (hc : c ∈ T) (he : nb w e p = some q) (hel : e < w.rs.length) (hj : ¬ Jn w (wo T c) p q) : f c ≤ f e := by
  have a := t.2 _ (t.1.exch W hc he hel hj)
  have b := tot_wo (f := f) t.1.nd hc
  have d : tot f (e :: wo T c) = f e + tot f (wo T c) := by simp [tot]
  omega
/-- a walk crosses -/
theorem jn_cross {w : Web} {l : List Nat} {x y : Nat} (S : Nat → Prop) (j : Jn w l x y) (h1 : S x) (h2 : ¬ S y) : ∃ c ∈ l, ∃ u v, nb w c u = some v ∧ S u ∧ ¬ S v := by
  induction j with
  | refl => exact absurd h1 h2
  | @step y z i _ hi hn ih =>
    by_cases hy : S y
    · exact ⟨i, hi, y, z, hn, hy, h2⟩
    · exact ih hy
theorem no_side {w : Web} {pl : List Nat × List Nat} {road : Nat} {T : List Nat} (W : RdsOk w) (h : Je w (lS w pl road) road) (hb : road ∈ pl.1) (t : Lst w (lf (rai w [road])) T) (hT : ∀ i ∈ pl.1, i ∈ T) : False := by
  obtain ⟨r, hr, j⟩ := h
  have hrT := hT road hb
  have cut := t.1.cut W hrT (nb_ends hr)
  obtain ⟨c, hc, u, v, huv, hu, hv⟩ := jn_cross (fun x => Jn w (wo T road) r.a x) j .refl cut
  obtain ⟨hc1, hcr⟩ := oks_mem.mp hc
  obtain ⟨⟨hcl, _⟩, hcs⟩ := lS_mem.mp hc1
  have hcT : c ∉ T := fun hcT => hv (.step hu (wo_mem.mpr ⟨hcT, hcr⟩) huv)
  have hlo : loF w c < hiF w road := hcs.resolve_left fun k => hcT (hT c k)
  have := t.exch W hrT huv hcl fun k => hv (hu.trans k)
  rw [lf_rai (t.1.lt road hrT), lf_rai hcl, if_pos (by simp), if_neg (by simpa using hcr)] at this
  omega
theorem no_detour {w : Web} {pl : List Nat × List Nat} {road : Nat} {T : List Nat} (W : RdsOk w) (hl : road < w.rs.length) (h : ¬ Je w (lD w pl road) road) (hb : road ∈ pl.2) (t : Lst w (lf (rai w (oth w [road]))) T) (hT : ∀ i ∈ T, i ∉ pl.2) : False := by
  classical
  obtain ⟨r, hr⟩ := get_lt hl
  rw [je_iff hr] at h
  have lt := W r (List.mem_of_getElem? hr)
  obtain ⟨c, hcT, ⟨u, v, huv, hne⟩, hj⟩ := t.1.pass W (p := r.a) (q := r.b) (by omega) lt.2 (fun x => decide (Jn w (oks (lD w pl road) road) r.a x)) (by simpa using Jn.refl) (by simpa using h)
  have hcl := t.1.lt c hcT
  have hcr : c ≠ road := fun e => hT c hcT (e ▸ hb)
  have hhi : ¬ hiF w c ≤ loF w road := fun k => hne (by
    have hc : c ∈ oks (lD w pl road) road := oks_mem.mpr ⟨lD_mem.mpr ⟨⟨hcl, hT c hcT⟩, k⟩, hcr⟩
    rw [Bool.eq_iff_iff, decide_eq_true_eq, decide_eq_true_eq]
    exact ⟨fun j => .step j hc huv, fun j => .step j hc (nb_symm W huv)⟩)
  have := t.exch W hcT (nb_ends hr) hl hj
  rw [lf_rai hcl, lf_rai hl, if_pos (oth_mem.mpr ⟨hcl, by simpa using hcr⟩), if_neg (fun k => (oth_mem.mp k).2 (by simp))] at this
  omega
end G

namespace G
open PySem PySem.Spec L2 Pv
theorem sort3 {xs : List (Nat × Bool × Nat)} (h : xs.length ≤ 1000000) : ∃ S, sortP (p3 nD D.bl nD) xs = some S ∧ S.Perm xs := by
  refine ⟨_, if_pos ?_, sortBy_perm _ _⟩
  unfold sortOk
  simp only [Bool.and_eq_true, Bool.or_eq_true, decide_eq_true_eq, List.length_map, List.all_eq_true, List.mem_map]
  refine ⟨⟨⟨h, ?_⟩, ?_⟩, .inl ?_⟩
  · rintro _ ⟨x, _, rfl⟩; rfl
  · rintro _ ⟨x, _, rfl⟩ _ ⟨y, _, rfl⟩; rfl
  · rintro _ ⟨x, _, rfl⟩; rfl
section
variable {w : Web} {pl : List Nat × List Nat} (hn : w.n ≤ 6) (h1 : 1 ≤ w.n) (hm : w.rs.length ≤ 10) (W : RdsOk w)
include hn hm W
theorem apartE {l : List Nat} {road : Nat} (h : road < w.rs.length) (hll : l.length ≤ 1000) (hl : ∀ i ∈ l, i < w.rs.length) : ∃ b, p__law_is_apart w l road = some b ∧ (b = true ↔ ¬ Je w l road) := by
  obtain ⟨r, hr⟩ := get_lt h
  obtain ⟨b, e, hb⟩ := p_apart_eq W (by omega) hr hll hl
  exact ⟨b, e, hb.trans (not_congr (je_iff hr).symm)⟩
theorem l_holds_eq (P : PlOk w pl) : ∃ b, p__law_holds w pl = some b ∧ (b = true ↔ Hol w pl) := by
  classical
  have ol := oth_len w pl.2
  have e1 := forC_find (b := fun (x_6 : Nat) (v_4 : Unit) =>
    (w.rs[x_6]?).bind fun it_7 =>
    (lcP (fun (x_8 : Nat) => (orP (decide (x_8 ∈ pl.1)) ((w.rs[x_8]?).bind fun it_9 => some (decide (it_9.lo < it_7.hi)))).bind fun t_10 => some t_10) (fun (x_8 : Nat) => some (x_8 : Nat)) (oth w pl.2)).bind fun lc_11 =>
    (p__law_is_apart w lc_11 x_6).bind fun is_apart_12 =>
    (if (!is_apart_12) = true then
      some (.rt false)
    else
      some (.nx ()))) (fun i => decide (Je w (lS w pl i) i)) (fun _ => false) pl.1 fun i hi => by
    obtain ⟨r, hr⟩ := get_lt (P.b i hi)
    obtain ⟨b, e, hb⟩ := apartE (l := lS w pl i) hn hm W (P.b i hi) (by have := lS_len (w := w) (pl := pl) (road := i); omega) fun j hj => (lS_mem.mp hj).1.1
    show (w.rs[i]?).bind _ = _
    rw [hr, Option.bind_some, lcP_filter (fun j => decide (j ∈ pl.1) || decide (loF w j < hiF w i)) (by omega) fun j hj => by
      obtain ⟨q, hq⟩ := get_lt (oth_mem.mp hj).1
      rw [hq, loF_eq hq, hiF_eq hr]
      cases decide (j ∈ pl.1) <;> rfl, Option.bind_some]
    show (p__law_is_apart w (lS w pl i) i).bind _ = _
    rw [e, Option.bind_some]
    have hb2 : b = !decide (Je w (lS w pl i) i) := by rw [Bool.eq_iff_iff, hb]; simp
    rw [hb2, Bool.not_not]
    cases decide (Je w (lS w pl i) i) <;> rfl
  have e2 := forC_find (b := fun (x_20 : Nat) (v_18 : Unit) =>
      (w.rs[x_20]?).bind fun it_21 =>
      (lcP (fun (x_22 : Nat) => (w.rs[x_22]?).bind fun it_23 => some (decide (it_23.hi ≤ it_21.lo))) (fun (x_22 : Nat) => some (x_22 : Nat)) (oth w pl.2)).bind fun lc_24 =>
      (p__law_is_apart w lc_24 x_20).bind fun is_apart_25 =>
      (if is_apart_25 = true then
        some (.rt false)
      else
        some (.nx ()))) (fun i => decide (¬ Je w (lD w pl i) i)) (fun _ => false) pl.2 fun i hi => by
    obtain ⟨r, hr⟩ := get_lt (P.d i hi)
    obtain ⟨b, e, hb⟩ := apartE (l := lD w pl i) hn hm W (P.d i hi) (by have := lD_len (w := w) (pl := pl) (road := i); omega) fun j hj => (lD_mem.mp hj).1.1
    show (w.rs[i]?).bind _ = _
    rw [hr, Option.bind_some, lcP_filter (fun j => decide (hiF w j ≤ loF w i)) (by omega) fun j hj => by
      obtain ⟨q, hq⟩ := get_lt (oth_mem.mp hj).1
      rw [hq, hiF_eq hq, loF_eq hr]
      rfl, Option.bind_some]
    show (p__law_is_apart w (lD w pl i) i).bind _ = _
    rw [e, Option.bind_some]
    have hb2 : b = decide (¬ Je w (lD w pl i) i) := by rw [Bool.eq_iff_iff, hb]; simp
    rw [hb2]
    cases decide (¬ Je w (lD w pl i) i) <;> rfl
  unfold p__law_holds
  rw [rngP_eq (by omega), Option.bind_some, lcT_filter (by simp; omega), Option.bind_some]
  show ∃ b, (forC _ pl.1 ()).bind _ = some b ∧ _
  rw [show forC (R := Bool) (fun (x_6 : Nat) (v_4 : Unit) =>
    (w.rs[x_6]?).bind fun it_7 =>
    (lcP (fun (x_8 : Nat) => (orP (decide (x_8 ∈ pl.1)) ((w.rs[x_8]?).bind fun it_9 => some (decide (it_9.lo < it_7.hi)))).bind fun t_10 => some t_10) (fun (x_8 : Nat) => some (x_8 : Nat)) (List.filter (fun x_2 => decide (x_2 ∉ pl.2)) (List.range w.rs.length))).bind fun lc_11 =>
    (p__law_is_apart w lc_11 x_6).bind fun is_apart_12 =>
    (if (!is_apart_12) = true then
      some (.rt false)
    else
      some (.nx ()))) pl.1 () = _ from e1, Option.bind_some]
  cases hf : pl.1.find? fun i => decide (Je w (lS w pl i) i) with
  | some i =>
    have hB : Je w (lS w pl i) i := by simpa using List.find?_some hf
    have hi := List.mem_of_find?_eq_some hf
    exact ⟨false, rfl, ⟨fun h => (by cases h), fun h => absurd hB (h.s i hi)⟩⟩
  | none =>
    have n1 : ∀ i ∈ pl.1, ¬ Je w (lS w pl i) i := fun i hi j => List.find?_eq_none.mp hf i hi (by simpa using j)
    show ∃ b, (forC _ pl.2 ()).bind _ = some b ∧ _
    rw [show forC (R := Bool) (fun (x_20 : Nat) (v_18 : Unit) =>
      (w.rs[x_20]?).bind fun it_21 =>
      (lcP (fun (x_22 : Nat) => (w.rs[x_22]?).bind fun it_23 => some (decide (it_23.hi ≤ it_21.lo))) (fun (x_22 : Nat) => some (x_22 : Nat)) (List.filter (fun x_2 => decide (x_2 ∉ pl.2)) (List.range w.rs.length))).bind fun lc_24 =>
      (p__law_is_apart w lc_24 x_20).bind fun is_apart_25 =>
      (if is_apart_25 = true then
        some (.rt false)
      else
        some (.nx ()))) pl.2 () = _ from e2, Option.bind_some]
    cases hf2 : pl.2.find? fun i => decide (¬ Je w (lD w pl i) i) with
    | some i =>
      have hB : ¬ Je w (lD w pl i) i := by simpa using List.find?_some hf2
      have hi := List.mem_of_find?_eq_some hf2
      exact ⟨false, rfl, ⟨fun h => (by cases h), fun h => absurd (h.t i hi) hB⟩⟩
    | none => exact ⟨true, rfl, ⟨fun _ => ⟨n1, fun i hi => Classical.byContradiction fun j => List.find?_eq_none.mp hf2 i hi (by simpa using j)⟩, fun _ => rfl⟩⟩
include h1
/-- lengths that no least tree serves -/
theorem l_serves_no {ls : List Nat} (hl : ls.length = w.rs.length) (ht : ∃ T, Tr w T) (hno : ∀ T, Lst w (lf ls) T → (∀ i ∈ pl.1, i ∈ T) → (∀ i ∈ T, i ∉ pl.2) → False) (P : PlOk w pl) : p__law_serves w pl ls = some false := by
  obtain ⟨U, hU, eU⟩ := l_least_total_eq W hn h1 hm hl ht
  have ol := oth_len w pl.2
  have l1 := P.l1
  refine Ok.eq ?_
  unfold p__law_serves
  refine Ok.bindE eU ?_
  refine Ok.bindE (rngP_eq (by omega)) ?_
  refine Ok.bindE (lcP_eq (fun i => decide (i ∉ pl.2)) (fun i => (lf ls i, decide (i ∉ pl.1), i)) (by simp; omega) (fun _ _ => rfl) fun i hi _ => by
    rw [lf_get (by rw [hl]; exact List.mem_range.mp hi)]; rfl) ?_
  obtain ⟨S, eS, pS⟩ := sort3 (xs := ((List.range w.rs.length).filter fun i => decide (i ∉ pl.2)).map fun i => (lf ls i, decide (i ∉ pl.1), i)) (by
    rw [List.length_map]
    exact Nat.le_trans ol (by omega))
  refine Ok.bindE eS ?_
  have memS : ∀ x ∈ S, x.1 = lf ls x.2.2 ∧ x.2.2 < w.rs.length ∧ x.2.2 ∉ pl.2 := fun x hx => by
    obtain ⟨i, hi, rfl⟩ := List.mem_map.mp (pS.mem_iff.mp hx)
    have := oth_mem.mp (show i ∈ oth w pl.2 from hi)
    exact ⟨rfl, this⟩
  have ndS : (S.map fun x => x.2.2).Nodup := by
    have p := pS.map fun x : Nat × Bool × Nat => x.2.2
    rw [p.nodup_iff, List.map_map]
    show (List.map (fun i => i) _).Nodup
    rw [List.map_id']
    exact oth_nodup w pl.2
  have lenS : S.length ≤ 10 := by
    rw [pS.length_eq, List.length_map]
    exact Nat.le_trans ol hm
  refine Ok.bind (P := fun v => Fo w v.1 ∧ (∀ i ∈ v.1, i ∉ pl.2) ∧ v.2 = tot (lf ls) v.1 ∧ v.1.length ≤ 10) (Ok.for (fun k v => (Fo w v.1 ∧ (∀ i ∈ v.1, i ∉ pl.2) ∧ v.2 = tot (lf ls) v.1) ∧ v.1.length ≤ k ∧ ∀ i ∈ v.1, ∃ j, j < k ∧ (S.map fun x => x.2.2)[j]? = some i) ⟨⟨.nil, by simp, rfl⟩, by simp, by simp⟩ (fun k x v hx ⟨⟨g1, g2, g3⟩, g4, g5⟩ => ?_) fun v ⟨⟨g1, g2, g3⟩, g4, _⟩ => ⟨g1, g2, g3, by omega⟩) fun v ⟨g1, g2, g3, g4⟩ => ?_
  · obtain ⟨m1, m2, m3⟩ := memS x (List.mem_of_getElem? hx)
    have hk := (List.getElem?_eq_some_iff.mp hx).1
    obtain ⟨b, e, hb⟩ := apartE (l := v.1) hn hm W m2 (by omega) g1.lt
    refine Ok.bindE e ?_
    have hxk : (S.map fun x => x.2.2)[k]? = some x.2.2 := by rw [List.getElem?_map, hx]; rfl
    refine Ok.ite (fun h => ?_) fun _ => Ok.ret ⟨⟨g1, g2, g3⟩, Nat.le_succ_of_le g4, fun i hi => by obtain ⟨j, a, b⟩ := g5 i hi; exact ⟨j, by omega, b⟩⟩
    refine Ok.bindE (appP_eq (by omega)) ?_
    refine Ok.bindE rfl ?_
    obtain ⟨r, hr⟩ := get_lt m2
    have nj : ¬ Je w v.1 x.2.2 := hb.mp h
    refine Ok.ret ⟨⟨.snoc g1 hr fun j => ?_, fun i hi => ?_, ?_⟩, by simp; omega, fun i hi => ?_⟩
    · by_cases hin : x.2.2 ∈ v.1
      · obtain ⟨j', a, b⟩ := g5 _ hin
        have := (List.getElem?_inj (i := j') (j := k) (by rw [List.length_map]; have := (List.getElem?_eq_some_iff.mp hx).1; omega) ndS).mp (by rw [b, hxk])
        omega
      · exact nj ((je_iff hr).mpr (j.mono fun i hi => oks_mem.mpr ⟨hi, fun e => hin (by subst e; exact hi)⟩))
    · rcases List.mem_append.mp hi with hi | hi
      · exact g2 i hi
      · simp at hi; subst hi; exact m3
    · show v.2 + x.1 = _
      rw [g3, m1]; simp [tot]
    · rcases List.mem_append.mp hi with hi | hi
      · obtain ⟨j, a, b⟩ := g5 i hi; exact ⟨j, by omega, b⟩
      · simp at hi; subst hi; exact ⟨k, by omega, hxk⟩
  · by_cases hlen : v.1.length + 1 = w.n
    · by_cases htot : v.2 = tot (lf ls) U
      · by_cases hall : ∀ i ∈ pl.1, i ∈ v.1
        · have tr := g1.tr W h1 hlen
          exact absurd g2 fun _ => hno v.1 ⟨tr, fun V hV => by rw [← g3, htot]; exact hU.2 V hV⟩ hall g2
        · have : (false ∈ pl.1.map fun i => decide (i ∈ v.1)) := by
            obtain ⟨i, hi⟩ := Classical.not_forall.mp hall
            obtain ⟨hi, hi2⟩ := Classical.not_imp.mp hi
            exact List.mem_map.mpr ⟨i, hi, by simpa using hi2⟩
          rw [lcT_map (by omega)]
          refine Ok.bindE (a := false) ?_ (Ok.ret rfl)
          simp [andP, this, htot]
      · refine Ok.bindE (a := false) ?_ (Ok.ret rfl)
        simp [andP, htot]
    · refine Ok.bindE (a := false) ?_ (Ok.ret rfl)
      have : ¬ ((v.1.length : Int) = (w.n : Int) - 1) := by omega
      simp [andP, this]
end
end G

namespace G
open PySem PySem.Spec L2 Pv
theorem sh_str (k : Nat) (s : Str) : shortD k (.str s) = true := by cases k <;> rfl
/-- the plan with a step taken -/
def tk (pl : List Nat × List Nat) (word : Str) (road : Nat) : List Nat × List Nat := if word = ("build" : Str) then (isort (pl.1 ++ [road]), pl.2) else (pl.1, isort (pl.2 ++ [road]))
theorem p_taken_eq {pl : List Nat × List Nat} {word : Str} {road : Nat} (h1 : pl.1.length ≤ 1000) (h2 : pl.2.length ≤ 1000) : p_taken pl (word, road) = some (tk pl word road) := by
  unfold p_taken tk
  by_cases h : word = ("build" : Str)
  · rw [if_pos (by simpa using h), if_pos h, addP_eq (by simp; omega), Option.bind_some, sortTP_nD (by simp; omega)]; rfl
  · rw [if_neg (by simpa using h), if_neg h, addP_eq (by simp; omega), Option.bind_some, sortTP_nD (by simp; omega)]; rfl
theorem l_taken_eq {pl : List Nat × List Nat} {word : Str} {road : Nat} (h1 : pl.1.length ≤ 1000) (h2 : pl.2.length ≤ 1000) : p__law_taken pl word road = some (tk pl word road) := by
  unfold p__law_taken tk
  by_cases h : word = ("build" : Str)
  · rw [if_pos (by simpa using h), if_pos h, addP_eq (by simp; omega), Option.bind_some, sortTP_nD (by simp; omega)]; rfl
  · rw [if_neg (by simpa using h), if_neg h, addP_eq (by simp; omega), Option.bind_some, sortTP_nD (by simp; omega)]; rfl
theorem ok_build {w : Web} {pl : List Nat × List Nat} {road : Nat} (P : PlOk w pl) (h : road < w.rs.length) (hn : road ∉ pl.1 ++ pl.2) : PlOk w (isort (pl.1 ++ [road]), pl.2) := by
  rw [List.mem_append, not_or] at hn
  have mem : ∀ i, i ∈ isort (pl.1 ++ [road]) ↔ i ∈ pl.1 ∨ i = road := fun i => by rw [isort_mem]; simp
  refine ⟨fun i hi => ?_, P.d, isort_nodup.mpr (List.nodup_append.mpr ⟨P.nb, by simp, fun a ha b hb e => by simp at hb; subst hb; subst e; exact hn.1 ha⟩), P.nd, fun i hi => ?_⟩
  · rcases (mem i).mp hi with k | rfl
    · exact P.b i k
    · exact h
  · rcases (mem i).mp hi with k | rfl
    · exact P.dis i k
    · exact hn.2
theorem ok_drop {w : Web} {pl : List Nat × List Nat} {road : Nat} (P : PlOk w pl) (h : road < w.rs.length) (hn : road ∉ pl.1 ++ pl.2) : PlOk w (pl.1, isort (pl.2 ++ [road])) := by
  rw [List.mem_append, not_or] at hn
  have mem : ∀ i, i ∈ isort (pl.2 ++ [road]) ↔ i ∈ pl.2 ∨ i = road := fun i => by rw [isort_mem]; simp
  refine ⟨P.b, fun i hi => ?_, P.nb, isort_nodup.mpr (List.nodup_append.mpr ⟨P.nd, by simp, fun a ha b hb e => by simp at hb; subst hb; subst e; exact hn.2 ha⟩), fun i hi k => ?_⟩
  · rcases (mem i).mp hi with k | rfl
    · exact P.d i k
    · exact h
  · rcases (mem i).mp k with k | rfl
    · exact P.dis i hi k
    · exact hn.1 hi
theorem tk_ok {w : Web} {pl : List Nat × List Nat} {word : Str} {road : Nat} (P : PlOk w pl) (h : road < w.rs.length) (hn : road ∉ pl.1 ++ pl.2) : PlOk w (tk pl word road) := by
  unfold tk
  split
  · exact ok_build P h hn
  · exact ok_drop P h hn
theorem d_one_ofP {xs : List (List Nat × List Nat)} (h0 : 0 < xs.length) (h1 : xs.length ≤ 1000000) : Dr 1 (p__law_one_of'1 xs) (· ∈ xs) := fun n st p hn => by
  obtain ⟨v, st1, e, hv, p1⟩ := d_take h0 h1 n st p hn
  refine ⟨xs[v], st1, ?_, List.getElem_mem _, p1⟩
  unfold p__law_one_of'1
  rw [e]
  simp [List.getElem?_eq_getElem hv]
theorem d_plan {w : Web} {least : Nat} (Wo : WebOk w 6 10) (hl : least ≤ 4) : Dr 40 (p__law_draw_plan w least) (PlOk w) := fun n st p hn => by
  have hm := Wo.rm
  suffices h : Ok (p__law_draw_plan w least st) (fun v => PlOk w v.1 ∧ PenS (n + 40) v.2) by
    obtain ⟨a, e, q⟩ := h
    exact ⟨a.1, a.2, e, q⟩
  unfold p__law_draw_plan
  refine Ok.bindE rfl ?_
  obtain ⟨t, s1, e1, q1, p1⟩ := d_take (a := 8) (by omega) (by omega) n st p (by omega)
  refine Ok.bindE e1 ?_
  refine Ok.bindE (rngP_eq (show least + t ≤ 1000000 by omega)) ?_
  refine Ok.bind (P := fun v => PlOk w v.1 ∧ PenS (n + 40) v.2) (Ok.for (fun k v => PenS (n + 1 + 2 * k) v.2 ∧ PlOk w v.1) ⟨by simpa using p1, ⟨by simp, by simp, by simp, by simp, by simp⟩⟩ (fun k x v hx ⟨g1, P⟩ => ?_) fun v ⟨g1, g2⟩ => ⟨g2, g1.mono (by rw [List.length_range]; omega)⟩) fun v ⟨g1, g2⟩ => Ok.ret ⟨g1, g2⟩
  have hk : k < least + t := by have := (List.getElem?_eq_some_iff.mp hx).1; simpa using this
  have l1 := P.l1
  have l2 := P.l2
  obtain ⟨a, s2, e2, q2, p2⟩ := d_take (a := max 1 w.rs.length) (by omega) (by omega) _ v.2 g1 (by omega)
  refine Ok.bindE e2 ?_
  have e3 : andP (decide (a < w.rs.length)) ((addP v.1.1 v.1.2).bind fun s => some (decide (a ∉ s))) = some (decide (a < w.rs.length) && decide (a ∉ v.1.1 ++ v.1.2)) := by
    rw [addP_eq (by omega)]
    cases decide (a < w.rs.length) <;> rfl
  refine Ok.bindE e3 ?_
  refine Ok.ite (fun h => ?_) fun _ => Ok.ret ⟨p2.mono (by omega), P⟩
  rw [Bool.and_eq_true, decide_eq_true_eq, decide_eq_true_eq] at h
  refine Ok.bindE (addP_eq (by simp; omega)) ?_
  refine Ok.bindE (sortTP_nD (by simp; omega)) ?_
  refine Ok.bindE (addP_eq (by simp; omega)) ?_
  refine Ok.bindE (sortTP_nD (by simp; omega)) ?_
  refine Ok.bindE rfl ?_
  obtain ⟨z, s3, e4, q4, p3⟩ := d_one_ofP (xs := [(isort (v.1.1 ++ [a]), v.1.2), (v.1.1, isort (v.1.2 ++ [a]))]) (by simp) (by simp) _ s2 p2 (by omega)
  refine Ok.bindE e4 ?_
  have Pz : PlOk w z := by
    rcases List.mem_cons.mp q4 with rfl | q4
    · exact ok_build P h.1 h.2
    · rw [List.mem_singleton] at q4
      subst q4
      exact ok_drop P h.1 h.2
  obtain ⟨b, eb, _⟩ := l_holds_eq Wo.nh Wo.rm Wo.ab Pz
  refine Ok.bindE eb ?_
  refine Ok.bindE rfl ?_
  refine Ok.ret ⟨p3.mono (by omega), ?_⟩
  show PlOk w (if b = true then z else v.1)
  split
  · exact Pz
  · exact P
open Classical in
noncomputable def isOpt (w : Web) (pl : List Nat × List Nat) (s : Str × Nat) : Bool := decide (Hol w (tk pl s.1 s.2))
/-- the options with a word -/
noncomputable def due (w : Web) (pl : List Nat × List Nat) (word : Str) : List (Str × Nat) := ((oth w (pl.1 ++ pl.2)).map fun i => (word, i)).filter (isOpt w pl)
theorem due_len {w : Web} {pl : List Nat × List Nat} {word : Str} : (due w pl word).length ≤ w.rs.length := by
  refine Nat.le_trans (List.length_filter_le _ _) ?_
  rw [List.length_map]
  exact oth_len w _
theorem p_options_eq {w : Web} {pl : List Nat × List Nat} (Wo : WebOk w 6 10) (P : PlOk w pl) : p_options w pl = some (due w pl "build" ++ due w pl "drop") := by
  classical
  have hm := Wo.rm
  have l1 := P.l1
  have l2 := P.l2
  have eo : oth w (isort (pl.1 ++ pl.2)) = oth w (pl.1 ++ pl.2) := by
    unfold oth
    refine List.filter_congr fun i _ => ?_
    rw [Bool.eq_iff_iff, decide_eq_true_eq, decide_eq_true_eq, isort_mem]
  have ol := oth_len w (pl.1 ++ pl.2)
  have e0 : p_decided pl = some (isort (pl.1 ++ pl.2)) := by
    unfold p_decided
    rw [addP_eq (by omega), Option.bind_some, sortTP_nD (by rw [List.length_append]; omega)]; rfl
  unfold p_options
  rw [e0, Option.bind_some, p_other_roads_eq _ (by omega), Option.bind_some, eo, lcT_map (by omega), Option.bind_some, lcT_map (by omega), Option.bind_some, addP_eq (by simp; omega), Option.bind_some, lcP_filter (isOpt w pl) (by simp; omega) fun s hs => by
    obtain ⟨word, road⟩ := s
    have hr : road ∈ oth w (pl.1 ++ pl.2) := by
      rcases List.mem_append.mp hs with h | h
      · obtain ⟨i, hi, e⟩ := List.mem_map.mp h
        cases e; exact hi
      · obtain ⟨i, hi, e⟩ := List.mem_map.mp h
        cases e; exact hi
    obtain ⟨h1, h2⟩ := oth_mem.mp hr
    obtain ⟨o, e, ho, _⟩ := p_find_breach_eq Wo.nh Wo.rm Wo.ab (tk_ok (word := word) P h1 h2)
    rw [p_taken_eq (by omega) (by omega), Option.bind_some]
    unfold p_holds
    rw [e]
    show some o.isNone = some (decide (Hol w (tk pl word road)))
    congr 1
    rw [Bool.eq_iff_iff, decide_eq_true_eq, ← ho]
    cases o <;> simp]
  rw [Option.bind_some, List.filter_append]; rfl
theorem repr_both {w : Web} {pl : List Nat × List Nat} (Wo : WebOk w 6 10) (P : PlOk w pl) : reprP (p2 webD (p2 (tC nD) (tC nD)) (w, pl)) = some (reprD (p2 webD (p2 (tC nD) (tC nD)) (w, pl))) := by
  have hm := Wo.rm
  have l1 := P.l1
  have l2 := P.l2
  have a : ∀ l : List Nat, (∀ i ∈ l, i < w.rs.length) → l.length ≤ 10 → Rp 38 10 (tC nD l) := fun l hl h => (Rp.tup (RpA.map fun i hi => Rp.nat 37 (by have := hl i hi; omega))).mono (by omega)
  have b : Rp 40 100 (p2 webD (p2 (tC nD) (tC nD)) (w, pl)) := (Rp.tup (RpA.cons (Rp.web (k := 36) Wo) (RpA.cons (Rp.tup (RpA.cons (a pl.1 P.b (by omega)) (RpA.cons (a pl.2 P.d (by omega)) (RpA.nil _)))) (RpA.nil _)))).mono (by omega)
  exact b.ret rfl (by omega)
theorem keeps : Keeps m_law := keeps_of (p := p_law) (fun ns r h => q_law ns h) fun ns => by
  classical
  unfold p_law
  refine Ok.bind (openP_ok ns) fun st p0 => ?_
  rw [rngP_eq (by omega), Option.bind_some]
  refine Ok.forC (fun i st => PenS (5000 * i) st) p0 (fun i x st hx p => ?_) fun w _ => Ok.ret rfl
  have hi : i < 3 := by have := (List.getElem?_eq_some_iff.mp hx).1; simpa using this
  have hxi : x = i := by
    obtain ⟨_, h⟩ := List.getElem?_eq_some_iff.mp hx
    rw [List.getElem_range] at h; exact h.symm
  subst hxi
  refine Ok.bind (P := fun c => WebOk c.1 6 10 ∧ PenS (5000 * x + 4000) c.2) (Ok.ite (fun _ => ?_) fun _ => ?_) fun c ⟨Wo, p⟩ => ?_
  · obtain ⟨m, em, m1, m2⟩ : ∃ m, ([8, 8, 10] : List Nat)[x]? = some m ∧ 5 ≤ m ∧ m ≤ 10 := by
      rcases (show x = 0 ∨ x = 1 ∨ x = 2 by omega) with rfl | rfl | rfl
      · exact ⟨8, rfl, by omega, by omega⟩
      · exact ⟨8, rfl, by omega, by omega⟩
      · exact ⟨10, rfl, by omega, by omega⟩
    refine Ok.bindE em ?_
    obtain ⟨w, st', e, W, p'⟩ := d_near (houses := 6) (most := m) (by omega) (by omega) (by omega) _ st p (by omega)
    exact Ok.bindE e (Ok.ret ⟨WebOk.up W (by omega) (by omega), p'⟩)
  · obtain ⟨w, st', e, W, p'⟩ := d_web (houses := 6) (most := 10) (by omega) (by omega) (by omega) _ st p (by omega)
    exact Ok.bindE e (Ok.ret ⟨W, p'.mono (by omega)⟩)
  obtain ⟨w, s0⟩ := c
  have hn := Wo.nh
  have hm := Wo.rm
  have h1 := Wo.n1
  have W : RdsOk w := Wo.ab
  dsimp only at Wo p hn hm h1 ⊢
  refine Ok.bindE (show mulNP 2 x = some (2 * x) from if_pos (.inl (by omega))) ?_
  obtain ⟨pl, s1, e1, P, p1⟩ := d_plan (least := 2 * x) Wo (by omega) _ s0 p (by omega)
  refine Ok.bindE e1 ?_
  have l1 := P.l1
  have l2 := P.l2
  dsimp only
  refine Ok.bindE (repr_both Wo P) ?_
  refine Ok.forC (fun k v => v = ((["build", "drop"] : List Str).take k).flatMap (due w pl)) rfl (fun k word v hw hv => ?_) fun v hv => ?_
  · have hk : k < 2 := by have := (List.getElem?_eq_some_iff.mp hw).1; simpa using this
    have lv : v.length ≤ 10 * k := by
      rw [hv]
      have db := due_len (w := w) (pl := pl) (word := "build")
      have dd := due_len (w := w) (pl := pl) (word := "drop")
      rcases (show k = 0 ∨ k = 1 by omega) with rfl | rfl
      · simp
      · simp; omega
    refine Ok.bindE (rngP_eq (by omega)) ?_
    refine Ok.forC (fun j u => u = v ++ ((((List.range j).filter fun i => decide (i ∉ pl.1 ++ pl.2)).map fun i => (word, i)).filter (isOpt w pl))) (by simp) (fun j road u hr hu => ?_) fun u hu => ?_
    · obtain ⟨hj, h⟩ := List.getElem?_eq_some_iff.mp hr
      rw [List.length_range] at hj
      rw [List.getElem_range] at h
      subst h
      refine Ok.bindE (addP_eq (by omega)) ?_
      have lu : u.length ≤ 100 := by
        rw [hu, List.length_append]
        have a := List.length_filter_le (isOpt w pl) (((List.range j).filter fun i => decide (i ∉ pl.1 ++ pl.2)).map fun i => (word, i))
        rw [List.length_map] at a
        have b := List.length_filter_le (fun i => decide (i ∉ pl.1 ++ pl.2)) (List.range j)
        rw [List.length_range] at b
        omega
      refine Ok.ite (fun hnot => ?_) fun hnot => Ok.ret ⟨u, rfl, by rw [hu, List.range_succ, List.filter_append, List.filter_cons_of_neg (by simpa using hnot)]; simp⟩
      have hnot' : j ∉ pl.1 ++ pl.2 := by simpa using hnot
      have Pt := tk_ok (word := word) P hj hnot'
      have k1 := Pt.l1
      have k2 := Pt.l2
      refine Ok.bindE (l_taken_eq (by omega) (by omega)) ?_
      obtain ⟨b, eb, hb⟩ := l_holds_eq hn hm W Pt
      refine Ok.bindE eb ?_
      have hb2 : isOpt w pl (word, j) = b := by
        unfold isOpt
        rw [Bool.eq_iff_iff, decide_eq_true_eq, hb]
      have er : repP ([(word, j)] : List (Str × Nat)) (Bool.toNat b) = some (if b = true then [(word, j)] else []) := by
        cases b <;> rfl
      refine Ok.bindE er ?_
      refine Ok.bindE (addP_eq (by cases b <;> simp <;> omega)) ?_
      obtain ⟨o, eo, ho, hL⟩ := p_find_breach_eq hn hm W Pt
      have ea : p_find_against w pl (word, j) = some o := by
        unfold p_find_against
        rw [p_taken_eq (by omega) (by omega), Option.bind_some, eo]; rfl
      have hob : o.isNone = b := by
        rw [Bool.eq_iff_iff, hb, ← ho]
        cases o <;> simp
      refine Ok.bindE ea ?_
      refine Ok.bindE rfl ?_
      refine Ok.bindE (p_taken_eq (by omega) (by omega)) ?_
      refine Ok.bindE (sameP_eq rfl (sh_p2 (sh_tC (by omega) fun _ _ => sh_nat _ _) (sh_tC (by omega) fun _ _ => sh_nat _ _))) ?_
      refine Ok.ite (fun h => by simp [hob] at h) fun _ => ?_
      refine Ok.bindE ea ?_
      refine Ok.ite (fun h => by simp at h) fun _ => ?_
      refine Ok.bindE (a := false) ?_ ?_
      · cases o with
        | none => rfl
        | some L =>
          have fit : p__law_fits w L = some true := by
            obtain ⟨i, ⟨_, _, rfl⟩ | ⟨_, _, rfl⟩⟩ := hL L rfl
            · exact rai_fits fun r hr => (Wo.lh r hr).1
            · exact rai_fits fun r hr => (Wo.lh r hr).1
          have ser : p__law_serves w (tk pl word j) L = some false := by
            obtain ⟨i, ⟨h2, h3, rfl⟩ | ⟨h2, h3, rfl⟩⟩ := hL L rfl
            · exact l_serves_no hn h1 hm W (rai_len w _) (web_tree Wo) (fun T t hT _ => no_side W h3 h2 t hT) Pt
            · exact l_serves_no hn h1 hm W (rai_len w _) (web_tree Wo) (fun T t _ hT => no_detour W (Pt.d i h2) h3 h2 t hT) Pt
          show andP true _ = _
          rw [Option.bind_some, fit, ser]; rfl
      · refine Ok.ite (fun h => by cases h) fun _ => Ok.ret ⟨_, rfl, ?_⟩
        rw [hu, List.range_succ, List.filter_append, List.filter_cons_of_pos (by simpa using hnot), List.map_append, List.filter_append, List.append_assoc]
        congr 2
        show _ = List.filter (isOpt w pl) [(word, j)]
        cases hb' : b with
        | true => rw [List.filter_cons_of_pos (by rw [hb2, hb'])]; rfl
        | false => rw [List.filter_cons_of_neg (by rw [hb2, hb']; simp)]; rfl
    · refine Ok.ret ⟨u, rfl, ?_⟩
      rw [hu, List.length_range, hv, List.take_succ, hw]
      simp [due, oth]
  · have hv2 : v = due w pl "build" ++ due w pl "drop" := by rw [hv]; simp
    have db := due_len (w := w) (pl := pl) (word := "build")
    have dd := due_len (w := w) (pl := pl) (word := "drop")
    refine Ok.bindE (rngP_eq (by omega)) ?_
    refine Ok.forCall (fun y _ => ?_) (Ok.ret ⟨s1, rfl, p1.mono (by omega)⟩)
    refine Ok.bindE (p_options_eq Wo P) ?_
    refine Ok.bindE rfl ?_
    refine Ok.bindE (sameP_eq (by rw [hv2]) (sh_lC (by simp; omega) fun _ _ => sh_oC fun _ _ => sh_p2 (sh_str _ _) (sh_nat _ _))) ?_
    refine Ok.bindE (a := false) (by
      show orP false _ = _
      rw [repr_both Wo P]; simp [orP]) ?_
    refine Ok.ite (fun h => by cases h) fun _ => ?_
    refine Ok.bindE (appP_eq (by simp; omega)) ?_
    exact Ok.ret rfl
end G

set_option Elab.async false
open PySem PySem.W PyProof.Rows
set_option maxRecDepth 100000 in
set_option maxHeartbeats 0 in
theorem PySem.Challenge.cw_roughroads_k44_options_told_holds : PySem.Challenge.rw_roughroads_k44_options_told.Holds := by
  w_on; o_law; k_head; (case hw => w_witness2)
  k_fill
  refine Pv.walk_end (l := PySem.Challenge.rw_roughroads_k44_options_told) (k := 18) (x := "script") (m := G.m_law) rfl rfl (by decide) (fun w h Y => PySem.W.kIn_of Y) ?walkF ?lawM
  case walkF =>
    intro w mg fa h KX GX hmg
    refine' G.all_mk KX GX hmg ?a0 ?l0 ?c0 ?k0 ?a1 ?l1 ?c1 ?k1 ?a2 ?l2 ?c2 ?k2 ?a3 ?l3 ?c3 ?k3 ?a4 ?l4 ?c4 ?k4 ?a5 ?l5 ?c5 ?k5 ?a6 ?l6 ?c6 ?k6 ?a7 ?l7 ?c7 ?k7 ?a8 ?l8 ?c8 ?k8 ?a9 ?l9 ?c9 ?k9 ?a10 ?l10 ?c10 ?k10 ?a11 ?l11 ?c11 ?k11 ?a12 ?l12 ?c12 ?k12 ?a13 ?l13 ?c13 ?k13 ?a14 ?l14 ?c14 ?k14 ?a15 ?l15 ?c15 ?k15 ?a16 ?l16 ?c16 ?k16 ?a17 ?l17 ?c17 ?k17 ?a18 ?l18 ?c18 ?k18 ?a19 ?l19 ?c19 ?k19 ?a20 ?l20 ?c20 ?k20 ?a21 ?l21 ?c21 ?k21 ?a22 ?l22 ?c22 ?k22 ?a23 ?l23 ?c23 ?k23 ?a24 ?l24 ?c24 ?k24 ?a25 ?l25 ?c25 ?k25 ?a26 ?l26 ?c26 ?k26 ?a27 ?l27 ?c27 ?k27 ?a28 ?l28 ?c28 ?k28 ?a29 ?l29 ?c29 ?k29 ?a30 ?l30 ?c30 ?k30 ?a31 ?l31 ?c31 ?k31 ?a32 ?l32 ?c32 ?k32 ?a33 ?l33 ?c33 ?k33 ?a34 ?l34 ?c34 ?k34 ?a35 ?l35 ?c35 ?k35 ?a36 ?l36 ?c36 ?k36 ?a37 ?l37 ?c37 ?k37 ?a38 ?l38 ?c38 ?k38 ?z_bool ?z_enumerate ?z_int ?z_isinstance ?z_len ?z_list ?z_max ?z_min ?z_range ?z_repr ?z_sorted ?z_str ?z_tuple ?z_zip ?z_BUILD ?z_DROP
    (case a0 => k_is)
    (case l0 => k_is)
    (case c0 => k_is)
    (case k0 => k_is)
    (case a1 => k_is)
    (case l1 => k_is)
    (case c1 => k_is)
    (case k1 => k_is)
    (case a2 => k_is)
    (case l2 => k_is)
    (case c2 => k_is)
    (case k2 => k_is)
    (case a3 => k_is)
    (case l3 => k_is)
    (case c3 => k_is)
    (case k3 => k_is)
    (case a4 => k_is)
    (case l4 => k_is)
    (case c4 => k_is)
    (case k4 => k_is)
    (case a5 => k_is)
    (case l5 => k_is)
    (case c5 => k_is)
    (case k5 => k_is)
    (case a6 => k_is)
    (case l6 => k_is)
    (case c6 => k_is)
    (case k6 => k_is)
    (case a7 => k_is)
    (case l7 => k_is)
    (case c7 => k_is)
    (case k7 => k_is)
    (case a8 => k_is)
    (case l8 => k_is)
    (case c8 => k_is)
    (case k8 => k_is)
    (case a9 => k_is)
    (case l9 => k_is)
    (case c9 => k_is)
    (case k9 => k_is)
    (case a10 => k_is)
    (case l10 => k_is)
    (case c10 => k_is)
    (case k10 => k_is)
    (case a11 => k_is)
    (case l11 => k_is)
    (case c11 => k_is)
    (case k11 => k_is)
    (case a12 => k_is)
    (case l12 => k_is)
    (case c12 => k_is)
    (case k12 => k_is)
    (case a13 => k_is)
    (case l13 => k_is)
    (case c13 => k_is)
    (case k13 => k_is)
    (case a14 => k_is)
    (case l14 => k_is)
    (case c14 => k_is)
    (case k14 => k_is)
    (case a15 => k_is)
    (case l15 => k_is)
    (case c15 => k_is)
    (case k15 => k_is)
    (case a16 => k_is)
    (case l16 => k_is)
    (case c16 => k_is)
    (case k16 => k_is)
    (case a17 => k_is)
    (case l17 => k_is)
    (case c17 => k_is)
    (case k17 => k_is)
    (case a18 => k_is)
    (case l18 => k_is)
    (case c18 => k_is)
    (case k18 => k_is)
    (case a19 => k_is)
    (case l19 => k_is)
    (case c19 => k_is)
    (case k19 => k_is)
    (case a20 => k_is)
    (case l20 => k_is)
    (case c20 => k_is)
    (case k20 => k_is)
    (case a21 => k_is)
    (case l21 => k_is)
    (case c21 => k_is)
    (case k21 => k_is)
    (case a22 => k_is)
    (case l22 => k_is)
    (case c22 => k_is)
    (case k22 => k_is)
    (case a23 => k_is)
    (case l23 => k_is)
    (case c23 => k_is)
    (case k23 => k_is)
    (case a24 => k_is)
    (case l24 => k_is)
    (case c24 => k_is)
    (case k24 => k_is)
    (case a25 => k_is)
    (case l25 => k_is)
    (case c25 => k_is)
    (case k25 => k_is)
    (case a26 => k_is)
    (case l26 => k_is)
    (case c26 => k_is)
    (case k26 => k_is)
    (case a27 => k_is)
    (case l27 => k_is)
    (case c27 => k_is)
    (case k27 => k_is)
    (case a28 => k_is)
    (case l28 => k_is)
    (case c28 => k_is)
    (case k28 => k_is)
    (case a29 => k_is)
    (case l29 => k_is)
    (case c29 => k_is)
    (case k29 => k_is)
    (case a30 => k_is)
    (case l30 => k_is)
    (case c30 => k_is)
    (case k30 => k_is)
    (case a31 => k_is)
    (case l31 => k_is)
    (case c31 => k_is)
    (case k31 => k_is)
    (case a32 => k_is)
    (case l32 => k_is)
    (case c32 => k_is)
    (case k32 => k_is)
    (case a33 => k_is)
    (case l33 => k_is)
    (case c33 => k_is)
    (case k33 => k_is)
    (case a34 => k_is)
    (case l34 => k_is)
    (case c34 => k_is)
    (case k34 => k_is)
    (case a35 => k_is)
    (case l35 => k_is)
    (case c35 => k_is)
    (case k35 => k_is)
    (case a36 => k_is)
    (case l36 => k_is)
    (case c36 => k_is)
    (case k36 => k_is)
    (case a37 => k_is)
    (case l37 => k_is)
    (case c37 => k_is)
    (case k37 => k_is)
    (case a38 => k_is)
    (case l38 => k_is)
    (case c38 => k_is)
    (case k38 => k_is)
    (case z_bool => k_is)
    (case z_enumerate => k_is)
    (case z_int => k_is)
    (case z_isinstance => k_is)
    (case z_len => k_is)
    (case z_list => k_is)
    (case z_max => k_is)
    (case z_min => k_is)
    (case z_range => k_is)
    (case z_repr => k_is)
    (case z_sorted => k_is)
    (case z_str => k_is)
    (case z_tuple => k_is)
    (case z_zip => k_is)
    (case z_BUILD => k_is)
    (case z_DROP => k_is)
  case lawM => exact G.keeps
#print axioms PySem.Challenge.cw_roughroads_k44_options_told_holds

