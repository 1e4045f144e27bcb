import PyProof.Rows.All
import Wide.All
import OpenK.AllK
import Wide.FinOn
import HandS.ForMost
import HandS.Deep
import HandS.Wide
import HandS.Walk
import HandS.Conv
import HandS.Zip
import HandS.EndBits
import HandS.TupAny
import HandS.TupMul
import HandS.TupLe
import HandS.Small
import HandS.IsInst
import HandS.More
import HandS.SortInts
import KE.SortData
import PyProof.ReprRoads
import PyProof.FitsInt
import PySem.Challenge.RW_roughroads_k03_ways_listed
set_option Elab.async false
set_option linter.all false
set_option maxRecDepth 100000
set_option autoImplicit false
namespace Pv
open PySem PySem.Spec L2

/-- a value as a tree; hd n: the n-th mutable cell -/
inductive D where
  | non | bl (b : Bool) | int (i : Int) | str (x : Str)
  | tup (xs : List D) | lst (xs : List D) | dct (t : Bool) (kvs : List (D × D)) | hd (n : Nat)
  /-- the script -/
  | scr (ns : List Int)
inductive Slot where
  | non | fro (d : D) | own (d : D)
inductive Cell where
  | d (d : D) | obj (C : Addr) (fs : List (Str × D))
structure Sg where
  env : List Slot
  st : List Cell
inductive RV where
  | fro (d : D) | own (d : D)
def RV.d : RV → D
  | .fro d => d
  | .own d => d

def kD : Key → D
  | .inl i => .int i
  | .inr x => .str x

mutual
inductive Rep (K : PySem.W.Frag) (φ : List Addr) (G : Hp) : V → D → Prop
  | non : Rep K φ G .non .non
  | bl (b : Bool) : Rep K φ G (.bl b) (.bl b)
  | int (i : Int) : Rep K φ G (.int i) (.int i)
  | str (x : Str) : Rep K φ G (.str x) (.str x)
  | tup {a : Addr} {xs : List V} {ds : List D} : G a = some (.tup xs) → RepA K φ G xs ds → Rep K φ G (.ref a) (.tup ds)
  | lst {a : Addr} {xs : List V} {ds : List D} : G a = some (.lst xs) → RepA K φ G xs ds → Rep K φ G (.ref a) (.lst ds)
  | dK {a : Addr} {kvs : List (Key × V)} {ds : List (D × D)} : Rd G a (.dK kvs) → RepK K φ G kvs ds → Rep K φ G (.ref a) (.dct false ds)
  | dT {a : Addr} {kvs : List (List Key × V)} {ds : List (D × D)} : Rd G a (.dT kvs) → RepT K φ G kvs ds → Rep K φ G (.ref a) (.dct true ds)
  | hd {a : Addr} {n : Nat} : φ[n]? = some a → Rep K φ G (.ref a) (.hd n)
  | scr {a : Addr} {ns : List Int} : SqL K G a (ns.map V.int) → Rep K φ G (.ref a) (.scr ns)
inductive RepA (K : PySem.W.Frag) (φ : List Addr) (G : Hp) : List V → List D → Prop
  | nil : RepA K φ G [] []
  | cons {v : V} {vs : List V} {d : D} {ds : List D} : Rep K φ G v d → RepA K φ G vs ds → RepA K φ G (v :: vs) (d :: ds)
inductive RepK (K : PySem.W.Frag) (φ : List Addr) (G : Hp) : List (Key × V) → List (D × D) → Prop
  | nil : RepK K φ G [] []
  | cons {k : Key} {v : V} {vs : List (Key × V)} {d : D} {ds : List (D × D)} : Rep K φ G v d → RepK K φ G vs ds → RepK K φ G ((k, v) :: vs) ((kD k, d) :: ds)
inductive RepT (K : PySem.W.Frag) (φ : List Addr) (G : Hp) : List (List Key × V) → List (D × D) → Prop
  | nil : RepT K φ G [] []
  | cons {k : List Key} {v : V} {vs : List (List Key × V)} {d : D} {ds : List (D × D)} : Rep K φ G v d → RepT K φ G vs ds → RepT K φ G ((k, v) :: vs) ((.tup (k.map kD), d) :: ds)
end

theorem rd_mono {G G' : Hp} (h : Same G G') {a : Addr} {u : HO} : Rd G a u → Rd G' a u
  | .inl e => .inl (h _ _ e)
  | .inr ⟨o, e⟩ => .inr ⟨o, h _ _ e⟩
theorem sqL_mono {K : PySem.W.Frag} {G G' : Hp} (h : Same G G') {a : Addr} {xs : List V} : SqL K G a xs → SqL K G' a xs
  | .inl e => .inl (rd_mono h e)
  | .inr e => .inr e
theorem sqT_mono {K : PySem.W.Frag} {G G' : Hp} (h : Same G G') {a : Addr} {xs : List V} : SqT K G a xs → SqT K G' a xs
  | .inl e => .inl (rd_mono h e)
  | .inr e => .inr e
theorem pre_get {φ φ' : List Addr} (h : φ <+: φ') {n : Nat} {a : Addr} (e : φ[n]? = some a) : φ'[n]? = some a := by
  obtain ⟨t, rfl⟩ := h
  rw [List.getElem?_append_left]
  · exact e
  · exact (List.getElem?_eq_some_iff.mp e).1

section
variable {K : PySem.W.Frag} {φ φ' : List Addr} {G G' : Hp}
mutual
theorem Rep.mono (h : Same G G') (p : φ <+: φ') : ∀ {v d}, Rep K φ G v d → Rep K φ' G' v d
  | _, _, .non => .non
  | _, _, .bl b => .bl b
  | _, _, .int b => .int b
  | _, _, .str b => .str b
  | _, _, .tup s a => .tup (h _ _ s) (RepA.mono h p a)
  | _, _, .lst s a => .lst (h _ _ s) (RepA.mono h p a)
  | _, _, .dK s a => .dK (rd_mono h s) (RepK.mono h p a)
  | _, _, .dT s a => .dT (rd_mono h s) (RepT.mono h p a)
  | _, _, .hd e => .hd (pre_get p e)
  | _, _, .scr e => .scr (sqL_mono h e)
theorem RepA.mono (h : Same G G') (p : φ <+: φ') : ∀ {v d}, RepA K φ G v d → RepA K φ' G' v d
  | _, _, .nil => .nil
  | _, _, .cons a b => .cons (Rep.mono h p a) (RepA.mono h p b)
theorem RepK.mono (h : Same G G') (p : φ <+: φ') : ∀ {v d}, RepK K φ G v d → RepK K φ' G' v d
  | _, _, .nil => .nil
  | _, _, .cons a b => .cons (Rep.mono h p a) (RepK.mono h p b)
theorem RepT.mono (h : Same G G') (p : φ <+: φ') : ∀ {v d}, RepT K φ G v d → RepT K φ' G' v d
  | _, _, .nil => .nil
  | _, _, .cons a b => .cons (Rep.mono h p a) (RepT.mono h p b)
end
end

/-- what stands at an own address -/
inductive Own (K : PySem.W.Frag) (φ : List Addr) (G : Hp) : HO → D → Prop
  | lst {xs ds} : RepA K φ G xs ds → Own K φ G (.lst xs) (.lst ds)
  | dK {kvs ds} : RepK K φ G kvs ds → Own K φ G (.dK kvs) (.dct false ds)
  | dT {kvs ds} : RepT K φ G kvs ds → Own K φ G (.dT kvs) (.dct true ds)
theorem Own.mono {K : PySem.W.Frag} {φ φ' : List Addr} {G G' : Hp} (h : Same G G') (p : φ <+: φ') {o d} : Own K φ G o d → Own K φ' G' o d
  | .lst a => .lst (a.mono h p)
  | .dK a => .dK (a.mono h p)
  | .dT a => .dT (a.mono h p)
theorem Own.rep {K : PySem.W.Frag} {φ : List Addr} {G H : Hp} (h : Same G H) {o d a} (e : H a = some o) : Own K φ G o d → Rep K φ H (.ref a) d
  | .lst r => .lst e (r.mono h (List.prefix_refl _))
  | .dK r => .dK (.inl e) (r.mono h (List.prefix_refl _))
  | .dT r => .dT (.inl e) (r.mono h (List.prefix_refl _))
inductive FsRep (K : PySem.W.Frag) (φ : List Addr) (G : Hp) : List (Str × V) → List (Str × D) → Prop
  | nil : FsRep K φ G [] []
  | cons {k v vs d ds} : Rep K φ G v d → FsRep K φ G vs ds → FsRep K φ G ((k, v) :: vs) ((k, d) :: ds)
theorem FsRep.mono {K : PySem.W.Frag} {φ φ' : List Addr} {G G' : Hp} (h : Same G G') (p : φ <+: φ') : ∀ {o d}, FsRep K φ G o d → FsRep K φ' G' o d
  | _, _, .nil => .nil
  | _, _, .cons a b => .cons (a.mono h p) (b.mono h p)
inductive CellAt (K : PySem.W.Frag) (φ : List Addr) (G : Hp) : HO → Cell → Prop
  | d {o x} : Own K φ G o x → CellAt K φ G o (.d x)
  | obj {C dx fs ds} : FsRep K φ G fs ds → CellAt K φ G (.ins C dx fs) (.obj C ds)
theorem CellAt.mono {K : PySem.W.Frag} {φ φ' : List Addr} {G G' : Hp} (h : Same G G') (p : φ <+: φ') {o d} : CellAt K φ G o d → CellAt K φ' G' o d
  | .d a => .d (a.mono h p)
  | .obj a => .obj (a.mono h p)

/-- what is fixed while a body (or a block) runs: F: what must stay, U: what was there, Z: what is hidden, G0, φ0: at the entry -/
structure Gh where
  K : PySem.W.Frag
  F : Hp
  U : Addr → Prop
  Z : Addr → Prop
  G0 : Hp
  φ0 : List Addr

structure Rel (g : Gh) (G : Hp) (φ : List Addr) (s : Sg) (σ : St) (H : Hp) : Prop where
  sub : Same G H
  g0 : Same g.G0 G
  new : ∀ a o, G a = some o → g.G0 a = some o ∨ ¬ g.U a
  old : Same g.F H
  use : ∀ a, g.U a → H a ≠ none
  zed : ∀ a, g.Z a → G a = none ∧ g.F a ≠ none
  pre : g.φ0 <+: φ
  len : s.env.length = σ.length
  fro : ∀ (i : Nat) d, s.env[i]? = some (Slot.fro d) → ∃ v, σ[i]? = some (some v) ∧ Rep g.K φ G v d
  own : ∀ (i : Nat) d, s.env[i]? = some (Slot.own d) → ∃ p o, σ[i]? = some (some (V.ref p)) ∧ H p = some o ∧ Own g.K φ G o d ∧ G p = none ∧ g.F p = none ∧ ¬ g.U p ∧ p ∉ φ
  sep : ∀ (i j : Nat) d e p, i ≠ j → s.env[i]? = some (Slot.own d) → s.env[j]? = some (Slot.own e) → σ[i]? = some (some (V.ref p)) → σ[j]? ≠ some (some (V.ref p))
  clen : s.st.length = φ.length
  cell : ∀ (n : Nat) a c, φ[n]? = some a → s.st[n]? = some c → ∃ o, H a = some o ∧ CellAt g.K φ G o c ∧ G a = none ∧ g.F a = none ∧ (a ∈ g.φ0 ∨ ¬ g.U a)
  nd : φ.Nodup

/-- the heap grew; what is new in G was not there -/
structure Grow (G H G' H' : Hp) : Prop where
  hh : Same H H'
  gg : Same G G'
  gh : Same G' H'
  new : ∀ a o, G' a = some o → G a = some o ∨ H a = none
theorem Grow.refl {G H : Hp} (h : Same G H) : Grow G H G H := ⟨Same.refl _, Same.refl _, h, fun _ _ e => .inl e⟩
theorem Grow.trans {G H G1 H1 G2 H2 : Hp} (a : Grow G H G1 H1) (b : Grow G1 H1 G2 H2) : Grow G H G2 H2 :=
  ⟨a.hh.trans b.hh, a.gg.trans b.gg, b.gh, fun x o e => by
    rcases b.new x o e with e | e
    · exact a.new x o e
    · exact .inr (a.hh.free e)⟩
theorem same_upd {H : Hp} {p : Addr} {o : HO} (h : H p = none) : Same H (upd H p o) := fun b x e => by
  rw [upd_ne (ne_of_none e h)]
  exact e
theorem upd_mono {G H : Hp} (h : Same G H) {p : Addr} {o : HO} : Same (upd G p o) (upd H p o) := fun b x e => by
  by_cases hb : b = p
  · subst hb; rw [upd_same] at e ⊢; exact e
  · rw [upd_ne hb] at e ⊢; exact h _ _ e
/-- a new thing that goes into G at once -/
theorem Grow.laid {G H : Hp} (h : Same G H) {p : Addr} {o : HO} (hp : H p = none) : Grow G H (upd G p o) (upd H p o) := by
  have gp : G p = none := h.free hp
  refine ⟨same_upd hp, same_upd gp, upd_mono h, fun a x e => ?_⟩
  by_cases ha : a = p
  · subst ha; exact .inr hp
  · rw [upd_ne ha] at e; exact .inl e
/-- a new thing that stays out of G -/
theorem Grow.aside {G H : Hp} (h : Same G H) {p : Addr} {o : HO} (hp : H p = none) : Grow G H G (upd H p o) :=
  ⟨same_upd hp, Same.refl _, h.trans (same_upd hp), fun _ _ e => .inl e⟩

section
variable {g : Gh} {G G' : Hp} {φ : List Addr} {s : Sg} {σ : St} {H H' : Hp}
theorem Rel.grow (R : Rel g G φ s σ H) (x : Grow G H G' H') : Rel g G' φ s σ H' := by
  have gn : ∀ p, G p = none → (∃ o, H p = some o) → G' p = none := fun p h1 ⟨o, h2⟩ => by
    cases q : G' p with
    | none => rfl
    | some u =>
      rcases x.new p u q with e | e
      · rw [h1] at e; cases e
      · rw [h2] at e; cases e
  refine ⟨x.gh, R.g0.trans x.gg, fun a o e => ?_, R.old.trans x.hh, fun a u h => R.use a u (x.hh.free h), fun a z => ⟨?_, (R.zed a z).2⟩, R.pre, R.len, fun i d e => ?_, fun i d e => ?_, R.sep, R.clen, fun n a c e1 e2 => ?_, R.nd⟩
  · rcases x.new a o e with e | e
    · exact R.new a o e
    · exact .inr fun u => R.use a u e
  · cases q : g.F a with
    | none => exact absurd q (R.zed a z).2
    | some o => exact gn a (R.zed a z).1 ⟨o, R.old a o q⟩
  · obtain ⟨v, h1, h2⟩ := R.fro i d e
    exact ⟨v, h1, h2.mono x.gg (List.prefix_refl _)⟩
  · obtain ⟨p, o, h1, h2, h3, h4, h5, h6, h7⟩ := R.own i d e
    exact ⟨p, o, h1, x.hh _ _ h2, h3.mono x.gg (List.prefix_refl _), gn p h4 ⟨o, h2⟩, h5, h6, h7⟩
  · obtain ⟨o, h1, h2, h3, h4, h5⟩ := R.cell n a c e1 e2
    exact ⟨o, x.hh _ _ h1, h2.mono x.gg (List.prefix_refl _), gn a h3 ⟨o, h1⟩, h4, h5⟩

/-- an own thing that no slot holds yet -/
structure Fresh (g : Gh) (G : Hp) (φ : List Addr) (s : Sg) (σ : St) (H : Hp) (p : Addr) (o : HO) (d : D) : Prop where
  at_ : H p = some o
  own : Own g.K φ G o d
  gp : G p = none
  fp : g.F p = none
  up : ¬ g.U p
  ph : p ∉ φ
  sl : ∀ (i : Nat) e, s.env[i]? = some (Slot.own e) → σ[i]? ≠ some (some (V.ref p))
theorem Fresh.of_new {p : Addr} {o : HO} {d : D} (R : Rel g G φ s σ H) (x : Grow G H G' H') (hp : H p = none) (h' : H' p = some o) (gp : G' p = none) (w : Own g.K φ G' o d) : Fresh g G' φ s σ H' p o d := by
  refine ⟨h', w, gp, R.old.free hp, fun u => R.use p u hp, fun hm => ?_, fun i e h1 h2 => ?_⟩
  · obtain ⟨n, hn⟩ := List.getElem?_of_mem hm
    have hl : n < s.st.length := by rw [R.clen]; exact (List.getElem?_eq_some_iff.mp hn).1
    obtain ⟨o', e, _⟩ := R.cell n p _ hn (List.getElem?_eq_getElem hl)
    rw [hp] at e; cases e
  · obtain ⟨q, o', e1, e2, _⟩ := R.own i e h1
    rw [h2] at e1
    cases e1
    rw [hp] at e2; cases e2
/-- a fresh thing is frozen -/
theorem Rel.freeze {p : Addr} {o : HO} {d : D} (R : Rel g G φ s σ H) (F : Fresh g G φ s σ H p o d) : Rel g (upd G p o) φ s σ H ∧ Same G (upd G p o) ∧ Rep g.K φ (upd G p o) (.ref p) d := by
  have sm : Same G (upd G p o) := same_upd F.gp
  refine ⟨⟨fun a x e => ?_, R.g0.trans sm, fun a x e => ?_, R.old, R.use, fun a z => ⟨?_, (R.zed a z).2⟩, R.pre, R.len, fun i d e => ?_, fun i d e => ?_, R.sep, R.clen, fun n a c e1 e2 => ?_, R.nd⟩, sm, ?_⟩
  · by_cases ha : a = p
    · subst ha; rw [upd_same] at e; cases e; exact F.at_
    · rw [upd_ne ha] at e; exact R.sub a x e
  · by_cases ha : a = p
    · subst ha; exact .inr F.up
    · rw [upd_ne ha] at e; exact R.new a x e
  · rw [upd_ne (by rintro rfl; exact (R.zed a z).2 F.fp)]
    exact (R.zed a z).1
  · obtain ⟨v, h1, h2⟩ := R.fro i d e
    exact ⟨v, h1, h2.mono sm (List.prefix_refl _)⟩
  · obtain ⟨q, o', h1, h2, h3, h4, h5, h6, h7⟩ := R.own i d e
    refine ⟨q, o', h1, h2, h3.mono sm (List.prefix_refl _), ?_, h5, h6, h7⟩
    rw [upd_ne (by rintro rfl; exact F.sl i d e h1)]
    exact h4
  · obtain ⟨o', h1, h2, h3, h4, h5⟩ := R.cell n a c e1 e2
    refine ⟨o', h1, h2.mono sm (List.prefix_refl _), ?_, h4, h5⟩
    rw [upd_ne (by rintro rfl; exact F.ph (List.mem_of_getElem? e1))]
    exact h3
  · exact F.own.rep (H := upd G p o) sm upd_same
end
end Pv

namespace Pv
open PySem PySem.Spec L2

theorem pe_imp {X : Cx} {e : Expr} {t t' : TE} (h : PE X e t) (f : ∀ σ H Q, t' σ H Q → t σ H Q) : PE X e t' := ⟨fun pins s σ H Q I q => h.run pins s σ H Q I (f _ _ _ q)⟩
theorem pt_imp {X : Cx} {e : Expr} {t t' : TT} (h : PT X e t) (f : ∀ σ H Q, t' σ H Q → t σ H Q) : PT X e t' := ⟨fun pins s σ H Q I q => h.run pins s σ H Q I (f _ _ _ q)⟩
theorem pw_imp {X : Cx} {e : Expr} {t t' : TT} (h : PW X e t) (f : ∀ σ H Q, t' σ H Q → t σ H Q) : PW X e t' := ⟨fun wh pins s σ H Q I q => h.run wh pins s σ H Q I (f _ _ _ q)⟩
theorem pa_imp {X : Cx} {e : List Expr} {t t' : TA} (h : PA X e t) (f : ∀ σ H Q, t' σ H Q → t σ H Q) : PA X e t' := ⟨fun pos pins s σ H Q I q => h.run pos pins s σ H Q I (f _ _ _ q)⟩
theorem ps_imp {X : Cx} {e : Stmt} {t t' : TS} (h : PS X e t) (f : ∀ D σ H, t' D σ H → t D σ H) : PS X e t' := ⟨fun pins s σ H D I q => h.run pins s σ H D I (f _ _ _ q)⟩
theorem pss_imp {X : Cx} {e : List Stmt} {t t' : TS} (h : PSs X e t) (f : ∀ D σ H, t' D σ H → t D σ H) : PSs X e t' := ⟨fun pins s σ H D I q => h.run pins s σ H D I (f _ _ _ q)⟩

/-- what a result is -/
inductive Res (g : Gh) (G : Hp) (φ : List Addr) (s : Sg) (σ : St) (H : Hp) : V → RV → Prop
  | fro {v d} : Rep g.K φ G v d → Res g G φ s σ H v (.fro d)
  | own {p o d} : Fresh g G φ s σ H p o d → Res g G φ s σ H (.ref p) (.own d)

abbrev Ev (α : Type) := Sg → Option (α × Sg)
def tR (K : PySem.W.Frag) (ev : Ev RV) : TE := fun σ H Q => ∃ g G φ s r s', g.K = K ∧ Rel g G φ s σ H ∧ ev s = some (r, s') ∧
  ∀ G' φ' H' v, Rel g G' φ' s' σ H' → Same G G' → φ <+: φ' → Res g G' φ' s' σ H' v r → Q v H'
def SR (X : Cx) (e : Expr) (ev : Ev RV) : Prop := PE X e (tR X.K ev)

/-- an operand: a tree, or a name's slot -/
inductive Bor where
  | val (d : D) | slot (i : Nat)
def BorRep (K : PySem.W.Frag) (φ : List Addr) (G : Hp) (σ : St) (v : V) : Bor → Prop
  | .val d => Rep K φ G v d
  | .slot i => σ[i]? = some (some v)
theorem BorRep.mono {K : PySem.W.Frag} {φ φ' : List Addr} {G G' : Hp} {σ : St} {v : V} (h : Same G G') (p : φ <+: φ') : ∀ {b : Bor}, BorRep K φ G σ v b → BorRep K φ' G' σ v b
  | .val _, r => Rep.mono h p r
  | .slot _, r => r
def tO (K : PySem.W.Frag) (ev : Ev Bor) : TE := fun σ H Q => ∃ g G φ s r s', g.K = K ∧ Rel g G φ s σ H ∧ ev s = some (r, s') ∧
  ∀ G' φ' H' v, Rel g G' φ' s' σ H' → Same G G' → φ <+: φ' → BorRep g.K φ' G' σ v r → Q v H'
def SB (X : Cx) (e : Expr) (ev : Ev Bor) : Prop := PE X e (tO X.K ev)
def evV (ev : Ev RV) : Ev Bor := fun s => (ev s).map fun p => (.val p.1.d, p.2)
theorem Res.froz {g : Gh} {G : Hp} {φ : List Addr} {s : Sg} {σ : St} {H : Hp} {v : V} {r : RV} (R : Rel g G φ s σ H) (x : Res g G φ s σ H v r) : ∃ G', Rel g G' φ s σ H ∧ Same G G' ∧ Rep g.K φ G' v r.d := by
  cases x with
  | fro h => exact ⟨G, R, Same.refl _, h⟩
  | own F => exact ⟨_, R.freeze F⟩
theorem sb_of {X : Cx} {e : Expr} {ev : Ev RV} (h : SR X e ev) : SB X e (evV ev) := pe_imp h fun σ H Q ⟨g, G, φ, s, r, s', hK, R, he, q⟩ => by
  unfold evV at he
  cases e1 : ev s with
  | none => rw [e1] at he; cases he
  | some p =>
    rw [e1] at he
    cases he
    refine ⟨g, G, φ, s, p.1, p.2, hK, R, e1, fun G' φ' H' v R' h1 h2 x => ?_⟩
    obtain ⟨G2, R2, h3, rp⟩ := x.froz R'
    exact q G2 φ' H' v R2 (h1.trans h3) h2 rp

/-- a list of frozen values -/
def tAs (K : PySem.W.Frag) (ev : Ev (List D)) : TA := fun σ H Q => ∃ g G φ s r s', g.K = K ∧ Rel g G φ s σ H ∧ ev s = some (r, s') ∧
  ∀ G' φ' H' v, Rel g G' φ' s' σ H' → Same G G' → φ <+: φ' → RepA g.K φ' G' v r → Q v H'
def SA (X : Cx) (es : List Expr) (ev : Ev (List D)) : Prop := PA X es (tAs X.K ev)
def evNil : Ev (List D) := fun s => some ([], s)
def evCons (a : Ev RV) (b : Ev (List D)) : Ev (List D) := fun s => (a s).bind fun p => (b p.2).map fun q => (p.1.d :: q.1, q.2)
theorem sa_nil {X : Cx} : SA X [] evNil := pa_imp pa_nil fun σ H Q ⟨g, G, φ, s, r, s', hK, R, he, q⟩ => by
  cases he
  exact q G φ H [] R (Same.refl _) (List.prefix_refl _) .nil
theorem sa_cons {X : Cx} {e : Expr} {es : List Expr} {a : Ev RV} {b : Ev (List D)} (ha : SR X e a) (hb : SA X es b) (hs : starEach (e :: es) X.env = (false, eval e X.env) :: starEach es X.env := by rfl) : SA X (e :: es) (evCons a b) :=
  pa_imp (pa_cons ha hb hs) fun σ H Q ⟨g, G, φ, s, r, s', hK, R, he, q⟩ => by
    unfold evCons at he
    cases e1 : a s with
    | none => rw [e1] at he; cases he
    | some p =>
      rw [e1] at he
      simp only [Option.bind_some] at he
      cases e2 : b p.2 with
      | none => rw [e2] at he; cases he
      | some y =>
        rw [e2] at he
        cases he
        refine ⟨g, G, φ, s, p.1, p.2, hK, R, e1, fun G1 φ1 H1 v R1 h1 h2 x => ?_⟩
        obtain ⟨G2, R2, h3, rp⟩ := x.froz R1
        refine ⟨g, G2, φ1, p.2, y.1, y.2, hK, R2, e2, fun G3 φ3 H3 vs R3 h4 h5 ra => ?_⟩
        exact q G3 φ3 H3 (v :: vs) R3 ((h1.trans h3).trans h4) (h2.trans h5) (.cons (rp.mono h4 h5) ra)
/-- a list of operands -/
inductive BorAll (K : PySem.W.Frag) (φ : List Addr) (G : Hp) (σ : St) : List V → List Bor → Prop
  | nil : BorAll K φ G σ [] []
  | cons {v vs b bs} : BorRep K φ G σ v b → BorAll K φ G σ vs bs → BorAll K φ G σ (v :: vs) (b :: bs)
def tOs (K : PySem.W.Frag) (ev : Ev (List Bor)) : TA := fun σ H Q => ∃ g G φ s r s', g.K = K ∧ Rel g G φ s σ H ∧ ev s = some (r, s') ∧
  ∀ G' φ' H' v, Rel g G' φ' s' σ H' → Same G G' → φ <+: φ' → BorAll g.K φ' G' σ v r → Q v H'
def SBs (X : Cx) (es : List Expr) (ev : Ev (List Bor)) : Prop := PA X es (tOs X.K ev)
def evNilB : Ev (List Bor) := fun s => some ([], s)
def evConsB (a : Ev Bor) (b : Ev (List Bor)) : Ev (List Bor) := fun s => (a s).bind fun p => (b p.2).map fun q => (p.1 :: q.1, q.2)
theorem sbs_nil {X : Cx} : SBs X [] evNilB := pa_imp pa_nil fun σ H Q ⟨g, G, φ, s, r, s', hK, R, he, q⟩ => by
  cases he
  exact q G φ H [] R (Same.refl _) (List.prefix_refl _) .nil
theorem sbs_cons {X : Cx} {e : Expr} {es : List Expr} {a : Ev Bor} {b : Ev (List Bor)} (ha : SB X e a) (hb : SBs X es b) (hs : starEach (e :: es) X.env = (false, eval e X.env) :: starEach es X.env := by rfl) : SBs X (e :: es) (evConsB a b) :=
  pa_imp (pa_cons ha hb hs) fun σ H Q ⟨g, G, φ, s, r, s', hK, R, he, q⟩ => by
    unfold evConsB at he
    cases e1 : a s with
    | none => rw [e1] at he; cases he
    | some p =>
      rw [e1] at he
      simp only [Option.bind_some] at he
      cases e2 : b p.2 with
      | none => rw [e2] at he; cases he
      | some y =>
        rw [e2] at he
        cases he
        refine ⟨g, G, φ, s, p.1, p.2, hK, R, e1, fun G1 φ1 H1 v R1 h1 h2 x => ?_⟩
        refine ⟨g, G1, φ1, p.2, y.1, y.2, hK, R1, e2, fun G3 φ3 H3 vs R3 h4 h5 ra => ?_⟩
        exact q G3 φ3 H3 (v :: vs) R3 (h1.trans h4) (h2.trans h5) (.cons (x.mono h4 h5) ra)

/-- tests -/
def tT (K : PySem.W.Frag) (ev : Ev Bool) : TT := fun σ H Q => ∃ g G φ s r s', g.K = K ∧ Rel g G φ s σ H ∧ ev s = some (r, s') ∧
  ∀ G' φ' H', Rel g G' φ' s' σ H' → Same G G' → φ <+: φ' → Q r H'
def ST (X : Cx) (e : Expr) (ev : Ev Bool) : Prop := PT X e (tT X.K ev)
def SW (X : Cx) (e : Expr) (ev : Ev Bool) : Prop := PW X e (tT X.K ev)

def deref (s : Sg) : D → D
  | .hd n => match s.st[n]? with
    | some (.d x) => x
    | _ => .hd n
  | d => d
def fetch (s : Sg) : Bor → Option D
  | .val d => some (deref s d)
  | .slot i => match s.env[i]? with
    | some (.fro d) => some (deref s d)
    | some (.own d) => some d
    | _ => none
inductive OpRep (K : PySem.W.Frag) (φ : List Addr) (G H : Hp) : V → D → Prop
  | fro {v d} : Rep K φ G v d → OpRep K φ G H v d
  | own {p o d} : H p = some o → Own K φ G o d → OpRep K φ G H (.ref p) d
section
variable {g : Gh} {G : Hp} {φ : List Addr} {s : Sg} {σ : St} {H : Hp} {v : V} {d : D}
theorem Rel.deref (R : Rel g G φ s σ H) (r : Rep g.K φ G v d) : OpRep g.K φ G H v (deref s d) := by
  cases d with
  | hd n =>
    show OpRep g.K φ G H v (match s.st[n]? with
      | some (.d x) => x
      | _ => .hd n)
    cases e : s.st[n]? with
    | none => exact .fro r
    | some c =>
      cases c with
      | obj C fs => exact .fro r
      | d x =>
        cases r with
        | hd ha =>
          obtain ⟨o, h1, h2, _⟩ := R.cell n _ _ ha e
          cases h2 with
          | d w => exact .own h1 w
  | _ => exact .fro r
theorem Rel.fetch {b : Bor} (R : Rel g G φ s σ H) (r : BorRep g.K φ G σ v b) (h : fetch s b = some d) : OpRep g.K φ G H v d := by
  cases b with
  | val x =>
    cases h
    exact R.deref r
  | slot i =>
    have r : σ[i]? = some (some v) := r
    have h : (match s.env[i]? with
      | some (Slot.fro d) => some (Pv.deref s d)
      | some (Slot.own d) => some d
      | _ => none) = some d := h
    cases e : s.env[i]? with
    | none => rw [e] at h; cases h
    | some sl =>
      rw [e] at h
      cases sl with
      | non => cases h
      | fro x =>
        cases h
        obtain ⟨v', h1, h2⟩ := R.fro i x e
        rw [r] at h1
        cases h1
        exact R.deref h2
      | own x =>
        cases h
        obtain ⟨p, o, h1, h2, h3, _⟩ := R.own i _ e
        rw [r] at h1
        cases h1
        exact .own h2 h3
end
inductive OpAll (K : PySem.W.Frag) (φ : List Addr) (G H : Hp) : List V → List D → Prop
  | nil : OpAll K φ G H [] []
  | cons {v vs d ds} : OpRep K φ G H v d → OpAll K φ G H vs ds → OpAll K φ G H (v :: vs) (d :: ds)
def fetchAll (s : Sg) : List Bor → Option (List D)
  | [] => some []
  | b :: bs => (fetch s b).bind fun d => (fetchAll s bs).map fun ds => d :: ds
theorem Rel.fetchAll {g : Gh} {G : Hp} {φ : List Addr} {s : Sg} {σ : St} {H : Hp} (R : Rel g G φ s σ H) : ∀ {vs : List V} {bs : List Bor} {ds : List D}, BorAll g.K φ G σ vs bs → Pv.fetchAll s bs = some ds → OpAll g.K φ G H vs ds
  | _, _, _, .nil, h => by cases h; exact .nil
  | _, _, _, .cons (b := b) (bs := bs) r rs, h => by
    unfold Pv.fetchAll at h
    cases e1 : Pv.fetch s b with
    | none => rw [e1] at h; cases h
    | some d =>
      rw [e1] at h
      simp only [Option.bind_some] at h
      cases e2 : Pv.fetchAll s bs with
      | none => rw [e2] at h; cases h
      | some ds' =>
        rw [e2] at h
        cases h
        exact .cons (R.fetch r e1) (Rel.fetchAll R rs e2)

/-- the result of an operation -/
inductive ORes (K : PySem.W.Frag) (φ : List Addr) (H G' H' : Hp) : V → RV → Prop
  | fro {v d} : Rep K φ G' v d → ORes K φ H G' H' v (.fro d)
  | own {p o d} : H p = none → H' p = some o → G' p = none → Own K φ G' o d → ORes K φ H G' H' (.ref p) (.own d)
def OkRes (K : PySem.W.Frag) (φ : List Addr) (G H : Hp) (r : RV) (Q : VK) : Prop := ∀ G' H' v, Grow G H G' H' → ORes K φ H G' H' v r → Q v H'
theorem ORes.res {g : Gh} {G G' : Hp} {φ : List Addr} {s : Sg} {σ : St} {H H' : Hp} {v : V} {r : RV} (R : Rel g G φ s σ H) (x : Grow G H G' H') (o : ORes g.K φ H G' H' v r) : Res g G' φ s σ H' v r := by
  cases o with
  | fro h => exact .fro h
  | own h1 h2 h3 h4 => exact .own (Fresh.of_new R x h1 h2 h3 h4)

abbrev Op1 := D → Option RV
abbrev Op2 := D → D → Option RV
abbrev OpN := List D → Option RV
def rV2 (K : PySem.W.Frag) (f : Op2) : R2 := fun x y H Q => ∃ φ G dx dy r, Same G H ∧ OpRep K φ G H x dx ∧ OpRep K φ G H y dy ∧ f dx dy = some r ∧ OkRes K φ G H r Q
def rVN (K : PySem.W.Frag) (f : OpN) : List V → Hp → VK → Prop := fun xs H Q => ∃ φ G ds r, Same G H ∧ OpAll K φ G H xs ds ∧ f ds = some r ∧ OkRes K φ G H r Q
def DOp (X : Cx) (f : Value → Value → Sem Value) (op : Op2) : Prop := OpR X f (rV2 X.K op)
def DIx (X : Cx) (op : Op2) : Prop := IxR X (rV2 X.K op)
def DCall (X : Cx) (f : Value) (op : OpN) : Prop := CallR X f (rVN X.K op)

def ev2 (f : Op2) (a b : Ev Bor) : Ev RV := fun s => (a s).bind fun p => (b p.2).bind fun q => (fetch q.2 p.1).bind fun dx => (fetch q.2 q.1).bind fun dy => (f dx dy).map fun r => (r, q.2)
def evN (f : OpN) (a : Ev (List Bor)) : Ev RV := fun s => (a s).bind fun p => (fetchAll p.2 p.1).bind fun ds => (f ds).map fun r => (r, p.2)

theorem bind_some_iff {α β : Type} {o : Option α} {f : α → Option β} {b : β} : o.bind f = some b → ∃ a, o = some a ∧ f a = some b := by
  cases o with
  | none => intro h; cases h
  | some a => intro h; exact ⟨a, rfl, h⟩
theorem map_some_iff {α β : Type} {o : Option α} {f : α → β} {b : β} : o.map f = some b → ∃ a, o = some a ∧ f a = b := by
  cases o with
  | none => intro h; cases h
  | some a => intro h; cases h; exact ⟨a, rfl, rfl⟩

theorem op2_core {X : Cx} {a b : Expr} {ta tb : Ev Bor} {f : Op2} {σ : St} {H : Hp} {Q : VK} (h : tR X.K (ev2 f ta tb) σ H Q) : tOp (rV2 X.K f) (tO X.K ta) (tO X.K tb) σ H Q := by
  obtain ⟨g, G, φ, s, r, s', hK, R, he, q⟩ := h
  obtain ⟨p, e1, he⟩ := bind_some_iff he
  obtain ⟨y, e2, he⟩ := bind_some_iff he
  obtain ⟨dx, e3, he⟩ := bind_some_iff he
  obtain ⟨dy, e4, he⟩ := bind_some_iff he
  obtain ⟨r', e5, he⟩ := map_some_iff he
  cases he
  refine ⟨g, G, φ, s, p.1, p.2, hK, R, e1, fun G1 φ1 H1 v R1 h1 h2 x1 => ?_⟩
  refine ⟨g, G1, φ1, p.2, y.1, y.2, hK, R1, e2, fun G2 φ2 H2 u R2 h3 h4 x2 => ?_⟩
  refine ⟨φ2, G2, dx, dy, r, R2.sub, hK ▸ R2.fetch (x1.mono h3 h4) e3, hK ▸ R2.fetch x2 e4, e5, fun G3 H3 w gr o => ?_⟩
  exact q G3 φ2 H3 w (R2.grow gr) ((h1.trans h3).trans gr.gg) (h2.trans h4) (ORes.res R2 gr (hK ▸ o))
theorem sr_bin {X : Cx} {a b : Expr} {ta tb : Ev Bor} {f : Op2} {op : Operator} {pos : Pos} (ho : DOp X (binaryOp op) f) (ha : SB X a ta) (hb : SB X b tb) : SR X (.BinOp a op b pos) (ev2 f ta tb) :=
  pe_imp (pe_op ho ha hb) fun _ _ _ h => op2_core (a := a) (b := b) h
theorem sr_cmp {X : Cx} {a b : Expr} {ta tb : Ev Bor} {f : Op2} {op : CmpOp} {pos : Pos} (ho : DOp X (compareOp op) f) (ha : SB X a ta) (hb : SB X b tb) (hm : behindInMarks op b = false) : SR X (.Compare a [op] [b] pos) (ev2 f ta tb) :=
  pe_imp (pe_cmpR ho ha hb hm) fun _ _ _ h => op2_core (a := a) (b := b) h
theorem sr_ix {X : Cx} {a b : Expr} {ta tb : Ev Bor} {f : Op2} {pos : Pos} (ho : DIx X f) (ha : SB X a ta) (hb : SB X b tb) (hs : PlainIx b) : SR X (.Subscript a b pos) (ev2 f ta tb) :=
  pe_imp (pe_ix ho ha hb hs) fun _ _ _ h => op2_core (a := a) (b := b) h
theorem opN_core {X : Cx} {ta : Ev (List Bor)} {f : OpN} {σ : St} {H : Hp} {Q : VK} (h : tR X.K (evN f ta) σ H Q) : tCB (rVN X.K f) (tOs X.K ta) σ H Q := by
  obtain ⟨g, G, φ, s, r, s', hK, R, he, q⟩ := h
  obtain ⟨p, e1, he⟩ := bind_some_iff he
  obtain ⟨ds, e2, he⟩ := bind_some_iff he
  obtain ⟨r', e5, he⟩ := map_some_iff he
  cases he
  refine ⟨g, G, φ, s, p.1, p.2, hK, R, e1, fun G1 φ1 H1 v R1 h1 h2 x1 => ?_⟩
  refine ⟨φ1, G1, ds, r, R1.sub, hK ▸ R1.fetchAll x1 e2, e5, fun G3 H3 w gr o => ?_⟩
  exact q G3 φ1 H3 w (R1.grow gr) (h1.trans gr.gg) h2 (ORes.res R1 gr (hK ▸ o))
theorem sr_callB {X : Cx} {x : Str} {e : Expr} {es : List Expr} {ta : Ev (List Bor)} {f : OpN} {id : String} {p pos : Pos} (hc : DCall X (.builtin id) f) (hg : Gl X x) (hm : X.mg x = none) (hv : bootBuiltins x = some (.builtin id)) (ha : SBs X (e :: es) ta) (hn : x ≠ "__name__" := by decide) (hdb : (x == ("__debug__" : Str)) = false := by decide)
    (he : starEach (e :: es) X.env = (false, eval e X.env) :: starEach es X.env := by rfl) (hpl : (backTo pos (starEach es X.env)).any (·.1) = false := by rfl) : SR X (.Call (.Name x p) (e :: es) [] pos) (evN f ta) :=
  pe_imp (pe_callB hc hg hm hv ha hn hdb he hpl) fun _ _ _ h => opN_core h
theorem sr_callTy {X : Cx} {x : Str} {e : Expr} {es : List Expr} {ta : Ev (List Bor)} {f : OpN} {T : String} {p pos : Pos} (hc : DCall X (.type T) f) (hg : Gl X x) (hm : X.mg x = none) (hv : bootBuiltins x = some (.type T)) (ha : SBs X (e :: es) ta) (hn : x ≠ "__name__" := by decide) (hdb : (x == ("__debug__" : Str)) = false := by decide)
    (he : starEach (e :: es) X.env = (false, eval e X.env) :: starEach es X.env := by rfl) (hpl : (backTo pos (starEach es X.env)).any (·.1) = false := by rfl) : SR X (.Call (.Name x p) (e :: es) [] pos) (evN f ta) :=
  pe_imp (pe_callTy hc hg hm hv ha hn hdb he hpl) fun _ _ _ h => opN_core h

def evName (i : Nat) : Ev RV := fun s => match s.env[i]? with
  | some (.fro d) => some (.fro d, s)
  | some (.own d) => some (.fro d, { s with env := s.env.set i (.fro d) })
  | _ => none
/-- an own slot gets frozen -/
theorem Rel.leak {g : Gh} {G : Hp} {φ : List Addr} {s : Sg} {σ : St} {H : Hp} {i : Nat} {d : D} (R : Rel g G φ s σ H) (e : s.env[i]? = some (.own d)) :
    ∃ v G', σ[i]? = some (some v) ∧ Rel g G' φ { s with env := s.env.set i (.fro d) } σ H ∧ Same G G' ∧ Rep g.K φ G' v d := by
  obtain ⟨p, o, h1, h2, h3, h4, h5, h6, h7⟩ := R.own i d e
  have il : i < s.env.length := (List.getElem?_eq_some_iff.mp e).1
  have sm : Same G (upd G p o) := same_upd h4
  have rp : Rep g.K φ (upd G p o) (.ref p) d := h3.rep (H := upd G p o) sm upd_same
  refine ⟨.ref p, upd G p o, h1, ⟨fun a x q => ?_, R.g0.trans sm, fun a x q => ?_, R.old, R.use, fun a z => ⟨?_, (R.zed a z).2⟩, R.pre, by simpa using R.len, fun j x q => ?_, fun j x q => ?_, fun j k x y q hjk a b => ?_, R.clen, fun n a c a1 a2 => ?_, R.nd⟩, sm, rp⟩
  · by_cases ha : a = p
    · subst ha; rw [upd_same] at q; cases q; exact h2
    · rw [upd_ne ha] at q; exact R.sub a x q
  · by_cases ha : a = p
    · subst ha; exact .inr h6
    · rw [upd_ne ha] at q; exact R.new a x q
  · rw [upd_ne (by rintro rfl; exact (R.zed a z).2 h5)]
    exact (R.zed a z).1
  · by_cases hj : j = i
    · subst hj
      rw [List.getElem?_set_self il] at q
      cases q
      exact ⟨_, h1, rp⟩
    · rw [List.getElem?_set_ne (Ne.symm hj)] at q
      obtain ⟨v, a1, a2⟩ := R.fro j x q
      exact ⟨v, a1, a2.mono sm (List.prefix_refl _)⟩
  · by_cases hj : j = i
    · subst hj
      rw [List.getElem?_set_self il] at q
      cases q
    · rw [List.getElem?_set_ne (Ne.symm hj)] at q
      obtain ⟨p', o', a1, a2, a3, a4, a5, a6, a7⟩ := R.own j x q
      refine ⟨p', o', a1, a2, a3.mono sm (List.prefix_refl _), ?_, a5, a6, a7⟩
      rw [upd_ne (by rintro rfl; exact R.sep i j _ _ _ (Ne.symm hj) e q h1 a1)]
      exact a4
  · by_cases hj : j = i
    · subst hj
      rw [List.getElem?_set_self il] at a
      cases a
    · by_cases hk : k = i
      · subst hk
        rw [List.getElem?_set_self il] at b
        cases b
      · rw [List.getElem?_set_ne (Ne.symm hj)] at a
        rw [List.getElem?_set_ne (Ne.symm hk)] at b
        exact R.sep j k x y q hjk a b
  · obtain ⟨o', b1, b2, b3, b4, b5⟩ := R.cell n a c a1 a2
    refine ⟨o', b1, b2.mono sm (List.prefix_refl _), ?_, b4, b5⟩
    rw [upd_ne (by rintro rfl; exact h7 (List.mem_of_getElem? a1))]
    exact b3
theorem sr_name {X : Cx} (i : Nat) {x : Str} {pos : Pos} (hN : X.N[i]? = some x := by rfl) (hv : Vis X.env.scope x := by first | exact Or.inl rfl | exact Or.inr (Or.inl rfl) | exact Or.inr (Or.inr rfl)) (hd : (x == ("__debug__" : Str)) = false := by decide)
    (hcd : (x == ("__classdict__" : Str)) = false := by decide) : SR X (.Name x pos) (evName i) := pe_imp (pe_var hN hv hd hcd) fun σ H Q ⟨g, G, φ, s, r, s', hK, R, he, q⟩ => by
  unfold evName at he
  cases e : s.env[i]? with
  | none => rw [e] at he; cases he
  | some sl =>
    rw [e] at he
    cases sl with
    | non => cases he
    | fro d =>
      cases he
      obtain ⟨v, h1, h2⟩ := R.fro i d e
      exact ⟨v, h1, q G φ H v R (Same.refl _) (List.prefix_refl _) (.fro h2)⟩
    | own d =>
      cases he
      obtain ⟨v, G', h1, R', h2, h3⟩ := R.leak e
      exact ⟨v, h1, q G' φ H v R' h2 (List.prefix_refl _) (.fro h3)⟩
def evSlot (i : Nat) : Ev Bor := fun s => match s.env[i]? with
  | some .non => none
  | some _ => some (.slot i, s)
  | none => none
theorem sb_name {X : Cx} (i : Nat) {x : Str} {pos : Pos} (hN : X.N[i]? = some x := by rfl) (hv : Vis X.env.scope x := by first | exact Or.inl rfl | exact Or.inr (Or.inl rfl) | exact Or.inr (Or.inr rfl)) (hd : (x == ("__debug__" : Str)) = false := by decide)
    (hcd : (x == ("__classdict__" : Str)) = false := by decide) : SB X (.Name x pos) (evSlot i) := pe_imp (pe_var hN hv hd hcd) fun σ H Q ⟨g, G, φ, s, r, s', hK, R, he, q⟩ => by
  unfold evSlot at he
  have : ∃ v, σ[i]? = some (some v) ∧ r = .slot i ∧ s' = s := by
    cases e : s.env[i]? with
    | none => rw [e] at he; cases he
    | some sl =>
      rw [e] at he
      cases sl with
      | non => cases he
      | fro d =>
        cases he
        obtain ⟨v, h1, h2⟩ := R.fro i d e
        exact ⟨v, h1, rfl, rfl⟩
      | own d =>
        cases he
        obtain ⟨p, o, h1, _⟩ := R.own i d e
        exact ⟨_, h1, rfl, rfl⟩
  obtain ⟨v, h1, rfl, rfl⟩ := this
  exact ⟨v, h1, q G φ H v R (Same.refl _) (List.prefix_refl _) h1⟩
def evC (d : D) : Ev RV := fun s => some (.fro d, s)
theorem sr_c {X : Cx} {e : Expr} {v : V} {d : D} (h : PE X e (tC v)) (r : ∀ K φ G, Rep K φ G v d) : SR X e (evC d) := pe_imp h fun σ H Q ⟨g, G, φ, s, r', s', hK, R, he, q⟩ => by
  cases he
  exact q G φ H v R (Same.refl _) (List.prefix_refl _) (.fro (r _ _ _))
section
variable {X : Cx} {j : Nat} {pos : Pos}
theorem sr_int {i : Int} : SR X (.Constant (.int i) j pos) (evC (.int i)) := sr_c pe_int fun _ _ _ => .int i
theorem sr_bl {i : Bool} : SR X (.Constant (.bool i) j pos) (evC (.bl i)) := sr_c pe_bl fun _ _ _ => .bl i
theorem sr_str {i : Str} : SR X (.Constant (.str i) j pos) (evC (.str i)) := sr_c pe_str fun _ _ _ => .str i
theorem sr_non : SR X (.Constant .none j pos) (evC .non) := sr_c pe_non fun _ _ _ => .non
/-- an int of the module -/
theorem sr_gint {x : Str} {i : Int} {t : Tok} (hg : Gl X x) (hm : X.mg x = some (.int i t)) (hd : (x == ("__debug__" : Str)) = false := by decide) : SR X (.Name x pos) (evC (.int i)) := sr_c (v := .int i) (pe_glob hg hm (show RelV (.int i) _ from ⟨t, rfl⟩) hd) fun _ _ _ => .int i
theorem sr_gstr {x : Str} {i : Str} {t : Tok} (hg : Gl X x) (hm : X.mg x = some (.str i t)) (hd : (x == ("__debug__" : Str)) = false := by decide) : SR X (.Name x pos) (evC (.str i)) := sr_c (v := .str i) (pe_glob hg hm (show RelV (.str i) _ from ⟨t, rfl⟩) hd) fun _ _ _ => .str i
end
def evTup (a : Ev (List D)) : Ev RV := fun s => (a s).bind fun p => if p.1.length ≤ 1000 then some (.fro (.tup p.1), p.2) else none
def evLst (a : Ev (List D)) : Ev RV := fun s => (a s).bind fun p => if p.1.length ≤ 1000 then some (.own (.lst p.1), p.2) else none
theorem RepA.length {K : PySem.W.Frag} {φ : List Addr} {G : Hp} : ∀ {vs ds}, RepA K φ G vs ds → vs.length = ds.length
  | _, _, .nil => rfl
  | _, _, .cons _ r => congrArg Nat.succ r.length
theorem small {n : Nat} (h : n ≤ 1000) : n ≤ sizeLine := Nat.le_of_lt (small1000 h)
theorem sr_tup {X : Cx} {es : List Expr} {a : Ev (List D)} {x1} {pos : Pos} (h : SA X es a) : SR X (.Tuple es x1 pos) (evTup a) := pe_imp (pe_tup h) fun σ H Q ⟨g, G, φ, s, r, s', hK, R, he, q⟩ => by
  obtain ⟨p, e1, he⟩ := bind_some_iff he
  split at he
  · rename_i hl
    cases he
    refine ⟨g, G, φ, s, p.1, p.2, hK, R, e1, fun G1 φ1 H1 vs R1 h1 h2 ra => ⟨by rw [ra.length]; exact small hl, fun a ha => ?_⟩⟩
    have gr := Grow.laid R1.sub (o := .tup vs) ha
    exact q _ φ1 _ _ (R1.grow gr) (h1.trans gr.gg) h2 (.fro (.tup upd_same (ra.mono gr.gg (List.prefix_refl _))))
  · cases he
theorem sr_lst {X : Cx} {es : List Expr} {a : Ev (List D)} {pos : Pos} (h : SA X es a) : SR X (.List es pos) (evLst a) := pe_imp (pe_lst h) fun σ H Q ⟨g, G, φ, s, r, s', hK, R, he, q⟩ => by
  obtain ⟨p, e1, he⟩ := bind_some_iff he
  split at he
  · rename_i hl
    cases he
    refine ⟨g, G, φ, s, p.1, p.2, hK, R, e1, fun G1 φ1 H1 vs R1 h1 h2 ra => ⟨by rw [ra.length]; exact small hl, fun a ha => ?_⟩⟩
    have gr := Grow.aside R1.sub (o := .lst vs) ha
    exact q _ φ1 _ _ (R1.grow gr) h1 h2 (.own (Fresh.of_new R1 gr ha upd_same (R1.sub.free ha) (.lst ra)))
  · cases he
end Pv

namespace Pv
open PySem PySem.Spec L2

def tru : D → Option Bool
  | .non => some false
  | .bl b => some b
  | .int i => some (i != 0)
  | .lst ds => some (!ds.isEmpty)
  | .tup ds => some (!ds.isEmpty)
  | _ => none
theorem RepA.isEmpty {K : PySem.W.Frag} {φ : List Addr} {G : Hp} : ∀ {vs ds}, RepA K φ G vs ds → vs.isEmpty = ds.isEmpty
  | _, _, .nil => rfl
  | _, _, .cons _ r => rfl
theorem OpRep.rep {K : PySem.W.Frag} {φ : List Addr} {G H : Hp} {v : V} {d : D} (h : Same G H) : OpRep K φ G H v d → Rep K φ H v d
  | .fro r => r.mono h (List.prefix_refl _)
  | .own e o => o.rep h e
theorem OpRep.lst {K : PySem.W.Frag} {φ : List Addr} {G H : Hp} {v : V} {ds : List D} (h : Same G H) (r : OpRep K φ G H v (.lst ds)) : ∃ a vs, v = .ref a ∧ H a = some (.lst vs) ∧ RepA K φ G vs ds := by
  cases r with
  | fro r =>
    cases r with
    | lst s a => exact ⟨_, _, rfl, h _ _ s, a⟩
  | own e o =>
    cases o with
    | lst a => exact ⟨_, _, rfl, e, a⟩
theorem OpRep.tup {K : PySem.W.Frag} {φ : List Addr} {G H : Hp} {v : V} {ds : List D} (h : Same G H) (r : OpRep K φ G H v (.tup ds)) : ∃ a vs, v = .ref a ∧ H a = some (.tup vs) ∧ RepA K φ G vs ds := by
  cases r with
  | fro r =>
    cases r with
    | tup s a => exact ⟨_, _, rfl, h _ _ s, a⟩
  | own e o => cases o
theorem OpRep.int {K : PySem.W.Frag} {φ : List Addr} {G H : Hp} {v : V} {i : Int} (r : OpRep K φ G H v (.int i)) : v = .int i := by
  cases r with
  | fro r => cases r; rfl
  | own e o => cases o
theorem OpRep.str {K : PySem.W.Frag} {φ : List Addr} {G H : Hp} {v : V} {i : Str} (r : OpRep K φ G H v (.str i)) : v = .str i := by
  cases r with
  | fro r => cases r; rfl
  | own e o => cases o
theorem OpRep.bl {K : PySem.W.Frag} {φ : List Addr} {G H : Hp} {v : V} {i : Bool} (r : OpRep K φ G H v (.bl i)) : v = .bl i := by
  cases r with
  | fro r => cases r; rfl
  | own e o => cases o
theorem OpRep.non {K : PySem.W.Frag} {φ : List Addr} {G H : Hp} {v : V} (r : OpRep K φ G H v .non) : v = .non := by
  cases r with
  | fro r => cases r; rfl
  | own e o => cases o
theorem tru_V {K : PySem.W.Frag} {φ : List Addr} {G H : Hp} {v : V} {d : D} {b : Bool} (h : Same G H) (r : OpRep K φ G H v d) (e : tru d = some b) : TruV K v H b := by
  cases d with
  | non => cases r.non; cases e; rfl
  | bl x => cases r.bl; cases e; rfl
  | int x => cases r.int; cases e; rfl
  | lst ds =>
    cases e
    obtain ⟨a, vs, rfl, s, ra⟩ := r.lst h
    exact .inl ⟨vs, SqL.of s, by rw [ra.isEmpty]⟩
  | tup ds =>
    cases e
    obtain ⟨a, vs, rfl, s, ra⟩ := r.tup h
    exact .inr (.inl ⟨vs, SqT.of s, by rw [ra.isEmpty]⟩)
  | str x => cases e
  | dct t k => cases e
  | hd n => cases e
  | scr n => cases e
def evTru (a : Ev Bor) : Ev Bool := fun s => (a s).bind fun p => (fetch p.2 p.1).bind fun d => (tru d).map fun b => (b, p.2)
theorem st_tru {X : Cx} {e : Expr} {a : Ev Bor} (h : SB X e a) (he : ∀ whole, isTrue e X.env whole = (do let v ← whole; standAt e.pos; holding [v] (truthy v)) := by intro _; rfl) : ST X e (evTru a) :=
  pt_imp (pt_truth h he) fun σ H Q ⟨g, G, φ, s, r, s', hK, R, he, q⟩ => by
    obtain ⟨p, e1, he⟩ := bind_some_iff he
    obtain ⟨d, e2, he⟩ := bind_some_iff he
    obtain ⟨b, e3, he⟩ := map_some_iff he
    cases he
    refine ⟨g, G, φ, s, p.1, p.2, hK, R, e1, fun G1 φ1 H1 v R1 h1 h2 x => ?_⟩
    exact ⟨r, hK ▸ tru_V R1.sub (R1.fetch x e2) e3, q G1 φ1 H1 R1 h1 h2⟩
/-- a result that is a bool, as a test -/
def evB (a : Ev RV) : Ev Bool := fun s => (a s).bind fun p => match p.1 with
  | .fro (.bl b) => some (b, p.2)
  | _ => none
theorem evB_some {a : Ev RV} {s s' : Sg} {b : Bool} (h : evB a s = some (b, s')) : a s = some (.fro (.bl b), s') := by
  obtain ⟨p, e1, h⟩ := bind_some_iff h
  obtain ⟨p1, p2⟩ := p
  cases p1 with
  | own d => cases h
  | fro d =>
    cases d <;> cases h
    exact e1
theorem tTest_of {X : Cx} {a : Ev RV} {t : TE} {σ : St} {H : Hp} {Q : Bool → Hp → Prop} (imp : ∀ Q, tR X.K a σ H Q → t σ H Q) (h : tT X.K (evB a) σ H Q) : tTest t σ H Q := by
  obtain ⟨g, G, φ, s, r, s', hK, R, he, q⟩ := h
  have e1 := evB_some he
  refine imp _ ⟨g, G, φ, s, _, s', hK, R, e1, fun G1 φ1 H1 v R1 h1 h2 x => ?_⟩
  cases x with
  | fro rp => cases rp; exact ⟨r, rfl, q G1 φ1 H1 R1 h1 h2⟩
theorem st_cmp {X : Cx} {a b : Expr} {ta tb : Ev Bor} {f : Op2} {op : CmpOp} {pos : Pos} (ho : DOp X (compareOp op) f) (ha : SB X a ta) (hb : SB X b tb) (hm : behindInMarks op b = false) : ST X (.Compare a [op] [b] pos) (evB (ev2 f ta tb)) :=
  pt_imp (pt_cmpR ho ha hb hm) fun _ _ _ h => tTest_of (fun _ h => op2_core (a := a) (b := b) h) h
/-- a op b op' c -/
def evCh (f f' : Op2) (a b c : Ev Bor) : Ev RV := fun s => (a s).bind fun p => (b p.2).bind fun q => (fetch q.2 p.1).bind fun dx => (fetch q.2 q.1).bind fun dy => match f dx dy with
  | some (.fro (.bl true)) => (c q.2).bind fun r => (fetch r.2 q.1).bind fun dy' => (fetch r.2 r.1).bind fun dz => (f' dy' dz).map fun x => (x, r.2)
  | some (.fro (.bl false)) => some (.fro (.bl false), q.2)
  | _ => none
theorem chain_core {X : Cx} {a b c : Expr} {ta tb tc : Ev Bor} {f f' : Op2} {σ : St} {H : Hp} {Q : VK} (h : tR X.K (evCh f f' ta tb tc) σ H Q) : tChain (rV2 X.K f) (rV2 X.K f') (tO X.K ta) (tO X.K tb) (tO X.K tc) σ H Q := by
  obtain ⟨g, G, φ, s, r, s', hK, R, he, q⟩ := h
  obtain ⟨p, e1, he⟩ := bind_some_iff he
  obtain ⟨y, e2, he⟩ := bind_some_iff he
  obtain ⟨dx, e3, he⟩ := bind_some_iff he
  obtain ⟨dy, e4, he⟩ := bind_some_iff he
  refine ⟨g, G, φ, s, p.1, p.2, hK, R, e1, fun G1 φ1 H1 v R1 h1 h2 x1 => ?_⟩
  refine ⟨g, G1, φ1, p.2, y.1, y.2, hK, R1, e2, fun G2 φ2 H2 u R2 h3 h4 x2 => ?_⟩
  cases e5 : f dx dy with
  | none => rw [e5] at he; cases he
  | some r1 =>
    rw [e5] at he
    refine ⟨φ2, G2, dx, dy, r1, R2.sub, hK ▸ R2.fetch (x1.mono h3 h4) e3, hK ▸ R2.fetch x2 e4, e5, fun G3 H3 w gr o => ?_⟩
    cases o with
    | own => cases he
    | fro rp =>
      cases rp with
      | bl k =>
        refine ⟨k, rfl, ?_⟩
        have R3 := R2.grow gr
        cases k with
        | false =>
          rw [if_neg Bool.false_ne_true]
          cases he
          exact q G3 φ2 H3 _ R3 ((h1.trans h3).trans gr.gg) (h2.trans h4) (.fro (.bl false))
        | true =>
          rw [if_pos rfl]
          obtain ⟨z, e6, he⟩ := bind_some_iff he
          obtain ⟨dy', e7, he⟩ := bind_some_iff he
          obtain ⟨dz, e8, he⟩ := bind_some_iff he
          obtain ⟨r', e9, he⟩ := map_some_iff he
          cases he
          refine ⟨g, G3, φ2, y.2, z.1, z.2, hK, R3, e6, fun G4 φ4 H4 w R4 h5 h6 x3 => ?_⟩
          refine ⟨φ4, G4, dy', dz, r, R4.sub, hK ▸ R4.fetch ((x2.mono gr.gg (List.prefix_refl _)).mono h5 h6) e7, hK ▸ R4.fetch x3 e8, e9, fun G5 H5 w gr' o => ?_⟩
          exact q G5 φ4 H5 w (R4.grow gr') ((((h1.trans h3).trans gr.gg).trans h5).trans gr'.gg) ((h2.trans h4).trans h6) (ORes.res R4 gr' (hK ▸ o))
      | _ => cases he
theorem sr_chain {X : Cx} {a b c : Expr} {ta tb tc : Ev Bor} {f f' : Op2} {op op' : CmpOp} {pos : Pos} (ho : DOp X (compareOp op) f) (ho' : DOp X (compareOp op') f') (ha : SB X a ta) (hb : SB X b tb) (hc : SB X c tc)
    (hm : lastMarks [op, op'] [b, c] = false := by with_unfolding_all rfl) : SR X (.Compare a [op, op'] [b, c] pos) (evCh f f' ta tb tc) :=
  pe_imp (pe_chain ho ho' ha hb hc hm) fun _ _ _ h => chain_core (a := a) (b := b) (c := c) h
theorem st_chain {X : Cx} {a b c : Expr} {ta tb tc : Ev Bor} {f f' : Op2} {op op' : CmpOp} {pos : Pos} (ho : DOp X (compareOp op) f) (ho' : DOp X (compareOp op') f') (ha : SB X a ta) (hb : SB X b tb) (hc : SB X c tc)
    (hm : lastMarks [op, op'] [b, c] = false := by with_unfolding_all rfl) : ST X (.Compare a [op, op'] [b, c] pos) (evB (evCh f f' ta tb tc)) :=
  pt_imp (pt_chain ho ho' ha hb hc hm) fun _ _ _ h => tTest_of (fun _ h => chain_core (a := a) (b := b) (c := c) h) h

def evNot (a : Ev Bool) : Ev Bool := fun s => (a s).map fun p => (!p.1, p.2)
def evAnd (a b : Ev Bool) : Ev Bool := fun s => (a s).bind fun p => if p.1 then b p.2 else some (false, p.2)
def evOr (a b : Ev Bool) : Ev Bool := fun s => (a s).bind fun p => if p.1 then some (true, p.2) else b p.2
section
variable {X : Cx} {a b : Expr} {rest : List Expr} {ta tb : Ev Bool} {pos : Pos}
theorem st_not (h : ST X a ta) : ST X (.UnaryOp .Not a pos) (evNot ta) := pt_imp (pt_not h) fun σ H Q ⟨g, G, φ, s, r, s', hK, R, he, q⟩ => by
  obtain ⟨p, e1, he⟩ := map_some_iff he
  cases he
  exact ⟨g, G, φ, s, p.1, p.2, hK, R, e1, fun G1 φ1 H1 R1 h1 h2 => q G1 φ1 H1 R1 h1 h2⟩
theorem sw_and1 (h : ST X a ta) : SW X (.BoolOp .And [a] pos) ta := pw_and1 h
theorem sw_or1 (h : ST X a ta) : SW X (.BoolOp .Or [a] pos) ta := pw_or1 h
theorem sw_and (h : ST X a ta) (hb : SW X (.BoolOp .And (b :: rest) pos) tb) : SW X (.BoolOp .And (a :: b :: rest) pos) (evAnd ta tb) := pw_imp (pw_and h hb) fun σ H Q ⟨g, G, φ, s, r, s', hK, R, he, q⟩ => by
  obtain ⟨⟨p1, p2⟩, e1, he⟩ := bind_some_iff he
  refine ⟨g, G, φ, s, p1, p2, hK, R, e1, fun G1 φ1 H1 R1 h1 h2 => ?_⟩
  cases p1 with
  | false => cases he; rw [if_neg Bool.false_ne_true]; exact q G1 φ1 H1 R1 h1 h2
  | true =>
    rw [if_pos rfl]
    exact ⟨g, G1, φ1, p2, r, s', hK, R1, he, fun G2 φ2 H2 R2 h3 h4 => q G2 φ2 H2 R2 (h1.trans h3) (h2.trans h4)⟩
theorem sw_or (h : ST X a ta) (hb : SW X (.BoolOp .Or (b :: rest) pos) tb) : SW X (.BoolOp .Or (a :: b :: rest) pos) (evOr ta tb) := pw_imp (pw_or h hb) fun σ H Q ⟨g, G, φ, s, r, s', hK, R, he, q⟩ => by
  obtain ⟨⟨p1, p2⟩, e1, he⟩ := bind_some_iff he
  refine ⟨g, G, φ, s, p1, p2, hK, R, e1, fun G1 φ1 H1 R1 h1 h2 => ?_⟩
  cases p1 with
  | true => cases he; rw [if_pos rfl]; exact q G1 φ1 H1 R1 h1 h2
  | false =>
    rw [if_neg Bool.false_ne_true]
    exact ⟨g, G1, φ1, p2, r, s', hK, R1, he, fun G2 φ2 H2 R2 h3 h4 => q G2 φ2 H2 R2 (h1.trans h3) (h2.trans h4)⟩
theorem sw_st {e : Expr} (h : SW X e ta) : ST X e ta := PW.pt h
/-- .. as values: all but the last give bools -/
def evVand (a b : Ev RV) : Ev RV := fun s => (a s).bind fun p => match p.1 with
  | .fro (.bl true) => b p.2
  | .fro (.bl false) => some (.fro (.bl false), p.2)
  | _ => none
def evVor (a b : Ev RV) : Ev RV := fun s => (a s).bind fun p => match p.1 with
  | .fro (.bl false) => b p.2
  | .fro (.bl true) => some (.fro (.bl true), p.2)
  | _ => none
variable {va vb : Ev RV}
theorem sr_one {op} (h : SR X a va) : SR X (.BoolOp op [a] pos) va := pe_one h
theorem sr_and (h : SR X a va) (hb : SR X (.BoolOp .And (b :: rest) pos) vb) : SR X (.BoolOp .And (a :: b :: rest) pos) (evVand va vb) := pe_imp (pe_and h hb) fun σ H Q ⟨g, G, φ, s, r, s', hK, R, he, q⟩ => by
  obtain ⟨⟨p1, p2⟩, e1, he⟩ := bind_some_iff he
  refine ⟨g, G, φ, s, p1, p2, hK, R, e1, fun G1 φ1 H1 v R1 h1 h2 x => ?_⟩
  cases x with
  | own => cases he
  | fro rp =>
    cases rp with
    | bl k =>
      refine ⟨k, rfl, ?_⟩
      cases k with
      | false => cases he; rw [if_neg Bool.false_ne_true]; exact q G1 φ1 H1 _ R1 h1 h2 (.fro (.bl false))
      | true =>
        rw [if_pos rfl]
        exact ⟨g, G1, φ1, p2, r, s', hK, R1, he, fun G2 φ2 H2 w R2 h3 h4 => q G2 φ2 H2 w R2 (h1.trans h3) (h2.trans h4)⟩
    | _ => cases he
theorem sr_or (h : SR X a va) (hb : SR X (.BoolOp .Or (b :: rest) pos) vb) : SR X (.BoolOp .Or (a :: b :: rest) pos) (evVor va vb) := pe_imp (pe_or h hb) fun σ H Q ⟨g, G, φ, s, r, s', hK, R, he, q⟩ => by
  obtain ⟨⟨p1, p2⟩, e1, he⟩ := bind_some_iff he
  refine ⟨g, G, φ, s, p1, p2, hK, R, e1, fun G1 φ1 H1 v R1 h1 h2 x => ?_⟩
  cases x with
  | own => cases he
  | fro rp =>
    cases rp with
    | bl k =>
      refine ⟨k, rfl, ?_⟩
      cases k with
      | true => cases he; rw [if_pos rfl]; exact q G1 φ1 H1 _ R1 h1 h2 (.fro (.bl true))
      | false =>
        rw [if_neg Bool.false_ne_true]
        exact ⟨g, G1, φ1, p2, r, s', hK, R1, he, fun G2 φ2 H2 w R2 h3 h4 => q G2 φ2 H2 w R2 (h1.trans h3) (h2.trans h4)⟩
    | _ => cases he
def evVnot (a : Ev RV) : Ev RV := fun s => (a s).bind fun p => match p.1 with
  | .fro (.bl b) => some (.fro (.bl (!b)), p.2)
  | _ => none
theorem sr_not (h : SR X a va) : SR X (.UnaryOp .Not a pos) (evVnot va) := pe_imp (pe_not h) fun σ H Q ⟨g, G, φ, s, r, s', hK, R, he, q⟩ => by
  obtain ⟨⟨p1, p2⟩, e1, he⟩ := bind_some_iff he
  refine ⟨g, G, φ, s, p1, p2, hK, R, e1, fun G1 φ1 H1 v R1 h1 h2 x => ?_⟩
  cases x with
  | own => cases he
  | fro rp =>
    cases rp with
    | bl k => cases he; exact ⟨k, rfl, q G1 φ1 H1 _ R1 h1 h2 (.fro (.bl _))⟩
    | _ => cases he
def evIte (c : Ev Bool) (a b : Ev RV) : Ev RV := fun s => (c s).bind fun p => if p.1 then a p.2 else b p.2
theorem sr_ite {c : Expr} (hc : ST X c ta) (ha : SR X a va) (hb : SR X b vb) : SR X (.IfExp c a b pos) (evIte ta va vb) := pe_imp (pe_ifExp hc ha hb) fun σ H Q ⟨g, G, φ, s, r, s', hK, R, he, q⟩ => by
  obtain ⟨⟨p1, p2⟩, e1, he⟩ := bind_some_iff he
  refine ⟨g, G, φ, s, p1, p2, hK, R, e1, fun G1 φ1 H1 R1 h1 h2 => ?_⟩
  cases p1 with
  | true => rw [if_pos rfl]; exact ⟨g, G1, φ1, p2, r, s', hK, R1, he, fun G2 φ2 H2 w R2 h3 h4 => q G2 φ2 H2 w R2 (h1.trans h3) (h2.trans h4)⟩
  | false => rw [if_neg Bool.false_ne_true]; exact ⟨g, G1, φ1, p2, r, s', hK, R1, he, fun G2 φ2 H2 w R2 h3 h4 => q G2 φ2 H2 w R2 (h1.trans h3) (h2.trans h4)⟩
end

inductive Out where
  | nx | bk | ct | rt (r : RV)
def EndS (g : Gh) (G : Hp) (φ : List Addr) (E : Ends) (s' : Sg) : Out → Prop
  | .nx => ∀ G' φ' σ' H', Rel g G' φ' s' σ' H' → Same G G' → φ <+: φ' → E.nx σ' H'
  | .bk => ∀ G' φ' σ' H', Rel g G' φ' s' σ' H' → Same G G' → φ <+: φ' → E.bk σ' H'
  | .ct => ∀ G' φ' σ' H', Rel g G' φ' s' σ' H' → Same G G' → φ <+: φ' → E.ct σ' H'
  | .rt r => ∀ G' φ' σ' H' v, Rel g G' φ' s' σ' H' → Same G G' → φ <+: φ' → Res g G' φ' s' σ' H' v r → E.rt v H'
theorem EndS.pre {g : Gh} {G G1 : Hp} {φ φ1 : List Addr} {E : Ends} {s' : Sg} {o : Out} (h : EndS g G φ E s' o) (h1 : Same G G1) (h2 : φ <+: φ1) : EndS g G1 φ1 E s' o := by
  cases o with
  | nx => exact fun G' φ' σ' H' R a b => h G' φ' σ' H' R (h1.trans a) (h2.trans b)
  | bk => exact fun G' φ' σ' H' R a b => h G' φ' σ' H' R (h1.trans a) (h2.trans b)
  | ct => exact fun G' φ' σ' H' R a b => h G' φ' σ' H' R (h1.trans a) (h2.trans b)
  | rt r => exact fun G' φ' σ' H' v R a b => h G' φ' σ' H' v R (h1.trans a) (h2.trans b)
def tS (K : PySem.W.Frag) (ev : Ev Out) : TS := fun E σ H => ∃ g G φ s o s', g.K = K ∧ Rel g G φ s σ H ∧ ev s = some (o, s') ∧ EndS g G φ E s' o
def SS (X : Cx) (st : Stmt) (ev : Ev Out) : Prop := PS X st (tS X.K ev)
def SSs (X : Cx) (st : List Stmt) (ev : Ev Out) : Prop := PSs X st (tS X.K ev)
def evPass : Ev Out := fun s => some (.nx, s)
def evBreak : Ev Out := fun s => some (.bk, s)
def evCont : Ev Out := fun s => some (.ct, s)
def evSeq (a b : Ev Out) : Ev Out := fun s => (a s).bind fun p => match p.1 with
  | .nx => b p.2
  | o => some (o, p.2)
section
variable {X : Cx} {st : Stmt} {rest : List Stmt} {a b : Ev Out} {pos : Pos} {e : Expr}
theorem ss_nil : SSs X [] evPass := pss_imp pss_nil fun E σ H ⟨g, G, φ, s, o, s', hK, R, he, q⟩ => by
  cases he
  exact q G φ σ H R (Same.refl _) (List.prefix_refl _)
theorem ss_cons (h1 : SS X st a) (h2 : SSs X rest b) : SSs X (st :: rest) (evSeq a b) := pss_imp (pss_cons h1 h2) fun E σ H ⟨g, G, φ, s, o, s', hK, R, he, q⟩ => by
  obtain ⟨⟨p1, p2⟩, e1, he⟩ := bind_some_iff he
  cases p1 with
  | nx => exact ⟨g, G, φ, s, .nx, p2, hK, R, e1, fun G' φ' σ' H' R' h1 h2 => ⟨g, G', φ', p2, o, s', hK, R', he, q.pre h1 h2⟩⟩
  | bk => cases he; exact ⟨g, G, φ, s, .bk, _, hK, R, e1, q⟩
  | ct => cases he; exact ⟨g, G, φ, s, .ct, _, hK, R, e1, q⟩
  | rt r => cases he; exact ⟨g, G, φ, s, .rt r, _, hK, R, e1, q⟩
theorem ss_one (h1 : SS X st a) : SSs X [st] a := pss_one h1
theorem ss_pass : SS X (.Pass pos) evPass := ps_imp ps_pass fun E σ H ⟨g, G, φ, s, o, s', hK, R, he, q⟩ => by
  cases he
  exact q G φ σ H R (Same.refl _) (List.prefix_refl _)
theorem ss_break : SS X (.Break pos) evBreak := ps_imp ps_break fun E σ H ⟨g, G, φ, s, o, s', hK, R, he, q⟩ => by
  cases he
  exact q G φ σ H R (Same.refl _) (List.prefix_refl _)
theorem ss_cont : SS X (.Continue pos) evCont := ps_imp ps_continue fun E σ H ⟨g, G, φ, s, o, s', hK, R, he, q⟩ => by
  cases he
  exact q G φ σ H R (Same.refl _) (List.prefix_refl _)
def evDrop (a : Ev RV) : Ev Out := fun s => (a s).map fun p => (.nx, p.2)
theorem ss_expr {va : Ev RV} (h : SR X e va) (hs : swapsWith e none pos.line X.env = pure false := by rfl) : SS X (.Expr e pos) (evDrop va) := ps_imp (ps_expr h hs) fun E σ H ⟨g, G, φ, s, o, s', hK, R, he, q⟩ => by
  obtain ⟨⟨p1, p2⟩, e1, he⟩ := map_some_iff he
  cases he
  exact ⟨g, G, φ, s, p1, _, hK, R, e1, fun G' φ' H' v R' h1 h2 _ => q G' φ' σ H' R' h1 h2⟩
def evRet (a : Ev RV) : Ev Out := fun s => (a s).map fun p => (.rt p.1, p.2)
theorem ss_ret {va : Ev RV} (h : SR X e va) : SS X (.Return (some e) pos) (evRet va) := ps_imp (ps_ret h) fun E σ H ⟨g, G, φ, s, o, s', hK, R, he, q⟩ => by
  obtain ⟨⟨p1, p2⟩, e1, he⟩ := map_some_iff he
  cases he
  exact ⟨g, G, φ, s, p1, _, hK, R, e1, fun G' φ' H' v R' h1 h2 x => q G' φ' σ H' v R' h1 h2 x⟩
/-- return name: an own list is handed out -/
def evRetOwn (i : Nat) : Ev Out := fun s => match s.env[i]? with
  | some (.own d) => some (.rt (.own d), { s with env := s.env.set i .non })
  | some (.fro d) => some (.rt (.fro d), s)
  | _ => none
theorem Rel.forget {g : Gh} {G : Hp} {φ : List Addr} {s : Sg} {σ : St} {H : Hp} (R : Rel g G φ s σ H) (i : Nat) : Rel g G φ { s with env := s.env.set i .non } σ H := by
  have ne : ∀ {j : Nat} {x : Slot}, x ≠ .non → (s.env.set i .non)[j]? = some x → s.env[j]? = some x := fun {j x} hx q => by
    by_cases hj : j = i
    · subst hj
      by_cases hl : j < s.env.length
      · rw [List.getElem?_set_self hl] at q; cases q; exact absurd rfl hx
      · rw [List.getElem?_eq_none (by simpa using hl)] at q; cases q
    · rw [List.getElem?_set_ne (Ne.symm hj)] at q; exact q
  exact ⟨R.sub, R.g0, R.new, R.old, R.use, R.zed, R.pre, by simpa using R.len, fun j d q => R.fro j d (ne (by simp) q), fun j d q => R.own j d (ne (by simp) q),
    fun j k d e p hjk q1 q2 => R.sep j k d e p hjk (ne (by simp) q1) (ne (by simp) q2), R.clen, R.cell, R.nd⟩
theorem ss_retOwn (i : Nat) {x : Str} {p : Pos} (hN : X.N[i]? = some x := by rfl) (hv : Vis X.env.scope x := by first | exact Or.inl rfl | exact Or.inr (Or.inl rfl) | exact Or.inr (Or.inr rfl)) (hd : (x == ("__debug__" : Str)) = false := by decide)
    (hcd : (x == ("__classdict__" : Str)) = false := by decide) : SS X (.Return (some (.Name x p)) pos) (evRetOwn i) := ps_imp (ps_ret (pe_var hN hv hd hcd)) fun E σ H ⟨g, G, φ, s, o, s', hK, R, he, q⟩ => by
  unfold evRetOwn at he
  cases e : s.env[i]? with
  | none => rw [e] at he; cases he
  | some sl =>
    rw [e] at he
    cases sl with
    | non => cases he
    | fro d =>
      cases he
      obtain ⟨v, h1, h2⟩ := R.fro i d e
      exact ⟨v, h1, q G φ σ H v R (Same.refl _) (List.prefix_refl _) (.fro h2)⟩
    | own d =>
      cases he
      obtain ⟨p, o, h1, h2, h3, h4, h5, h6, h7⟩ := R.own i d e
      refine ⟨_, h1, q G φ σ H _ (R.forget i) (Same.refl _) (List.prefix_refl _) (.own ⟨h2, h3, h4, h5, h6, h7, fun j f hj hs => ?_⟩)⟩
      by_cases hji : j = i
      · subst hji
        have il : j < s.env.length := (List.getElem?_eq_some_iff.mp e).1
        rw [List.getElem?_set_self il] at hj
        cases hj
      · rw [List.getElem?_set_ne (Ne.symm hji)] at hj
        exact R.sep i j _ _ _ (Ne.symm hji) e hj h1 hs
def evRetN : Ev Out := fun s => some (.rt (.fro .non), s)
theorem ss_retN : SS X (.Return none pos) evRetN := ps_imp ps_retN fun E σ H ⟨g, G, φ, s, o, s', hK, R, he, q⟩ => by
  cases he
  exact q G φ σ H _ R (Same.refl _) (List.prefix_refl _) (.fro .non)
def evIf (c : Ev Bool) (a b : Ev Out) : Ev Out := fun s => (c s).bind fun p => if p.1 then a p.2 else b p.2
theorem ss_if {c : Expr} {sa sb : List Stmt} {tc : Ev Bool} (hc : ST X c tc) (ha : SSs X sa a) (hb : SSs X sb b) : SS X (.If c sa sb pos) (evIf tc a b) := ps_imp (ps_if hc ha hb) fun E σ H ⟨g, G, φ, s, o, s', hK, R, he, q⟩ => by
  obtain ⟨⟨p1, p2⟩, e1, he⟩ := bind_some_iff he
  refine ⟨g, G, φ, s, p1, p2, hK, R, e1, fun G1 φ1 H1 R1 h1 h2 => ?_⟩
  cases p1 with
  | true => rw [if_pos rfl]; exact ⟨g, G1, φ1, p2, o, s', hK, R1, he, q.pre h1 h2⟩
  | false => rw [if_neg Bool.false_ne_true]; exact ⟨g, G1, φ1, p2, o, s', hK, R1, he, q.pre h1 h2⟩
end
def RV.slot : RV → Slot
  | .fro d => .fro d
  | .own d => .own d
theorem Rel.store {g : Gh} {G : Hp} {φ : List Addr} {s : Sg} {σ : St} {H : Hp} {v : V} {r : RV} (i : Nat) (R : Rel g G φ s σ H) (x : Res g G φ s σ H v r) : Rel g G φ { s with env := s.env.set i r.slot } (σ.set i (some v)) H := by
  have ge : ∀ {j : Nat} {e : Slot}, (s.env.set i r.slot)[j]? = some e → (j = i ∧ e = r.slot ∧ (σ.set i (some v))[j]? = some (some v)) ∨ (j ≠ i ∧ s.env[j]? = some e ∧ (σ.set i (some v))[j]? = σ[j]?) := fun {j e} q => by
    by_cases hj : j = i
    · subst hj
      by_cases hl : j < s.env.length
      · rw [List.getElem?_set_self hl] at q
        cases q
        exact .inl ⟨rfl, rfl, List.getElem?_set_self (R.len ▸ hl)⟩
      · rw [List.getElem?_eq_none (by simpa using hl)] at q; cases q
    · rw [List.getElem?_set_ne (Ne.symm hj)] at q
      exact .inr ⟨hj, q, List.getElem?_set_ne (Ne.symm hj)⟩
  refine ⟨R.sub, R.g0, R.new, R.old, R.use, R.zed, R.pre, by simpa using R.len, fun j d q => ?_, fun j d q => ?_, fun j k d e p hjk q1 q2 q3 => ?_, R.clen, R.cell, R.nd⟩
  · rcases ge q with ⟨_, h2, h3⟩ | ⟨_, h2, h3⟩
    · cases x with
      | own F => cases h2
      | fro rp => cases h2; exact ⟨v, h3, rp⟩
    · obtain ⟨w, h4, h5⟩ := R.fro j d h2
      exact ⟨w, h3.trans h4, h5⟩
  · rcases ge q with ⟨_, h2, h3⟩ | ⟨_, h2, h3⟩
    · cases x with
      | fro rp => cases h2
      | own F => cases h2; exact ⟨_, _, h3, F.at_, F.own, F.gp, F.fp, F.up, F.ph⟩
    · obtain ⟨p, o, h4, h5⟩ := R.own j d h2
      exact ⟨p, o, h3.trans h4, h5⟩
  · rcases ge q1 with ⟨a1, a2, a3⟩ | ⟨a1, a2, a3⟩
    · rcases ge q2 with ⟨b1, b2, b3⟩ | ⟨b1, b2, b3⟩
      · exact absurd (a1.trans b1.symm) hjk
      · cases x with
        | fro rp => cases a2
        | own F =>
          rw [a3] at q3
          cases q3
          rw [b3]
          exact F.sl k e b2
    · rcases ge q2 with ⟨b1, b2, b3⟩ | ⟨b1, b2, b3⟩
      · cases x with
        | fro rp => cases b2
        | own F =>
          rw [b3]
          intro e'
          cases e'
          rw [a3] at q3
          exact F.sl j d a2 q3
      · rw [a3] at q3
        rw [b3]
        exact R.sep j k d e p hjk a2 b2 q3
def evSet (i : Nat) (a : Ev RV) : Ev Out := fun s => (a s).map fun p => (.nx, { p.2 with env := p.2.env.set i p.1.slot })
theorem asg_core {K : PySem.W.Frag} {i : Nat} {va : Ev RV} {E : Ends} {σ : St} {H : Hp} (h : tS K (evSet i va) E σ H) : tAsg (tR K va) (gName i) E σ H := by
  obtain ⟨g, G, φ, s, o, s', hK, R, he, q⟩ := h
  obtain ⟨⟨p1, p2⟩, e1, he⟩ := map_some_iff he
  cases he
  exact ⟨g, G, φ, s, p1, p2, hK, R, e1, fun G' φ' H' v R' h1 h2 x => q G' φ' _ H' (R'.store i x) h1 h2⟩
theorem ss_set {X : Cx} {i : Nat} {x : Str} {e : Expr} {va : Ev RV} {pos pos' : Pos} (hN : X.N.Nodup) (h : SR X e va) (hi : X.N[i]? = some x := by rfl) (hx : Loc X.env.scope x := by first | exact Or.inl rfl | exact Or.inr rfl) (hs : swapsWith e (some (.Name x pos')) pos.line X.env = pure false := by rfl)
    (hf : X.fn x = true ∨ X.env.scope.names.lookup x = some .local := by first | exact .inl rfl | exact .inr rfl) : SS X (.Assign [.Name x pos'] e pos) (evSet i va) :=
  ps_imp (ps_set hN hi hx h hs hf) fun _ _ _ h => asg_core h
end Pv

namespace Pv
open PySem PySem.Spec L2

def over (W F : Hp) : Hp := fun a => match W a with
  | some o => some o
  | none => F a
def Gh.hid (g : Gh) (W : Hp) : Gh := { g with F := over W g.F, Z := fun a => W a ≠ none ∨ g.Z a }
theorem over_none {W F : Hp} {a : Addr} (h : over W F a = none) : W a = none ∧ F a = none := by
  unfold over at h
  cases e : W a with
  | none => rw [e] at h; exact ⟨rfl, h⟩
  | some o => rw [e] at h; cases h
theorem over_none' {W F : Hp} {a : Addr} (h1 : W a = none) (h2 : F a = none) : over W F a = none := by
  unfold over
  rw [h1]; exact h2
theorem over_some {W F : Hp} {a : Addr} {o : HO} (h : over W F a = some o) : W a = some o ∨ (W a = none ∧ F a = some o) := by
  unfold over at h
  cases e : W a with
  | none => rw [e] at h; exact .inr ⟨rfl, h⟩
  | some x => rw [e] at h; exact .inl h
section
variable {g : Gh} {G G' : Hp} {φ φ' : List Addr} {s s' : Sg} {σ σ' : St} {H H' : Hp} {W : Hp}
theorem Rel.hide (R : Rel g G φ s σ H) (h1 : Same W H) (h2 : ∀ a o, W a = some o → G a = none ∧ a ∉ φ) (h3 : ∀ (i : Nat) d a, s.env[i]? = some (Slot.own d) → σ[i]? = some (some (V.ref a)) → W a = none) : Rel (g.hid W) G φ s σ H := by
  refine ⟨R.sub, R.g0, R.new, fun a o e => ?_, R.use, fun a z => ⟨?_, fun q => ?_⟩, R.pre, R.len, R.fro, fun i d e => ?_, R.sep, R.clen, fun n a c e1 e2 => ?_, R.nd⟩
  · rcases over_some e with e | ⟨_, e⟩
    · exact h1 a o e
    · exact R.old a o e
  · rcases (show W a ≠ none ∨ g.Z a from z) with z | z
    · cases q : W a with
      | none => exact absurd q z
      | some o => exact (h2 a o q).1
    · exact (R.zed a z).1
  · obtain ⟨q1, q2⟩ := over_none (show over W g.F a = none from q)
    rcases (show W a ≠ none ∨ g.Z a from z) with z | z
    · exact z q1
    · exact (R.zed a z).2 q2
  · obtain ⟨p, o, e1, e2, e3, e4, e5, e6, e7⟩ := R.own i d e
    exact ⟨p, o, e1, e2, e3, e4, over_none' (h3 i d p e e1) e5, e6, e7⟩
  · obtain ⟨o, b1, b2, b3, b4, b5⟩ := R.cell n a c e1 e2
    refine ⟨o, b1, b2, b3, over_none' ?_ b4, b5⟩
    cases q : W a with
    | none => rfl
    | some x => exact absurd (List.mem_of_getElem? e1) (h2 a x q).2
theorem Rel.unhide (hz : ∀ a, g.Z a → g.F a ≠ none) (R : Rel (g.hid W) G φ s σ H) (hw : ∀ a o, W a = some o → g.F a = none) : Rel g G φ s σ H := by
  refine ⟨R.sub, R.g0, R.new, fun a o e => ?_, R.use, fun a z => ⟨(R.zed a (Or.inr z)).1, hz a z⟩, R.pre, R.len, R.fro, fun i d e => ?_, R.sep, R.clen, fun n a c e1 e2 => ?_, R.nd⟩
  · refine R.old a o ?_
    show over W g.F a = some o
    unfold over
    cases q : W a with
    | none => exact e
    | some x => rw [hw a x q] at e; cases e
  · obtain ⟨p, o, e1, e2, e3, e4, e5, e6, e7⟩ := R.own i d e
    exact ⟨p, o, e1, e2, e3, e4, (over_none e5).2, e6, e7⟩
  · obtain ⟨o, b1, b2, b3, b4, b5⟩ := R.cell n a c e1 e2
    exact ⟨o, b1, b2, b3, (over_none b4).2, b5⟩
def one (p : Addr) (o : HO) : Hp := upd (fun _ => none) p o
theorem one_some {p a : Addr} {o x : HO} (h : one p o a = some x) : a = p ∧ x = o := by
  by_cases e : a = p
  · subst e
    unfold one at h
    rw [upd_same] at h
    cases h
    exact ⟨rfl, rfl⟩
  · unfold one at h
    rw [upd_ne e] at h
    cases h
/-- a pending own thing is hidden, and comes back -/
theorem Rel.pend {p : Addr} {o : HO} {d : D} (R : Rel g G φ s σ H) (F : Fresh g G φ s σ H p o d) : Rel (g.hid (one p o)) G φ s σ H := by
  refine R.hide (fun a x e => ?_) (fun a x e => ?_) fun i e a h1 h2 => ?_
  · obtain ⟨rfl, rfl⟩ := one_some e; exact F.at_
  · obtain ⟨rfl, rfl⟩ := one_some e; exact ⟨F.gp, F.ph⟩
  · unfold one
    rw [upd_ne (by rintro rfl; exact F.sl i e h1 h2)]
theorem Rel.back {p : Addr} {o : HO} {d : D} (R : Rel g G φ s σ H) (F : Fresh g G φ s σ H p o d) (R' : Rel (g.hid (one p o)) G' φ' s' σ' H') (h1 : Same G G') (h2 : φ <+: φ') : Rel g G' φ' s' σ' H' ∧ Fresh g G' φ' s' σ' H' p o d := by
  have fw : over (one p o) g.F p = some o := by unfold over one; rw [upd_same]
  refine ⟨R'.unhide (fun a z => (R.zed a z).2) fun a x e => ?_, ⟨R'.old p o fw, F.own.mono h1 h2, (R'.zed p (Or.inl ?_)).1, F.fp, F.up, fun hm => ?_, fun i e q1 q2 => ?_⟩⟩
  · obtain ⟨rfl, rfl⟩ := one_some e; exact F.fp
  · unfold one; rw [upd_same]; simp
  · obtain ⟨n, hn⟩ := List.getElem?_of_mem hm
    have hl : n < s'.st.length := by rw [R'.clen]; exact (List.getElem?_eq_some_iff.mp hn).1
    obtain ⟨o', _, _, _, e, _⟩ := R'.cell n p _ hn (List.getElem?_eq_getElem hl)
    rw [show (g.hid (one p o)).F p = some o from fw] at e
    cases e
  · obtain ⟨p', o', e1, _, _, _, e5, _⟩ := R'.own i e q1
    rw [q2] at e1
    cases e1
    rw [show (g.hid (one p o)).F p = some o from fw] at e5
    cases e5
/-- a pending own thing is changed -/
theorem Rel.setPend {p : Addr} {o o' : HO} {d d' : D} (R : Rel g G φ s σ H) (F : Fresh g G φ s σ H p o d) (w : Own g.K φ G o' d') : Rel g G φ s σ (upd H p o') ∧ Fresh g G φ s σ (upd H p o') p o' d' := by
  refine ⟨⟨fun a x e => ?_, R.g0, R.new, fun a x e => ?_, fun a u => ?_, R.zed, R.pre, R.len, R.fro, fun i x e => ?_, R.sep, R.clen, fun n a c e1 e2 => ?_, R.nd⟩, ⟨upd_same, w, F.gp, F.fp, F.up, F.ph, F.sl⟩⟩
  · rw [upd_ne (by rintro rfl; rw [F.gp] at e; cases e)]; exact R.sub a x e
  · rw [upd_ne (by rintro rfl; rw [F.fp] at e; cases e)]; exact R.old a x e
  · rw [upd_ne (by rintro rfl; exact F.up u)]; exact R.use a u
  · obtain ⟨q, y, e1, e2, e3⟩ := R.own i x e
    refine ⟨q, y, e1, ?_, e3⟩
    rw [upd_ne (by rintro rfl; exact F.sl i x e e1)]; exact e2
  · obtain ⟨y, b1, b2⟩ := R.cell n a c e1 e2
    refine ⟨y, ?_, b2⟩
    rw [upd_ne (by rintro rfl; exact F.ph (List.mem_of_getElem? e1))]; exact b1
/-- an own slot's thing is changed -/
theorem Rel.setOwn {i : Nat} {p : Addr} {o' : HO} {d d' : D} (R : Rel g G φ s σ H) (e : s.env[i]? = some (.own d)) (hp : σ[i]? = some (some (.ref p))) (w : Own g.K φ G o' d') : Rel g G φ { s with env := s.env.set i (.own d') } σ (upd H p o') := by
  obtain ⟨p', o, e1, e2, e3, e4, e5, e6, e7⟩ := R.own i d e
  rw [hp] at e1
  cases e1
  have il : i < s.env.length := (List.getElem?_eq_some_iff.mp e).1
  refine ⟨fun a x q => ?_, R.g0, R.new, fun a x q => ?_, fun a u => ?_, R.zed, R.pre, by simpa using R.len, fun j x q => ?_, fun j x q => ?_, fun j k x y q hjk q1 q2 q3 => ?_, R.clen, fun n a c q1 q2 => ?_, R.nd⟩
  · rw [upd_ne (by rintro rfl; rw [e4] at q; cases q)]; exact R.sub a x q
  · rw [upd_ne (by rintro rfl; rw [e5] at q; cases q)]; exact R.old a x q
  · rw [upd_ne (by rintro rfl; exact e6 u)]; exact R.use a u
  · by_cases hj : j = i
    · subst hj; rw [List.getElem?_set_self il] at q; cases q
    · rw [List.getElem?_set_ne (Ne.symm hj)] at q; exact R.fro j x q
  · by_cases hj : j = i
    · subst hj; rw [List.getElem?_set_self il] at q; cases q
      exact ⟨p, o', hp, upd_same, w, e4, e5, e6, e7⟩
    · rw [List.getElem?_set_ne (Ne.symm hj)] at q
      obtain ⟨p2, o2, a1, a2, a3⟩ := R.own j x q
      refine ⟨p2, o2, a1, ?_, a3⟩
      rw [upd_ne (by rintro rfl; exact R.sep i j _ _ _ (Ne.symm hj) e q hp a1)]; exact a2
  · have own_of : ∀ {j : Nat} {x : D}, (s.env.set i (.own d'))[j]? = some (.own x) → ∃ y, s.env[j]? = some (.own y) := fun {j x} q => by
      by_cases hj : j = i
      · subst hj; exact ⟨d, e⟩
      · rw [List.getElem?_set_ne (Ne.symm hj)] at q; exact ⟨x, q⟩
    obtain ⟨x', q1'⟩ := own_of q1
    obtain ⟨y', q2'⟩ := own_of q2
    exact R.sep j k x' y' q hjk q1' q2' q3
  · obtain ⟨y, b1, b2⟩ := R.cell n a c q1 q2
    refine ⟨y, ?_, b2⟩
    rw [upd_ne (by rintro rfl; exact e7 (List.mem_of_getElem? q1))]; exact b1
/-- a cell's thing is changed -/
theorem Rel.setCell {n : Nat} {a : Addr} {o' : HO} {c c' : Cell} (R : Rel g G φ s σ H) (ha : φ[n]? = some a) (hc : s.st[n]? = some c) (w : CellAt g.K φ G o' c') : Rel g G φ { s with st := s.st.set n c' } σ (upd H a o') := by
  obtain ⟨o, e1, e2, e3, e4, e5⟩ := R.cell n a c ha hc
  have nl : n < s.st.length := (List.getElem?_eq_some_iff.mp hc).1
  have am : a ∈ φ := List.mem_of_getElem? ha
  refine ⟨fun b x q => ?_, R.g0, R.new, fun b x q => ?_, fun b u => ?_, R.zed, R.pre, R.len, R.fro, fun j x q => ?_, R.sep, by simpa using R.clen, fun m b x q1 q2 => ?_, R.nd⟩
  · rw [upd_ne (by rintro rfl; rw [e3] at q; cases q)]; exact R.sub b x q
  · rw [upd_ne (by rintro rfl; rw [e4] at q; cases q)]; exact R.old b x q
  · by_cases hb : b = a
    · subst hb; rw [upd_same]; simp
    · rw [upd_ne hb]; exact R.use b u
  · obtain ⟨p, y, a1, a2, a3, a4, a5, a6, a7⟩ := R.own j x q
    refine ⟨p, y, a1, ?_, a3, a4, a5, a6, a7⟩
    rw [upd_ne (by rintro rfl; exact a7 am)]; exact a2
  · by_cases hm : m = n
    · subst hm
      rw [ha] at q1
      cases q1
      rw [List.getElem?_set_self nl] at q2
      cases q2
      exact ⟨o', upd_same, w, e3, e4, e5⟩
    · rw [List.getElem?_set_ne (Ne.symm hm)] at q2
      obtain ⟨y, b1, b2⟩ := R.cell m b x q1 q2
      refine ⟨y, ?_, b2⟩
      rw [upd_ne (by
        rintro rfl
        obtain ⟨l1, f1⟩ := List.getElem?_eq_some_iff.mp ha
        obtain ⟨l2, f2⟩ := List.getElem?_eq_some_iff.mp q1
        exact hm ((List.getElem_inj R.nd).mp (f2.trans f1.symm)))]
      exact b1
end

theorem wipe_get {σ : St} {j : Nat} : ∀ {vs : List Nat}, (wipe σ vs)[j]? = if j ∈ vs ∧ j < σ.length then some none else σ[j]?
  | [] => by simp [wipe]
  | v :: vs => by
    unfold wipe
    by_cases h : j = v
    · subst h
      by_cases hl : j < σ.length
      · rw [List.getElem?_set_self (by rw [wipe_length]; exact hl), if_pos ⟨List.mem_cons_self, hl⟩]
      · rw [List.getElem?_eq_none (by rw [List.length_set, wipe_length]; omega), if_neg (fun q => hl q.2), List.getElem?_eq_none (by omega)]
    · rw [List.getElem?_set_ne (Ne.symm h), wipe_get]
      by_cases hm : j ∈ vs ∧ j < σ.length
      · rw [if_pos hm, if_pos ⟨List.mem_cons_of_mem _ hm.1, hm.2⟩]
      · rw [if_neg hm, if_neg]
        rintro ⟨q1, q2⟩
        rcases List.mem_cons.mp q1 with e | e
        · exact h e
        · exact hm ⟨e, q2⟩
theorem wipe_set {σ : St} {i : Nat} {x : Option V} {vs : List Nat} (h : i ∈ vs) : wipe (σ.set i x) vs = wipe σ vs := by
  refine List.ext_getElem? fun j => ?_
  rw [wipe_get, wipe_get, List.length_set]
  by_cases hm : j ∈ vs ∧ j < σ.length
  · rw [if_pos hm, if_pos hm]
  · rw [if_neg hm, if_neg hm]
    by_cases e : j = i
    · subst e
      have : ¬ j < σ.length := fun q => hm ⟨h, q⟩
      rw [List.getElem?_eq_none (by simpa using this), List.getElem?_eq_none (by omega)]
    · rw [List.getElem?_set_ne (Ne.symm e)]
theorem pg_imp {X : Cx} {e : Expr} {t t' : TG} (h : PG X e t) (f : ∀ v σ H Q, t' v σ H Q → t v σ H Q) : PG X e t' := ⟨fun pins s σ H v u Q I r q => h.run pins s σ H v u Q I r (f _ _ _ _ q)⟩
theorem pgs_imp {X : Cx} {e : List Expr} {t t' : TGs} (h : PGs X e t) (f : ∀ v σ H Q, t' v σ H Q → t v σ H Q) : PGs X e t' := ⟨fun pins s σ H v u Q I r q => h.run pins s σ H v u Q I r (f _ _ _ _ q)⟩
abbrev Tgt := D → Sg → Option Sg
abbrev Tgts := List D → Sg → Option Sg
/-- vs: the slots that are stored -/
def tG (K : PySem.W.Frag) (vs : List Nat) (ev : Tgt) : TG := fun v σ H Q => ∃ g G φ s d s', g.K = K ∧ Rel g G φ s σ H ∧ Rep g.K φ G v d ∧ ev d s = some s' ∧ ∀ G' φ' σ' H', Rel g G' φ' s' σ' H' → Same G G' → φ <+: φ' → wipe σ' vs = wipe σ vs → Q σ' H'
def tGs (K : PySem.W.Frag) (vs : List Nat) (ev : Tgts) : TGs := fun us σ H Q => ∃ g G φ s ds s', g.K = K ∧ Rel g G φ s σ H ∧ RepA g.K φ G us ds ∧ ev ds s = some s' ∧ ∀ G' φ' σ' H', Rel g G' φ' s' σ' H' → Same G G' → φ <+: φ' → wipe σ' vs = wipe σ vs → Q σ' H'
def SG (X : Cx) (vs : List Nat) (e : Expr) (ev : Tgt) : Prop := PG X e (tG X.K vs ev)
def SGs (X : Cx) (vs : List Nat) (e : List Expr) (ev : Tgts) : Prop := PGs X e (tGs X.K vs ev)
def tgName (i : Nat) : Tgt := fun d s => some { s with env := s.env.set i (.fro d) }
def tgNil : Tgts := fun ds s => match ds with
  | [] => some s
  | _ => none
def tgCons (a : Tgt) (b : Tgts) : Tgts := fun ds s => match ds with
  | [] => none
  | d :: ds => (a d s).bind fun s1 => b ds s1
def tgTup (n : Nat) (b : Tgts) : Tgt := fun d s => match d with
  | .tup ds => if ds.length = n then b ds s else none
  | _ => none
section
variable {X : Cx} {vs : List Nat}
theorem sg_name (i : Nat) {x : Str} {pos : Pos} (hN : X.N.Nodup) (hi : X.N[i]? = some x := by rfl) (hx : Loc X.env.scope x := by first | exact Or.inl rfl | exact Or.inr rfl) (hf : X.fn x = true ∨ X.env.scope.names.lookup x = some .local := by first | exact .inl rfl | exact .inr rfl) (hv : i ∈ vs := by decide) : SG X vs (.Name x pos) (tgName i) :=
  pg_imp (pg_name hN hi hx hf) fun v σ H Q ⟨g, G, φ, s, d, s', hK, R, rp, he, q⟩ => by
    cases he
    exact q G φ _ H (R.store i (.fro rp)) (Same.refl _) (List.prefix_refl _) (wipe_set hv)
theorem sgs_nil : SGs X vs [] tgNil := pgs_imp pgs_nil fun v σ H Q ⟨g, G, φ, s, d, s', hK, R, rp, he, q⟩ => by
  cases rp with
  | nil => cases he; exact ⟨rfl, q G φ σ H R (Same.refl _) (List.prefix_refl _) rfl⟩
  | cons => cases he
theorem sgs_cons {e : Expr} {es : List Expr} {a : Tgt} {b : Tgts} (h1 : SG X vs e a) (h2 : SGs X vs es b) (hs : (assignEach (e :: es) X.env).map (·.2) = assign e X.env :: (assignEach es X.env).map (·.2) := by rfl) : SGs X vs (e :: es) (tgCons a b) :=
  pgs_imp (pgs_cons h1 h2 hs) fun v σ H Q ⟨g, G, φ, s, d, s', hK, R, rp, he, q⟩ => by
    cases rp with
    | nil => cases he
    | cons r rs =>
      obtain ⟨s1, e1, he⟩ := bind_some_iff he
      exact ⟨_, _, rfl, g, G, φ, s, _, s1, hK, R, r, e1, fun G1 φ1 σ1 H1 R1 h1 h2 w1 => ⟨g, G1, φ1, s1, _, s', hK, R1, rs.mono h1 h2, he, fun G2 φ2 σ2 H2 R2 h3 h4 w2 => q G2 φ2 σ2 H2 R2 (h1.trans h3) (h2.trans h4) (w2.trans w1)⟩⟩
theorem sg_tup {es : List Expr} {k : Nat} {b : Tgts} {n : Nat} {pos : Pos} (hc : X.calm = true) (h : SGs X vs es b) (hn : (assignEach es X.env).length = n := by rfl) (hst : (assignEach es X.env).findIdx? (·.1) = none := by rfl) : SG X vs (.Tuple es k pos) (tgTup n b) :=
  pg_imp (pg_tup hc h hn hst) fun v σ H Q ⟨g, G, φ, s, d, s', hK, R, rp, he, q⟩ => by
    cases rp with
    | tup st ra =>
      have he : (if _ then _ else _) = _ := he
      split at he
      · rename_i hl
        exact ⟨_, _, rfl, SqT.of (R.sub _ _ st), ra.length.trans hl, g, G, φ, s, _, s', hK, R, ra, he, q⟩
      · cases he
    | _ => cases he
/-- target = value, the value frozen -/
def evAsg (t : Tgt) (a : Ev RV) : Ev Out := fun s => (a s).bind fun p => (t p.1.d p.2).map fun s' => (.nx, s')
theorem ss_asg {tg e : Expr} {t : Tgt} {va : Ev RV} {pos : Pos} (he : SR X e va) (hg : SG X vs tg t) (hs : swapsWithSole [tg] e pos.line X.env = pure false := by rfl) (hw : swappedStores [tg] e X.env = pure none := by rfl)
    (h1 : (assignEach [tg] X.env).map (·.2) = [assign tg X.env] := by rfl) : SS X (.Assign [tg] e pos) (evAsg t va) := ps_imp (ps_asg he hg hs hw h1) fun E σ H ⟨g, G, φ, s, o, s', hK, R, he, q⟩ => by
  obtain ⟨⟨p1, p2⟩, e1, he⟩ := bind_some_iff he
  obtain ⟨s1, e2, he⟩ := map_some_iff he
  cases he
  refine ⟨g, G, φ, s, p1, p2, hK, R, e1, fun G1 φ1 H1 v R1 h1 h2 x => ?_⟩
  obtain ⟨G2, R2, h3, rp⟩ := x.froz R1
  exact ⟨g, G2, φ1, p2, _, _, hK, R2, rp, e2, fun G3 φ3 σ3 H3 R3 h4 h5 _ => q G3 φ3 σ3 H3 R3 ((h1.trans h3).trans h4) (h2.trans h5)⟩
/-- a, b = e1, e2 -/
def evPar (i j : Nat) (a b : Ev RV) : Ev Out := fun s => (a s).bind fun p => (b p.2).map fun q => (.nx, { q.2 with env := (q.2.env.set i p.1.slot).set j q.1.slot })
theorem ss_par {i j : Nat} {x y : Str} {a b : Expr} {va vb : Ev RV} {px py pt pos : Pos} {kt k2 pt2} (hc : X.calm = true) (hN : X.N.Nodup) (ha : SR X a va) (hb : SR X b vb) (hi : X.N[i]? = some x := by rfl) (hj : X.N[j]? = some y := by rfl) (hij : i ≠ j := by decide)
    (hx : X.env.scope.names.lookup x = some .local := by rfl) (hy : X.env.scope.names.lookup y = some .local := by rfl)
    (hw : swappedStores [.Tuple [.Name x px, .Name y py] kt pt] (.Tuple [a, b] k2 pt2) X.env = pure (some [x, y]) := by rfl)
    (hs : swapsWithSole [.Tuple [.Name x px, .Name y py] kt pt] (.Tuple [a, b] k2 pt2) pos.line X.env = pure false := by rfl)
    (h1 : starEach [a, b] X.env = (false, eval a X.env) :: starEach [b] X.env := by rfl) (h2 : starEach [b] X.env = (false, eval b X.env) :: starEach [] X.env := by rfl) :
    SS X (.Assign [.Tuple [.Name x px, .Name y py] kt pt] (.Tuple [a, b] k2 pt2) pos) (evPar i j va vb) := ps_imp (ps_par hc hN hi hj hij hx hy (pa_cons ha (pa_cons hb pa_nil h2) h1) hw hs) fun E σ H ⟨g, G, φ, s, o, s', hK, R, he, q⟩ => by
  obtain ⟨⟨p1, p2⟩, e1, he⟩ := bind_some_iff he
  obtain ⟨⟨q1, q2⟩, e2, he⟩ := map_some_iff he
  cases he
  refine ⟨g, G, φ, s, p1, p2, hK, R, e1, fun G1 φ1 H1 v R1 h1 h2 x => ?_⟩
  cases x with
  | fro rp =>
    refine ⟨g, G1, φ1, p2, q1, q2, hK, R1, e2, fun G2 φ2 H2 w R2 h3 h4 y => ⟨_, _, rfl, ?_⟩⟩
    have S1 := R2.store i (.fro (rp.mono h3 h4))
    refine q G2 φ2 _ H2 (S1.store j (r := q1) ?_) (h1.trans h3) (h2.trans h4)
    cases y with
    | fro ry => exact .fro ry
    | own F =>
      refine .own ⟨F.at_, F.own, F.gp, F.fp, F.up, F.ph, fun k e a1 a2 => ?_⟩
      by_cases hk : k = i
      · subst hk
        have a1 : (q2.env.set k (.fro _))[k]? = some (Slot.own e) := a1
        by_cases hl : k < q2.env.length
        · rw [List.getElem?_set_self hl] at a1; cases a1
        · rw [List.getElem?_eq_none (by simpa using hl)] at a1; cases a1
      · have a1 : (q2.env.set i (.fro _))[k]? = some (Slot.own e) := a1
        rw [List.getElem?_set_ne (Ne.symm hk)] at a1 a2
        exact F.sl k e a1 a2
  | own F1 =>
    refine ⟨g.hid (one _ _), G1, φ1, p2, q1, q2, hK, R1.pend F1, e2, fun G2 φ2 H2 w R2 h3 h4 y => ⟨_, _, rfl, ?_⟩⟩
    obtain ⟨R3, F3⟩ := R1.back F1 R2 h3 h4
    have S1 := R3.store i (.own F3)
    refine q G2 φ2 _ H2 (S1.store j (r := q1) ?_) (h1.trans h3) (h2.trans h4)
    cases y with
    | fro ry => exact .fro ry
    | own F =>
      have hne : over (one _ _) g.F _ = none := F.fp
      refine .own ⟨F.at_, F.own, F.gp, (over_none hne).2, F.up, F.ph, fun k e a1 a2 => ?_⟩
      by_cases hk : k = i
      · subst hk
        have hl : k < σ.length := by
          by_cases hl : k < σ.length
          · exact hl
          · rw [List.getElem?_eq_none (by simpa using hl)] at a2; cases a2
        rw [List.getElem?_set_self hl] at a2
        cases a2
        have := (over_none hne).1
        unfold one at this
        rw [upd_same] at this
        cases this
      · have a1 : (q2.env.set i (.own _))[k]? = some (Slot.own e) := a1
        rw [List.getElem?_set_ne (Ne.symm hk)] at a1 a2
        exact F.sl k e a1 a2
end
structure ItOk (K : PySem.W.Frag) (φ : List Addr) (G : Hp) (J : It) (ds : List D) : Prop where
  go : ∀ Gc φc Hc, Same G Gc → φ <+: φc → Same Gc Hc → ∀ i, i < ds.length → J.go i Hc
  stop : ∀ Gc φc Hc, Same G Gc → φ <+: φc → Same Gc Hc → J.stop ds.length Hc
  yld : ∀ Gc φc Hc, Same G Gc → φ <+: φc → Same Gc Hc → ∀ i d x H', ds[i]? = some d → J.yld i Hc x H' → ∃ G', Grow Gc Hc G' H' ∧ Rep K φc G' x d
def tI (K : PySem.W.Frag) (ev : Ev (List D)) : TI := fun σ H R => ∃ g G φ s ds s', g.K = K ∧ Rel g G φ s σ H ∧ ev s = some (ds, s') ∧
  ∀ J G' φ' H', Rel g G' φ' s' σ H' → Same G G' → φ <+: φ' → ItOk g.K φ' G' J ds → R J H'
def SI (X : Cx) (tg iter : Expr) (ev : Ev (List D)) : Prop := PI X tg iter (tI X.K ev)
theorem pi_imp {X : Cx} {tg e : Expr} {t t' : TI} (h : PI X tg e t) (f : ∀ σ H R, t' σ H R → t σ H R) : PI X tg e t' := ⟨fun pins s σ H R I q => h.run pins s σ H R I (f _ _ _ q)⟩
theorem RepA.get {K : PySem.W.Frag} {φ : List Addr} {G : Hp} : ∀ {vs ds} {i : Nat} {d : D}, RepA K φ G vs ds → ds[i]? = some d → ∃ v, vs[i]? = some v ∧ Rep K φ G v d
  | _, _, _, _, .nil, h => by simp at h
  | _, _, 0, _, .cons r _, h => by simp at h; subst h; exact ⟨_, rfl, r⟩
  | _, _, i + 1, _, .cons _ t, h => by
    obtain ⟨v, h1, h2⟩ := RepA.get (i := i) t (by simpa using h)
    exact ⟨v, by simpa using h1, h2⟩
theorem itOk_list {K : PySem.W.Frag} {φ : List Addr} {G : Hp} {a : Addr} {xs : List V} {ds : List D} (h : SqL K G a xs) (r : RepA K φ G xs ds) : ItOk K φ G (Itl K a) ds := by
  refine ⟨fun Gc φc Hc h1 h2 h3 i hi => ?_, fun Gc φc Hc h1 h2 h3 => ⟨xs, sqL_mono (h1.trans h3) h, by rw [r.length]; exact Nat.le_refl _⟩, fun Gc φc Hc h1 h2 h3 i d x H' hd hy => ?_⟩
  · have hl : i < xs.length := by rw [r.length]; exact hi
    exact ⟨xs, xs[i], sqL_mono (h1.trans h3) h, List.getElem?_eq_getElem hl⟩
  · obtain ⟨rfl, hy⟩ := hy
    obtain ⟨v, e1, e2⟩ := r.get hd
    have e3 := hy xs (sqL_mono (h1.trans h3) h)
    rw [e1] at e3
    cases e3
    exact ⟨Gc, Grow.refl h3, e2.mono h1 h2⟩
theorem itOk_tup {K : PySem.W.Frag} {φ : List Addr} {G : Hp} {a : Addr} {xs : List V} {ds : List D} (h : SqT K G a xs) (r : RepA K φ G xs ds) : ItOk K φ G (Itt K a) ds := by
  refine ⟨fun Gc φc Hc h1 h2 h3 i hi => ?_, fun Gc φc Hc h1 h2 h3 => ⟨xs, sqT_mono (h1.trans h3) h, by rw [r.length]; exact Nat.le_refl _⟩, fun Gc φc Hc h1 h2 h3 i d x H' hd hy => ?_⟩
  · have hl : i < xs.length := by rw [r.length]; exact hi
    exact ⟨xs, xs[i], sqT_mono (h1.trans h3) h, List.getElem?_eq_getElem hl⟩
  · obtain ⟨rfl, hy⟩ := hy
    obtain ⟨v, e1, e2⟩ := r.get hd
    have e3 := hy xs (sqT_mono (h1.trans h3) h)
    rw [e1] at e3
    cases e3
    exact ⟨Gc, Grow.refl h3, e2.mono h1 h2⟩
def dLst : D → Option (List D)
  | .lst ds => some ds
  | _ => none
def dTup : D → Option (List D)
  | .tup ds => some ds
  | _ => none
def evItL (a : Ev RV) : Ev (List D) := fun s => (a s).bind fun p => (dLst p.1.d).map fun ds => (ds, p.2)
def evItT (a : Ev RV) : Ev (List D) := fun s => (a s).bind fun p => (dTup p.1.d).map fun ds => (ds, p.2)
theorem si_list {X : Cx} {tg e : Expr} {a : Ev RV} (h : SR X e a) : SI X tg e (evItL a) := pi_imp (pi_list h) fun σ H R' ⟨g, G, φ, s, ds, s', hK, R, he, q⟩ => by
  obtain ⟨⟨p1, p2⟩, e1, he⟩ := bind_some_iff he
  obtain ⟨ds', e2, he⟩ := map_some_iff he
  cases he
  refine ⟨g, G, φ, s, p1, p2, hK, R, e1, fun G1 φ1 H1 v R1 h1 h2 x => ?_⟩
  obtain ⟨G2, R2, h3, rp⟩ := x.froz R1
  cases hd : p1.d with
  | lst ds0 =>
    rw [hd] at rp e2
    cases e2
    cases rp with
    | lst st ra => exact ⟨_, rfl, ⟨_, SqL.of (R2.sub _ _ st)⟩, hK ▸ q _ G2 φ1 H1 R2 (h1.trans h3) h2 (itOk_list (SqL.of st) ra)⟩
  | _ => rw [hd] at e2; cases e2
theorem si_tup {X : Cx} {tg e : Expr} {a : Ev RV} (h : SR X e a) : SI X tg e (evItT a) := pi_imp (pi_tup h) fun σ H R' ⟨g, G, φ, s, ds, s', hK, R, he, q⟩ => by
  obtain ⟨⟨p1, p2⟩, e1, he⟩ := bind_some_iff he
  obtain ⟨ds', e2, he⟩ := map_some_iff he
  cases he
  refine ⟨g, G, φ, s, p1, p2, hK, R, e1, fun G1 φ1 H1 v R1 h1 h2 x => ?_⟩
  obtain ⟨G2, R2, h3, rp⟩ := x.froz R1
  cases hd : p1.d with
  | tup ds0 =>
    rw [hd] at rp e2
    cases e2
    cases rp with
    | tup st ra => exact ⟨_, rfl, ⟨_, SqT.of (R2.sub _ _ st)⟩, hK ▸ q _ G2 φ1 H1 R2 (h1.trans h3) h2 (itOk_tup (SqT.of st) ra)⟩
  | _ => rw [hd] at e2; cases e2
def upTo (lo : Int) (n : Nat) : List D := (List.range n).map fun i => .int (lo + (i : Nat))
theorem itOk_range {K : PySem.W.Frag} {φ : List Addr} {G : Hp} (lo : Int) (n : Nat) : ItOk K φ G (Itr lo n) (upTo lo n) := by
  have hl : (upTo lo n).length = n := by unfold upTo; simp
  refine ⟨fun Gc φc Hc h1 h2 h3 i hi => by rw [hl] at hi; exact hi, fun Gc φc Hc h1 h2 h3 => by rw [hl]; exact Nat.le_refl _, fun Gc φc Hc h1 h2 h3 i d x H' hd hy => ?_⟩
  obtain ⟨rfl, rfl⟩ := hy
  have hi : i < n := by
    have := (List.getElem?_eq_some_iff.mp hd).1
    rw [hl] at this
    exact this
  unfold upTo at hd
  rw [List.getElem?_map, List.getElem?_range hi] at hd
  cases hd
  exact ⟨Gc, Grow.refl h3, .int _⟩
def small62 (i : Int) : Bool := decide (-1000000 ≤ i) && decide (i ≤ 1000000)
theorem small62_ok {i : Int} (h : small62 i = true) : -(2 ^ 62) ≤ i ∧ i < 2 ^ 62 := by
  unfold small62 at h
  rw [Bool.and_eq_true, decide_eq_true_eq, decide_eq_true_eq] at h
  omega
def evRng1 (a : Ev (List D)) : Ev (List D) := fun s => (a s).bind fun p => match p.1 with
  | [.int j] => if small62 j then some (upTo 0 j.toNat, p.2) else none
  | _ => none
def evRng2 (a : Ev (List D)) : Ev (List D) := fun s => (a s).bind fun p => match p.1 with
  | [.int i, .int j] => if small62 i && small62 j then some (upTo i (j - i).toNat, p.2) else none
  | _ => none
theorem si_range1 {X : Cx} {tg a : Expr} {ta : Ev (List D)} {p pos : Pos} (hg : Gl X "range") (hm : X.mg "range" = none) (ha : SA X [a] ta) (hs : starEach [a] X.env = [(false, eval a X.env)] := by rfl) : SI X tg (.Call (.Name "range" p) [a] [] pos) (evRng1 ta) :=
  pi_imp (pi_range1 hg hm ha hs) fun σ H R' ⟨g, G, φ, s, ds, s', hK, R, he, q⟩ => by
    obtain ⟨⟨p1, p2⟩, e1, he⟩ := bind_some_iff he
    split at he
    · rename_i j ep
      have ep : p1 = _ := ep
      subst ep
      split at he
      · rename_i hsm
        cases he
        refine ⟨g, G, φ, s, _, _, hK, R, e1, fun G1 φ1 H1 v R1 h1 h2 x => ?_⟩
        cases x with
        | cons r rs =>
          cases rs
          cases r
          exact ⟨j, rfl, (small62_ok hsm).1, (small62_ok hsm).2, q _ G1 φ1 H1 R1 h1 h2 (itOk_range 0 _)⟩
      · cases he
    · cases he
theorem si_range2 {X : Cx} {tg a b : Expr} {ta : Ev (List D)} {p pos : Pos} (hg : Gl X "range") (hm : X.mg "range" = none) (ha : SA X [a, b] ta) (hs : starEach [a, b] X.env = [(false, eval a X.env), (false, eval b X.env)] := by rfl) (hs2 : starEach [b] X.env = [(false, eval b X.env)] := by rfl) : SI X tg (.Call (.Name "range" p) [a, b] [] pos) (evRng2 ta) :=
  pi_imp (pi_range2 hg hm ha hs hs2) fun σ H R' ⟨g, G, φ, s, ds, s', hK, R, he, q⟩ => by
    obtain ⟨⟨p1, p2⟩, e1, he⟩ := bind_some_iff he
    split at he
    · rename_i i j ep
      have ep : p1 = _ := ep
      subst ep
      split at he
      · rename_i hsm
        rw [Bool.and_eq_true] at hsm
        cases he
        refine ⟨g, G, φ, s, _, _, hK, R, e1, fun G1 φ1 H1 v R1 h1 h2 x => ?_⟩
        cases x with
        | cons r rs =>
          cases rs with
          | cons r2 rs =>
            cases rs
            cases r
            cases r2
            exact ⟨i, j, rfl, ⟨(small62_ok hsm.1).1, (small62_ok hsm.1).2, (small62_ok hsm.2).1, (small62_ok hsm.2).2⟩, q _ G1 φ1 H1 R1 h1 h2 (itOk_range i _)⟩
      · cases he
    · cases he

def evFor (t : Tgt) (b : Ev Out) : List D → Ev Out
  | [] => fun s => some (.nx, s)
  | d :: ds => fun s => (t d s).bind fun s1 => (b s1).bind fun p => match p.1 with
    | .nx => evFor t b ds p.2
    | .ct => evFor t b ds p.2
    | .bk => some (.nx, p.2)
    | .rt r => some (.rt r, p.2)
def evForS (it : Ev (List D)) (t : Tgt) (b : Ev Out) : Ev Out := fun s => (it s).bind fun p => evFor t b p.1 p.2
theorem ss_for {X : Cx} {vs : List Nat} {tg iter : Expr} {body : List Stmt} {it : Ev (List D)} {t : Tgt} {b : Ev Out} {pos : Pos} (hp : PassesOwn (model X.prog X.w) X.A X.env X.xe) (hc : X.calm = true) (hi : SI X tg iter it) (hg : SG X vs tg t) (hb : SSs X body b) (hs : ∀ x, foldedSetIterable iter X.env x = pure x := by intro _; rfl) : SS X (.For tg iter body [] pos) (evForS it t b) :=
  ps_imp (ps_for hp hc hi hg hb hs) fun E σ H ⟨g, G, φ, s, o, s', hK, R, he, q⟩ => by
    obtain ⟨⟨ds, s1⟩, e1, he⟩ := bind_some_iff he
    refine ⟨g, G, φ, s, ds, s1, hK, R, e1, fun J G1 φ1 H1 R1 h1 h2 ok => ?_⟩
    have q := q.pre h1 h2
    refine ⟨fun i m σ' H' => m = ds.length - i ∧ i ≤ ds.length ∧ ∃ Gc φc sc, Rel g Gc φc sc σ' H' ∧ Same G1 Gc ∧ φ1 <+: φc ∧ evFor t b (ds.drop i) sc = some (o, s'), ⟨ds.length, by simp, Nat.zero_le _, G1, φ1, s1, R1, Same.refl _, List.prefix_refl _, he⟩, ?_⟩
    rintro i m σ' H' ⟨rfl, hi, Gc, φc, sc, Rc, h3, h4, ec⟩
    by_cases hlt : i < ds.length
    · refine .inr ⟨ok.go Gc φc H' h3 h4 Rc.sub i hlt, fun σ2 H2 => ∃ G2 φ2 s2, Rel g G2 φ2 s2 σ2 H2 ∧ Same G1 G2 ∧ φ1 <+: φ2 ∧ evFor t b (ds.drop (i + 1)) s2 = some (o, s'), fun σ2 H2 ⟨G2, φ2, s2, a1, a2, a3, a4⟩ => ⟨ds.length - (i + 1), by omega, rfl, hlt, G2, φ2, s2, a1, a2, a3, a4⟩, fun x H2 hy => ?_⟩
      obtain ⟨G2, gr, rx⟩ := ok.yld Gc φc H' h3 h4 Rc.sub i ds[i] x H2 (List.getElem?_eq_getElem hlt) hy
      have R2 := Rc.grow gr
      rw [List.drop_eq_getElem_cons hlt] at ec
      obtain ⟨s2, e2, ec⟩ := bind_some_iff ec
      refine ⟨g, G2, φc, sc, _, s2, hK, R2, rx, e2, fun G3 φ3 σ3 H3 R3 h5 h6 _ => ?_⟩
      obtain ⟨⟨p1, p2⟩, e3, ec⟩ := bind_some_iff ec
      have h13 : Same G1 G3 := (h3.trans gr.gg).trans h5
      have p13 : φ1 <+: φ3 := h4.trans h6
      refine ⟨g, G3, φ3, s2, p1, p2, hK, R3, e3, ?_⟩
      cases p1 with
      | nx => exact fun G' φ' σ' H' R' a1 a2 => ⟨G', φ', p2, R', h13.trans a1, p13.trans a2, ec⟩
      | ct => exact fun G' φ' σ' H' R' a1 a2 => ⟨G', φ', p2, R', h13.trans a1, p13.trans a2, ec⟩
      | bk =>
        cases ec
        exact fun G' φ' σ' H' R' a1 a2 => q G' φ' σ' H' R' (h13.trans a1) (p13.trans a2)
      | rt r =>
        cases ec
        exact fun G' φ' σ' H' v R' a1 a2 x => q G' φ' σ' H' v R' (h13.trans a1) (p13.trans a2) x
    · have e : i = ds.length := by omega
      subst e
      rw [List.drop_length] at ec
      cases ec
      exact .inl ⟨ok.stop Gc φc H' h3 h4 Rc.sub, q Gc φc σ' H' Rc h3 h4⟩

def evWhN (c : Ev Bool) (b : Ev Out) : Nat → Ev Out
  | 0 => fun _ => none
  | n + 1 => fun s => (c s).bind fun p => if p.1 then (b p.2).bind fun q => match q.1 with
      | .nx => evWhN c b n q.2
      | .ct => evWhN c b n q.2
      | .bk => some (.nx, q.2)
      | .rt r => some (.rt r, q.2)
    else some (.nx, p.2)
open Classical in
noncomputable def evWh (c : Ev Bool) (b : Ev Out) : Ev Out := fun s => if h : ∃ n r, evWhN c b n s = some r then some (Classical.choose (Classical.choose_spec h)) else none
theorem evWhN_succ {c : Ev Bool} {b : Ev Out} : ∀ {n : Nat} {s : Sg} {r : Out × Sg}, evWhN c b n s = some r → evWhN c b (n + 1) s = some r
  | 0, s, r, h => by cases h
  | n + 1, s, r, h => by
    obtain ⟨⟨p1, p2⟩, e1, h⟩ := bind_some_iff h
    show ((c s).bind fun p => _) = _
    rw [e1]
    cases p1 with
    | false => exact h
    | true =>
      have h : (if true = true then _ else _) = _ := h
      rw [if_pos rfl] at h
      obtain ⟨⟨q1, q2⟩, e2, h⟩ := bind_some_iff h
      show ((b p2).bind fun q => _) = _
      rw [e2]
      cases q1 with
      | nx => exact evWhN_succ h
      | ct => exact evWhN_succ h
      | bk => exact h
      | rt x => exact h
theorem evWhN_le {c : Ev Bool} {b : Ev Out} {n m : Nat} {s : Sg} {r : Out × Sg} (h : evWhN c b n s = some r) (l : n ≤ m) : evWhN c b m s = some r := by
  induction l with
  | refl => exact h
  | step _ ih => exact evWhN_succ ih
theorem evWh_of {c : Ev Bool} {b : Ev Out} {n : Nat} {s : Sg} {r : Out × Sg} (h : evWhN c b n s = some r) : evWh c b s = some r := by
  have ex : ∃ n r, evWhN c b n s = some r := ⟨n, r, h⟩
  unfold evWh
  rw [dif_pos ex]
  have e := Classical.choose_spec (Classical.choose_spec ex)
  have e1 := evWhN_le e (Nat.le_max_left (Classical.choose ex) n)
  have e2 := evWhN_le h (Nat.le_max_right (Classical.choose ex) n)
  rw [e1] at e2
  exact e2
theorem evWh_ex {c : Ev Bool} {b : Ev Out} {s : Sg} {r : Out × Sg} (h : evWh c b s = some r) : ∃ n, evWhN c b n s = some r := by
  unfold evWh at h
  split at h
  · rename_i ex
    cases h
    exact ⟨_, Classical.choose_spec (Classical.choose_spec ex)⟩
  · cases h
theorem ss_while {X : Cx} {c : Expr} {body : List Stmt} {tc : Ev Bool} {b : Ev Out} {pos : Pos} (hp : PassesOwn (model X.prog X.w) X.A X.env X.xe) (hc : ST X c tc) (hb : SSs X body b) : SS X (.While c body [] pos) (evWh tc b) :=
  ps_imp (ps_while hp hc hb) fun E σ H ⟨g, G, φ, s, o, s', hK, R, he, q⟩ => by
    obtain ⟨n, he⟩ := evWh_ex he
    refine ⟨fun m σ' H' => ∃ Gc φc sc, Rel g Gc φc sc σ' H' ∧ Same G Gc ∧ φ <+: φc ∧ evWhN tc b m sc = some (o, s'), ⟨n, G, φ, s, R, Same.refl _, List.prefix_refl _, he⟩, ?_⟩
    rintro m σ' H' ⟨Gc, φc, sc, Rc, h3, h4, ec⟩
    cases m with
    | zero => cases ec
    | succ m =>
      obtain ⟨⟨p1, p2⟩, e1, ec⟩ := bind_some_iff ec
      refine ⟨g, Gc, φc, sc, p1, p2, hK, Rc, e1, fun G1 φ1 H1 R1 h5 h6 => ?_⟩
      cases p1 with
      | false =>
        rw [if_neg Bool.false_ne_true]
        cases ec
        exact q G1 φ1 σ' H1 R1 (h3.trans h5) (h4.trans h6)
      | true =>
        rw [if_pos rfl]
        have ec : (if true = true then _ else _) = _ := ec
        rw [if_pos rfl] at ec
        obtain ⟨⟨q1, q2⟩, e2, ec⟩ := bind_some_iff ec
        refine ⟨fun σ2 H2 => ∃ G2 φ2 s2, Rel g G2 φ2 s2 σ2 H2 ∧ Same G G2 ∧ φ <+: φ2 ∧ evWhN tc b m s2 = some (o, s'), fun σ2 H2 ⟨G2, φ2, s2, a1, a2, a3, a4⟩ => ⟨m, Nat.lt_succ_self m, G2, φ2, s2, a1, a2, a3, a4⟩, ?_⟩
        refine ⟨g, G1, φ1, p2, q1, q2, hK, R1, e2, ?_⟩
        have h13 : Same G G1 := h3.trans h5
        have p13 : φ <+: φ1 := h4.trans h6
        cases q1 with
        | nx => exact fun G' φ' σ' H' R' a1 a2 => ⟨G', φ', q2, R', h13.trans a1, p13.trans a2, ec⟩
        | ct => exact fun G' φ' σ' H' R' a1 a2 => ⟨G', φ', q2, R', h13.trans a1, p13.trans a2, ec⟩
        | bk =>
          cases ec
          exact fun G' φ' σ' H' R' a1 a2 => q G' φ' σ' H' R' (h13.trans a1) (p13.trans a2)
        | rt r =>
          cases ec
          exact fun G' φ' σ' H' v R' a1 a2 x => q G' φ' σ' H' v R' (h13.trans a1) (p13.trans a2) x
end Pv

namespace Pv
open PySem PySem.Spec L2

def leakSlot (s : Sg) (i : Nat) : Sg := match s.env[i]? with
  | some (.own d) => { s with env := s.env.set i (.fro d) }
  | _ => s
def freezeCap (cap : List Nat) (s : Sg) : Sg := cap.foldl leakSlot s
def hideSlot : Slot → Slot
  | .own _ => .non
  | x => x
def wipeE (env : List Slot) : List Nat → List Slot
  | [] => env
  | v :: vs => (wipeE env vs).set v .non
def blkEnv (vs : List Nat) (env : List Slot) : List Slot := wipeE (env.map hideSlot) vs
section
variable {g : Gh} {G G' : Hp} {φ φ' : List Addr} {s s' : Sg} {σ σ' : St} {H H' : Hp}
theorem Rel.leakS (R : Rel g G φ s σ H) (i : Nat) : ∃ G', Rel g G' φ (leakSlot s i) σ H ∧ Same G G' := by
  unfold leakSlot
  cases e : s.env[i]? with
  | none => exact ⟨G, R, Same.refl _⟩
  | some sl =>
    cases sl with
    | non => exact ⟨G, R, Same.refl _⟩
    | fro d => exact ⟨G, R, Same.refl _⟩
    | own d =>
      obtain ⟨v, G', _, R', h, _⟩ := R.leak e
      exact ⟨G', R', h⟩
theorem Rel.cap : ∀ (cap : List Nat) {s : Sg} {G : Hp}, Rel g G φ s σ H → ∃ G', Rel g G' φ (freezeCap cap s) σ H ∧ Same G G'
  | [], s, G, R => ⟨G, R, Same.refl _⟩
  | i :: cap, s, G, R => by
    obtain ⟨G1, R1, h1⟩ := R.leakS i
    obtain ⟨G2, R2, h2⟩ := Rel.cap cap R1
    exact ⟨G2, R2, h1.trans h2⟩
open Classical in
noncomputable def ownW (env : List Slot) (σ : St) (H : Hp) : Hp := fun a => if ∃ (i : Nat) (d : D), env[i]? = some (Slot.own d) ∧ σ[i]? = some (some (V.ref a)) then H a else none
theorem ownW_some {env : List Slot} {a : Addr} {o : HO} (h : ownW env σ H a = some o) : H a = some o ∧ ∃ (i : Nat) (d : D), env[i]? = some (Slot.own d) ∧ σ[i]? = some (some (V.ref a)) := by
  unfold ownW at h
  split at h
  · rename_i q; exact ⟨h, q⟩
  · cases h
theorem ownW_own {env : List Slot} {i : Nat} {d : D} {a : Addr} (h1 : env[i]? = some (Slot.own d)) (h2 : σ[i]? = some (some (V.ref a))) : ownW env σ H a = H a := by
  unfold ownW
  rw [if_pos ⟨i, d, h1, h2⟩]
theorem wipeE_get {env : List Slot} {j : Nat} : ∀ {vs : List Nat}, (wipeE env vs)[j]? = if j ∈ vs ∧ j < env.length then some .non else env[j]?
  | [] => by simp [wipeE]
  | v :: vs => by
    have hlen : ∀ vs : List Nat, (wipeE env vs).length = env.length := by
      intro vs
      induction vs with
      | nil => rfl
      | cons v vs ih => unfold wipeE; rw [List.length_set, ih]
    unfold wipeE
    by_cases h : j = v
    · subst h
      by_cases hl : j < env.length
      · rw [List.getElem?_set_self (by rw [hlen]; exact hl), if_pos ⟨List.mem_cons_self, hl⟩]
      · rw [List.getElem?_eq_none (by rw [List.length_set, hlen]; omega), if_neg (fun q => hl q.2), List.getElem?_eq_none (by omega)]
    · rw [List.getElem?_set_ne (Ne.symm h), wipeE_get]
      by_cases hm : j ∈ vs ∧ j < env.length
      · rw [if_pos hm, if_pos ⟨List.mem_cons_of_mem _ hm.1, hm.2⟩]
      · rw [if_neg hm, if_neg]
        rintro ⟨q1, q2⟩
        rcases List.mem_cons.mp q1 with e | e
        · exact h e
        · exact hm ⟨e, q2⟩
theorem wipeE_len {env : List Slot} : ∀ vs : List Nat, (wipeE env vs).length = env.length := by
  intro vs
  induction vs with
  | nil => rfl
  | cons v vs ih => unfold wipeE; rw [List.length_set, ih]
theorem blkEnv_get {vs : List Nat} {env : List Slot} {i : Nat} {x : Slot} (h : (blkEnv vs env)[i]? = some x) : (∀ d, x ≠ .own d) ∧ (∀ d, x = .fro d → env[i]? = some (.fro d) ∧ i ∉ vs) := by
  unfold blkEnv at h
  rw [wipeE_get, List.length_map] at h
  split at h
  · cases h
    exact ⟨fun d e => (nomatch e), fun d e => (nomatch e)⟩
  · rename_i hn
    rw [List.getElem?_map] at h
    cases e : env[i]? with
    | none => rw [e] at h; cases h
    | some y =>
      rw [e] at h
      cases y with
      | non => cases h; exact ⟨fun d e => (nomatch e), fun d e => (nomatch e)⟩
      | own d => cases h; exact ⟨fun d e => (nomatch e), fun d e => (nomatch e)⟩
      | fro d =>
        cases h
        refine ⟨fun d e => (nomatch e), fun d' e' => ?_⟩
        cases e'
        exact ⟨rfl, fun hm => hn ⟨hm, (List.getElem?_eq_some_iff.mp e).1⟩⟩
theorem Rel.block (R : Rel g G φ s σ H) (vs : List Nat) : Rel (g.hid (ownW s.env σ H)) G φ ⟨blkEnv vs s.env, s.st⟩ (wipe σ vs) H := by
  have R1 : Rel g G φ ⟨blkEnv vs s.env, s.st⟩ (wipe σ vs) H := by
    refine ⟨R.sub, R.g0, R.new, R.old, R.use, R.zed, R.pre, ?_, fun i d e => ?_, fun i d e => ?_, fun i j d e p _ q _ => ?_, R.clen, R.cell, R.nd⟩
    · show (blkEnv vs s.env).length = _
      unfold blkEnv
      rw [wipeE_len, List.length_map, wipe_length, R.len]
    · obtain ⟨h1, h2⟩ := (blkEnv_get e).2 d rfl
      obtain ⟨v, a, b⟩ := R.fro i d h1
      exact ⟨v, by rw [wipe_get, if_neg (fun q => h2 q.1)]; exact a, b⟩
    · exact absurd rfl ((blkEnv_get e).1 d)
    · exact absurd rfl ((blkEnv_get q).1 d)
  refine R1.hide (fun a o e => (ownW_some e).1) (fun a o e => ?_) fun i d a e => absurd rfl ((blkEnv_get e).1 d)
  obtain ⟨_, i, d, h1, h2⟩ := ownW_some e
  obtain ⟨p, o', e1, _, _, e4, _, _, e7⟩ := R.own i d h1
  rw [h2] at e1
  cases e1
  exact ⟨e4, e7⟩
theorem Rel.unblock (R : Rel g G φ s σ H) (R' : Rel (g.hid (ownW s.env σ H)) G' φ' s' σ' H') (h1 : Same G G') (h2 : φ <+: φ') : Rel g G' φ' ⟨s.env, s'.st⟩ σ H' := by
  have R1 : Rel g G' φ' s' σ' H' := R'.unhide (fun a z => (R.zed a z).2) fun a o e => by
    obtain ⟨_, i, d, q1, q2⟩ := ownW_some e
    obtain ⟨p, o', e1, _, _, _, e5, _⟩ := R.own i d q1
    rw [q2] at e1
    cases e1
    exact e5
  refine ⟨R1.sub, R1.g0, R1.new, R1.old, R1.use, R1.zed, R1.pre, R.len, fun i d e => ?_, fun i d e => ?_, R.sep, R1.clen, R1.cell, R1.nd⟩
  · obtain ⟨v, a, b⟩ := R.fro i d e
    exact ⟨v, a, b.mono h1 h2⟩
  · obtain ⟨p, o, e1, e2, e3, e4, e5, e6, e7⟩ := R.own i d e
    have w : ownW s.env σ H p = some o := (ownW_own e e1).trans e2
    have fw : (g.hid (ownW s.env σ H)).F p = some o := by
      show over _ _ p = _
      unfold over
      rw [w]
    refine ⟨p, o, e1, R'.old p o fw, e3.mono h1 h2, (R'.zed p (Or.inl (by rw [w]; simp))).1, e5, e6, fun hm => ?_⟩
    obtain ⟨n, hn⟩ := List.getElem?_of_mem hm
    have hl : n < s'.st.length := by rw [R'.clen]; exact (List.getElem?_eq_some_iff.mp hn).1
    obtain ⟨o', _, _, _, q, _⟩ := R'.cell n p _ hn (List.getElem?_eq_getElem hl)
    rw [fw] at q
    cases q
theorem Fresh.unblock {p : Addr} {o : HO} {d : D} (R : Rel g G φ s σ H) (F : Fresh (g.hid (ownW s.env σ H)) G' φ' s' σ' H' p o d) : Fresh g G' φ' ⟨s.env, s'.st⟩ σ H' p o d := by
  have fp : over (ownW s.env σ H) g.F p = none := F.fp
  refine ⟨F.at_, F.own, F.gp, (over_none fp).2, F.up, F.ph, fun i e h1 h2 => ?_⟩
  obtain ⟨p', o', e1, e2, _⟩ := R.own i e h1
  rw [h2] at e1
  cases e1
  have w := ownW_own (H := H) h1 h2
  rw [(over_none fp).1, e2] at w
  cases w
end

theorem pts_imp {X : Cx} {e : List Expr} {t t' : TT} (h : PTs X e t) (f : ∀ σ H Q, t' σ H Q → t σ H Q) : PTs X e t' := ⟨fun pins s σ H Q I q => h.run pins s σ H Q I (f _ _ _ q)⟩
def STs (X : Cx) (e : List Expr) (ev : Ev Bool) : Prop := PTs X e (tT X.K ev)
def evYes : Ev Bool := fun s => some (true, s)
theorem sts_nil {X : Cx} : STs X [] evYes := pts_imp pts_nil fun σ H Q ⟨g, G, φ, s, o, s', hK, R, he, q⟩ => by
  cases he
  exact q G φ H R (Same.refl _) (List.prefix_refl _)
theorem sts_one {X : Cx} {c : Expr} {a : Ev Bool} (h : ST X c a) : STs X [c] a := pts_one h
def evLcGo (t : Tgt) (c : Ev Bool) (e : Ev RV) (env : List Slot) : List D → List Cell → Option (List D × List Cell)
  | [], st => some ([], st)
  | d :: ds, st => (t d ⟨env, st⟩).bind fun s1 => (c s1).bind fun p => if p.1 then (e p.2).bind fun q => (evLcGo t c e env ds q.2.st).map fun r => (q.1.d :: r.1, r.2) else evLcGo t c e env ds p.2.st
def evLc (it : Ev (List D)) (cap vs : List Nat) (t : Tgt) (c : Ev Bool) (e : Ev RV) : Ev RV := fun s => (it s).bind fun p => if p.1.length ≤ 1000000 then
    (evLcGo t c e (blkEnv vs (freezeCap cap p.2).env) p.1 p.2.st).map fun r => (.own (.lst r.1), ⟨(freezeCap cap p.2).env, r.2⟩) else none
theorem freezeCap_st : ∀ (cap : List Nat) (s : Sg), (freezeCap cap s).st = s.st
  | [], s => rfl
  | i :: cap, s => by
    show (freezeCap cap (leakSlot s i)).st = _
    rw [freezeCap_st cap]
    unfold leakSlot
    split <;> rfl
theorem evLcGo_len {t : Tgt} {c : Ev Bool} {e : Ev RV} {env : List Slot} : ∀ {ds : List D} {st : List Cell} {r : List D × List Cell}, evLcGo t c e env ds st = some r → r.1.length ≤ ds.length
  | [], st, r, h => by cases h; exact Nat.le_refl _
  | d :: ds, st, r, h => by
    obtain ⟨s1, _, h⟩ := bind_some_iff h
    obtain ⟨⟨p1, p2⟩, _, h⟩ := bind_some_iff h
    cases p1 with
    | true =>
      have h : (if true = true then _ else _) = _ := h
      rw [if_pos rfl] at h
      obtain ⟨⟨q1, q2⟩, _, h⟩ := bind_some_iff h
      obtain ⟨r', h1, h⟩ := map_some_iff h
      cases h
      exact Nat.succ_le_succ (evLcGo_len h1)
    | false =>
      have h : (if false = true then _ else _) = _ := h
      rw [if_neg Bool.false_ne_true] at h
      exact Nat.le_succ_of_le (evLcGo_len h)
theorem RepA.append {K : PySem.W.Frag} {φ : List Addr} {G : Hp} : ∀ {vs ds ws es}, RepA K φ G vs ds → RepA K φ G ws es → RepA K φ G (vs ++ ws) (ds ++ es)
  | _, _, _, _, .nil, r => r
  | _, _, _, _, .cons a b, r => .cons a (b.append r)
theorem million : (1000000 : Nat) < sizeLine := by rw [sizeLine_eq]; decide
theorem lc_tail {g : Gh} {G1 : Hp} {φ1 : List Addr} {s1 : Sg} {σ : St} {H1 : Hp} {K : PySem.W.Frag} {ds acc : List D} {st' : List Cell} {cap vs : List Nat} {t : Tgt} {c : Ev Bool} {e : Ev RV} {J : It} {Q : VK} (hK : g.K = K)
    (R1 : Rel g G1 φ1 s1 σ H1) (ok : ItOk g.K φ1 G1 J ds) (hsz : ds.length ≤ 1000000) (hev : evLcGo t c e (blkEnv vs (freezeCap cap s1).env) ds s1.st = some (acc, st'))
    (q : ∀ G' φ' H' v, Rel g G' φ' ⟨(freezeCap cap s1).env, st'⟩ σ H' → Same G1 G' → φ1 <+: φ' → Res g G' φ' ⟨(freezeCap cap s1).env, st'⟩ σ H' v (.own (.lst acc)) → Q v H') (Dd : Addr) (hD : H1 Dd = none) :
    ∃ W : Nat → Nat → Hp → Prop, (∃ m, W 0 m (upd H1 Dd (.lst []))) ∧ ∀ i m H, W i m H →
      (J.stop i H ∧ Q (.ref Dd) H) ∨ (J.go i H ∧ ∃ Nx : Hp → Prop, (∀ H', Nx H' → ∃ m', m' < m ∧ W (i + 1) m' H') ∧ ∀ x H', J.yld i H x H' → tG K vs t x (wipe σ vs) H' fun σ2 H2 => wipe σ2 vs = wipe σ vs ∧ tT K c σ2 H2 fun b H3 =>
        if b = true then tR K e σ2 H3 fun y H4 => ∃ acc, H4 Dd = some (.lst acc) ∧ acc.length < sizeLine ∧ Nx (upd H4 Dd (.lst (acc ++ [y]))) else Nx H3) := by
  obtain ⟨Gf, Rf, hf⟩ := Rel.cap cap R1
  have hst : (freezeCap cap s1).st = s1.st := freezeCap_st cap s1
  have Rb := Rf.block vs
  rw [hst] at Rb
  generalize hgb : g.hid (ownW (freezeCap cap s1).env σ H1) = gb at Rb
  have hKb : gb.K = K := by rw [← hgb]; exact hK
  have gr : Grow Gf H1 Gf (upd H1 Dd (.lst [])) := Grow.aside Rb.sub hD
  have F0 : Fresh gb Gf φ1 ⟨blkEnv vs (freezeCap cap s1).env, s1.st⟩ (wipe σ vs) (upd H1 Dd (.lst [])) Dd (.lst []) (.lst []) := Fresh.of_new Rb gr hD upd_same (Rb.sub.free hD) (.lst .nil)
  let benv := blkEnv vs (freezeCap cap s1).env
  refine ⟨fun i m H' => m = ds.length - i ∧ i ≤ ds.length ∧ ∃ Gc φc st accV accD, Rel gb Gc φc ⟨benv, st⟩ (wipe σ vs) H' ∧ Same Gf Gc ∧ φ1 <+: φc ∧ Fresh gb Gc φc ⟨benv, st⟩ (wipe σ vs) H' Dd (.lst accV) (.lst accD) ∧ accD.length ≤ i ∧
    ∃ more, evLcGo t c e benv (ds.drop i) st = some (more, st') ∧ acc = accD ++ more, ⟨ds.length, by simp, Nat.zero_le _, Gf, φ1, s1.st, [], [], Rb.grow gr, Same.refl _, List.prefix_refl _, F0, Nat.le_refl _, acc, hev, rfl⟩, ?_⟩
  rintro i m H' ⟨rfl, hi, Gc, φc, st, accV, accD, Rc, h3, h4, Fc, hal, more, hm, hacc⟩
  have ra : RepA gb.K φc Gc accV accD := by cases Fc.own with | lst r => exact r
  by_cases hlt : i < ds.length
  · refine .inr ⟨ok.go Gc φc H' (hf.trans h3) h4 Rc.sub i hlt, fun H2 => ∃ Gc φc st accV accD, Rel gb Gc φc ⟨benv, st⟩ (wipe σ vs) H2 ∧ Same Gf Gc ∧ φ1 <+: φc ∧ Fresh gb Gc φc ⟨benv, st⟩ (wipe σ vs) H2 Dd (.lst accV) (.lst accD) ∧ accD.length ≤ i + 1 ∧
      ∃ more, evLcGo t c e benv (ds.drop (i + 1)) st = some (more, st') ∧ acc = accD ++ more, fun H2 h => ⟨ds.length - (i + 1), by omega, rfl, hlt, h⟩, fun x H2 hy => ?_⟩
    obtain ⟨G2, gr2, rx⟩ := ok.yld Gc φc H' (hf.trans h3) h4 Rc.sub i ds[i] x H2 (List.getElem?_eq_getElem hlt) hy
    have R2 := Rc.grow gr2
    have F2 : Fresh gb G2 φc ⟨benv, st⟩ (wipe σ vs) H2 Dd (.lst accV) (.lst accD) := by
      refine ⟨gr2.hh _ _ Fc.at_, Fc.own.mono gr2.gg (List.prefix_refl _), ?_, Fc.fp, Fc.up, Fc.ph, Fc.sl⟩
      cases z : G2 Dd with
      | none => rfl
      | some u =>
        rcases gr2.new Dd u z with z | z
        · rw [Fc.gp] at z; cases z
        · rw [Fc.at_] at z; cases z
    have Rp := R2.pend F2
    rw [List.drop_eq_getElem_cons hlt] at hm
    obtain ⟨s2, e2, hm⟩ := bind_some_iff hm
    obtain ⟨⟨p1, p2⟩, e3, hm⟩ := bind_some_iff hm
    refine ⟨gb.hid (one Dd (.lst accV)), G2, φc, ⟨benv, st⟩, _, s2, hKb, Rp, (show Rep gb.K φc G2 x ds[i] from (by rw [hKb, ← hK]; exact rx)), e2, fun G3 φ3 σ3 H3 R3 h5 h6 w3 => ⟨w3.trans ?_, ?_⟩⟩
    · exact List.ext_getElem? fun j => by
        rw [wipe_get, wipe_length]
        by_cases hj : j ∈ vs ∧ j < σ.length
        · rw [if_pos hj, wipe_get, if_pos hj]
        · rw [if_neg hj]
    refine ⟨gb.hid (one Dd (.lst accV)), G3, φ3, s2, p1, p2, hKb, R3, e3, fun G4 φ4 H4 R4 h7 h8 => ?_⟩
    have S24 : Same G2 G4 := h5.trans h7
    have P24 : φc <+: φ4 := h6.trans h8
    have fin : ∀ {G5 : Hp} {φ5 : List Addr} {s5 : Sg} {σ5 : St} {H5 : Hp}, Rel (gb.hid (one Dd (.lst accV))) G5 φ5 s5 σ5 H5 → Same G2 G5 → φc <+: φ5 →
        Rel gb G5 φ5 ⟨benv, s5.st⟩ (wipe σ vs) H5 ∧ Fresh gb G5 φ5 ⟨benv, s5.st⟩ (wipe σ vs) H5 Dd (.lst accV) (.lst accD) := fun {G5 φ5 s5 σ5 H5} R5 a b => by
      obtain ⟨Rb5, Fb5⟩ := R2.back F2 R5 a b
      have noown : ∀ (k : Nat) d, benv[k]? = some (Slot.own d) → False := fun k d q => (blkEnv_get q).1 d rfl
      refine ⟨⟨Rb5.sub, Rb5.g0, Rb5.new, Rb5.old, Rb5.use, Rb5.zed, Rb5.pre, R2.len, fun k d q => ?_, fun k d q => (noown k d q).elim, fun k l d _ p _ q => (noown k d q).elim, Rb5.clen, Rb5.cell, Rb5.nd⟩, ⟨Fb5.at_, Fb5.own, Fb5.gp, Fb5.fp, Fb5.up, Fb5.ph, fun k d q => (noown k d q).elim⟩⟩
      obtain ⟨v, q1, q2⟩ := R2.fro k d q
      exact ⟨v, q1, q2.mono a b⟩
    cases p1 with
    | false =>
      refine L2.iteF ?_
      have hm : (if false = true then _ else _) = _ := hm
      rw [if_neg Bool.false_ne_true] at hm
      obtain ⟨Rz, Fz⟩ := fin R4 S24 P24
      exact ⟨G4, φ4, p2.st, accV, accD, Rz, (h3.trans gr2.gg).trans S24, h4.trans P24, Fz, by omega, more, hm, hacc⟩
    | true =>
      refine L2.iteT ?_
      have hm : (if true = true then _ else _) = _ := hm
      rw [if_pos rfl] at hm
      obtain ⟨⟨r1, r2⟩, e4, hm⟩ := bind_some_iff hm
      obtain ⟨⟨m1, m2⟩, e5, hm⟩ := map_some_iff hm
      cases hm
      refine ⟨gb.hid (one Dd (.lst accV)), G4, φ4, p2, r1, r2, hKb, R4, e4, fun G5 φ5 H5 v R5 h9 h10 y => ?_⟩
      obtain ⟨G6, R6, h11, ry⟩ := y.froz R5
      have S26 : Same G2 G6 := (S24.trans h9).trans h11
      have P25 : φc <+: φ5 := P24.trans h10
      obtain ⟨Rz, Fz⟩ := fin R6 S26 P25
      have hle : accV.length < sizeLine := by
        have := million
        rw [ra.length]
        omega
      refine ⟨accV, Fz.at_, hle, ?_⟩
      have ra2 : RepA gb.K φ5 G6 (accV ++ [v]) (accD ++ [r1.d]) := (ra.mono (gr2.gg.trans S26) P25).append (.cons ry .nil)
      obtain ⟨Ry, Fy⟩ := Rz.setPend Fz (o' := .lst (accV ++ [v])) (d' := .lst (accD ++ [r1.d])) (.lst ra2)
      exact ⟨G6, φ5, r2.st, accV ++ [v], accD ++ [r1.d], Ry, (h3.trans gr2.gg).trans S26, h4.trans P25, Fy, by rw [List.length_append]; show accD.length + 1 ≤ _; omega, m1, e5, by rw [hacc, List.append_assoc]; rfl⟩
  · have ei : i = ds.length := by omega
    subst ei
    rw [List.drop_length] at hm
    cases hm
    rw [List.append_nil] at hacc
    refine .inl ⟨ok.stop Gc φc H' (hf.trans h3) h4 Rc.sub, ?_⟩
    subst hgb
    have Ru := Rf.unblock Rc h3 h4
    have Fu := Fc.unblock Rf
    rw [hacc] at q
    exact q Gc φc H' _ Ru (hf.trans h3) h4 (.own Fu)
section
variable {X : Cx} {elt tg iter : Expr} {ifs : List Expr} {scope : Scope} {own : List (Str × Nat)} {pos : Pos} {it : Ev (List D)} {t : Tgt} {c : Ev Bool} {e : Ev RV}
theorem lc_all {K : PySem.W.Frag} {cap vs : List Nat} {σ : St} {H : Hp} {Q : VK} (h : tR K (evLc it cap vs t c e) σ H Q) : tLc (tI K it) (tG K vs t) (tT K c) (tR K e) vs σ H Q := by
  obtain ⟨g, G, φ, s, r, s', hK, R, he, q⟩ := h
  obtain ⟨⟨ds, s1⟩, e1, he⟩ := bind_some_iff he
  split at he
  · rename_i hsz
    obtain ⟨⟨acc, st'⟩, e2, he⟩ := map_some_iff he
    cases he
    refine ⟨g, G, φ, s, ds, s1, hK, R, e1, fun J G1 φ1 H1 R1 h1 h2 ok Dd hD => ?_⟩
    exact lc_tail hK R1 ok hsz e2 (fun G' φ' H' v R' a b x => q G' φ' H' v R' (h1.trans a) (h2.trans b) x) Dd hD
  · cases he
theorem sr_lc (cap : List Nat) (own : List (Str × Nat)) (hc : X.calm = true) (hN : X.N.Nodup) (hi : SI X tg iter it) (ok : BlkOk X.N X.env.scope scope own)
    (hg : ∀ (s : Shared) (H : Hp) (C : Addr) (cl : List (Str × Addr)) (fp : List Addr), SG (X.blk s H scope (compEnvC scope cl C X.env) fp) (own.map (·.2)) tg t) (ht : ∀ (s : Shared) (H : Hp) (C : Addr) (cl : List (Str × Addr)) (fp : List Addr), STs (X.blk s H scope (compEnvC scope cl C X.env) fp) ifs c)
    (he : ∀ (s : Shared) (H : Hp) (C : Addr) (cl : List (Str × Addr)) (fp : List Addr), SR (X.blk s H scope (compEnvC scope cl C X.env) fp) elt e) (hs : ∀ x, foldedSetIterable iter X.env x = pure x := by intro _; rfl) :
    SR X (.ListComp elt [⟨tg, iter, ifs, 0⟩] scope pos) (evLc it cap (own.map (·.2)) t c e) := pe_imp (pe_lc (own := own) (g := tG X.K (own.map (fun x : Str × Nat => x.2)) t) (tt := tT X.K c) (te := tR X.K e) hc hN hi ok hg ht he hs) fun _ _ _ h => lc_all h
/-- name = [..] on one line -/
theorem ss_setLc (cap : List Nat) (own : List (Str × Nat)) {i : Nat} {y : Str} {py spos : Pos} (hc : X.calm = true) (hN : X.N.Nodup) (hsw : swapsWith (.ListComp elt [⟨tg, iter, ifs, 0⟩] scope pos) (some (.Name y py)) spos.line X.env = pure true) (hi : SI X tg iter it) (ok : BlkOk X.N X.env.scope scope own)
    (hg : ∀ (s : Shared) (H : Hp) (C : Addr) (cl : List (Str × Addr)) (fp : List Addr), SG (X.blk s H scope (compEnvC scope cl C X.env) fp) (own.map (·.2)) tg t) (ht : ∀ (s : Shared) (H : Hp) (C : Addr) (cl : List (Str × Addr)) (fp : List Addr), STs (X.blk s H scope (compEnvC scope cl C X.env) fp) ifs c)
    (he : ∀ (s : Shared) (H : Hp) (C : Addr) (cl : List (Str × Addr)) (fp : List Addr), SR (X.blk s H scope (compEnvC scope cl C X.env) fp) elt e) (hs : ∀ x, foldedSetIterable iter X.env x = pure x := by intro _; rfl) (hy : X.N[i]? = some y := by rfl) (hyl : X.env.scope.names.lookup y = some .local := by rfl) :
    SS X (.Assign [.Name y py] (.ListComp elt [⟨tg, iter, ifs, 0⟩] scope pos) spos) (evSet i (evLc it cap (own.map (·.2)) t c e)) := ps_imp (ps_setLc (own := own) (g := tG X.K (own.map (fun x : Str × Nat => x.2)) t) (tt := tT X.K c) (te := tR X.K e) hc hN hy hyl hsw hi ok hg ht he hs) fun E σ H ⟨g, G, φ, s, o, s', hK, R, he, q⟩ => by
  obtain ⟨⟨p1, p2⟩, e1, he⟩ := map_some_iff he
  cases he
  exact lc_all ⟨g, G, φ, s, p1, p2, hK, R, e1, fun G' φ' H' v R' h1 h2 x => q G' φ' _ H' (R'.store i x) h1 h2⟩
end
end Pv

namespace Pv
open PySem PySem.Spec L2

structure RoomG (k : Nat) (A : Around) : Prop where
  room : Room k A
  gd : A.guards = some []
theorem RoomG.mono {j k : Nat} {A : Around} (r : RoomG k A) (h : j ≤ k) : RoomG j A := ⟨r.room.mono h, r.gd⟩
theorem RoomG.deeper {k : Nat} {A : Around} (r : RoomG (k + 1) A) (env : Env) : RoomG k (A.deeper env) := ⟨r.room.deeper env, r.gd⟩
structure FnG (P : Program) (w : World) (K : PySem.W.Frag) (mg : Str → Option Value) (base : Heap) (CX : CXT) (k : Nat) (f : Addr) (fd : FuncData) (ps : List Str) (sp : Sp) : Prop where
  len : ∀ vs H Q E, sp vs H Q E → vs.length = ps.length
  run : ∀ (A : Around) (outer : List Env) (s : Shared) (H : Hp) (args : Args) (us : List Value) (vs : List V) (Q : VK) (E : XK), RoomG k A → Env0 P w K mg base A outer s H → BindsTo s fd args (ps.zip us) → Vals vs us → sp vs H Q E →
    codeAny (model P w) A (.call (.ref f) args) (CR CX outer P w H s Q E) s
theorem FnG.mono {P : Program} {w : World} {K : PySem.W.Frag} {mg : Str → Option Value} {base : Heap} {CX : CXT} {j k : Nat} {f : Addr} {fd : FuncData} {ps : List Str} {sp : Sp} (F : FnG P w K mg base CX j f fd ps sp) (h : j ≤ k) :
    FnG P w K mg base CX k f fd ps sp := ⟨F.len, fun A outer s H args us vs Q E hr => F.run A outer s H args us vs Q E (hr.mono h)⟩
theorem FnG.imp {P : Program} {w : World} {K : PySem.W.Frag} {mg : Str → Option Value} {base : Heap} {CX : CXT} {k : Nat} {f : Addr} {fd : FuncData} {ps : List Str} {sp sp' : Sp} (F : FnG P w K mg base CX k f fd ps sp)
    (h : ∀ vs H Q E, sp' vs H Q E → sp vs H Q E) : FnG P w K mg base CX k f fd ps sp' :=
  ⟨fun vs H Q E q => F.len vs H Q E (h _ _ _ _ q), fun A outer s H args us vs Q E hr he hb hv hs => F.run A outer s H args us vs Q E hr he hb hv (h _ _ _ _ hs)⟩
section
variable {X : Cx} {CX : CXT} {k : Nat} {f : Addr} {fd : FuncData} {ps : List Str} {sp : Sp} {E : XK}
theorem FnG.called {pins : List (Addr × Obj)} {σ : L2.St} {H : Hp} {s : Shared} {Q : VK} {us : List Value} {vs : List V} (F : FnG X.prog X.w X.K X.mg X.base CX k f fd ps sp) (room : RoomG k X.A) (bd : Binds X.K fd ps []) (hx : Passes CX X E)
    (I : Inv X pins σ H s) (r : Vals vs us) (h : sp vs H Q E) : wpAny (model X.prog X.w) X.A (PySem.call (.ref f) us) (EP X pins σ Q) X.xe s := by
  have bt : BindsTo s fd ⟨us, []⟩ (ps.zip us) := by
    have len : (us ++ []).length = ps.length := by rw [List.append_nil, ← r.length]; exact F.len _ _ _ _ h
    have b := bd s us I.kIn len
    rwa [List.append_nil] at b
  have run := F.run X.A X.stack s H _ us vs Q E room I.env0 bt r h
  refine wpAny_call (codeAny_mono run fun r' s' cr => ?_)
  rcases r' with err | fl
  · exact hx pins σ H s err s' I cr
  · cases fl <;> first | exact I.after cr | exact False.elim cr
/-- f(e, ..) -/
theorem pe_callG {x : Str} {p pos : Pos} {e : Expr} {es : List Expr} {t : TA} (F : FnG X.prog X.w X.K X.mg X.base CX k f fd ps sp) (room : RoomG k X.A) (glob : Gl X x) (is : X.mg x = some (.ref f)) (kp : PySem.W.keepIn X.K (.ref f) = true) (bd : Binds X.K fd ps []) (hx : Passes CX X E)
    (args : PA X (e :: es) t) (hdb : (x == ("__debug__" : Str)) = false := by decide) (he : starEach (e :: es) X.env = (false, eval e X.env) :: starEach es X.env := by rfl) (hpl : (backTo pos (starEach es X.env)).any (·.1) = false := by rfl) :
    PE X (.Call (.Name x p) (e :: es) [] pos) fun σ H Q => t σ H fun vs H1 => sp vs H1 Q E :=
  ⟨fun pins s σ H Q I h => wpAny_Call_Name_kw (ld_glob I glob is (PySem.W.callWith_K (h₀ := X.base) I.ok.mod.kin kp (thn (args.run pos pins s σ H _ I h) fun us s1 ⟨vs, H1, I1, rv, q⟩ => ⟨I1.kIn, F.called room bd hx I1 rv q⟩) he hpl) hdb)⟩
end
/-- THE RULE: a def by its body, run where no repr is under way -/
theorem FnG.of_body {P : Program} {w : World} {K : PySem.W.Frag} {mg : Str → Option Value} {base : Heap} {x qual : Str} {st : Stmt} {f : Addr} {fd : FuncData} {N ps : List Str} {k : Nat} {sp : Sp} (F : Fun K x qual st f fd) (S : FnScope N ps (defScope st)) (len : ∀ vs H Q E, sp vs H Q E → vs.length = ps.length)
    (body : ∀ (cdv : Value) (A : Around) (outer : List Env) (s : Shared) (H : Hp) (vs : List V) (Q : VK) (E : XK), RoomG k (A.deeper (PyProof.Rows.envOfC qual (defScope st) s.heap.objs.size f cdv)) → sp vs H Q E →
      ∃ t, PSs (cxOf CX0 P w K mg base N qual (defScope st) f cdv A outer s H E).nox (defBody st) t ∧ t { nx := fun _ H' => Q .non H', rt := Q } (L2.start N vs) H) : FnG P w K mg base CX0 (k + 1) f fd ps sp := by
  obtain ⟨_, _, _, _, _, _, cdv, _, _, rfl, lk, code⟩ := F.ex
  refine ⟨len, fun A outer s H args us vs Q E room e0 bt rv hs => ?_⟩
  have kept : ∀ b o, base.get? b = some o → s.heap.get? b = some o := fun b o e => (e0.bs b o e).1
  have KX := e0.mod.kin.keeps kept
  have kinds : ∀ y ∈ ps.zip us, (defScope st).names.lookup y.1 = some .local ∨ ((defScope st).names.lookup y.1 = some .cell ∧ ((cellsFrom (s.heap.objs.size + 1) (defScope st).names []).lookup y.1).isSome = true) := fun y hy =>
    (S.par y.1 (List.of_mem_zip hy).1).imp id fun q => ⟨q, PySem.W.cellsFrom_some _ _ _ (.inl q)⟩
  refine codeAny_call_function room.room.depth (KX _ _ lk) rfl S.co S.gen rfl (PySem.W.codeRec_of KX code) (bt _ _ _ _ (wpAny_newFunctionEnv_cells S.kind kinds fun env he s1 born => ?_))
  cases he
  obtain ⟨t, term, read⟩ := body cdv A outer s H vs Q E (room.deeper _) hs
  have J := inv_start (CX := CX0) (E := E) S room.room.hd e0 (len _ _ _ _ hs) rv born
  refine ⟨(e0.mod.nolimit.keeps kept).keeps born.toInCall.keep, codeAny_func (wpAny_mono (term.nox.run [] s1 _ H _ J read) (fun fl s' h => ?_) fun _ _ h => h)⟩
  cases fl with
  | ret u => obtain ⟨v, _, H', B, rv, q⟩ := h; exact ⟨v, H', B.os, B.bare, B.base, B.hok, rv, q⟩
  | next => obtain ⟨_, H', B, q⟩ := h; exact ⟨V.non, H', B.os, B.bare, B.base, B.hok, rfl, q⟩
  | brk => exact h.elim fun _ h => h.elim fun _ h => h.2.elim
  | cont => exact h.elim fun _ h => h.elim fun _ h => h.2.elim
/-- the script alone is tracked, or nothing -/
structure Alone (H : Hp) (a : Addr) (vs : List Value) (ns : List Int) : Prop where
  only : ∀ b u, H b = some u → b = a ∧ u = .frz { cls := .type "list", data := .seq vs.toArray } (.lst (ns.map V.int))
theorem Alone.env {P : Program} {w : World} {K : PySem.W.Frag} {mg mb : Str → Option Value} {H : Hp} {a : Addr} {vs : List Value} {ns : List Int} {s : Shared} (al : Alone H a vs ns) (ha : s.heap.get? a = some { cls := .type "list", data := .seq vs.toArray })
    (iv : PyProof.Rows.IntsAre vs ns) (hl : ns.length ≤ sizeLine) (KX : K.In s.heap) (apart : ∀ o, K.lookup a = some o → H a = none) (hns : s.heap.Ns mainGlobals mg) (hb : s.heap.Ns builtinsNs mb) (hbb : ∀ x : Str, x ≠ "__name__" → mb x = bootBuiltins x) (hlim : s.heap.NoLimit) (hg : s.gens = #[]) :
    Env0 P w K mg (hidT s.heap H) callerA [] s H ∧ HOk P w H s.heap := by
  have hok : HOk P w H s.heap := fun b u e => by
    obtain ⟨rfl, rfl⟩ := al.only b u e
    exact ⟨ha, by rw [List.length_map]; exact hl, vs, _, L2.vals_ints iv, ha⟩
  have free : ∀ {b : Addr} {o : Obj}, s.heap.get? b = some o → (∀ n, o.data ≠ .seq vs.toArray n) → H b = none := fun {b o} e d => by
    cases q : H b with
    | none => rfl
    | some u =>
      obtain ⟨rfl, _⟩ := al.only b u q
      rw [ha] at e
      cases e
      exact absurd rfl (d _)
  have dict : ∀ {b : Addr} {m : Str → Option Value}, s.heap.Ns b m → (hidT s.heap H).Ns b m := fun {b m} ⟨o, es, ep, e, d, r⟩ => ⟨o, es, ep, hidT_get e (free e fun n z => by rw [d] at z; cases z), d, r⟩
  have kin : K.In (hidT s.heap H) := fun b o e => hidT_get (KX b o e) (by
    cases q : H b with
    | none => rfl
    | some u =>
      obtain ⟨rfl, _⟩ := al.only b u q
      rw [apart o e] at q
      cases q)
  obtain ⟨mc, c1, c2⟩ := hlim
  exact ⟨⟨rfl, ⟨kin, dict hns, ⟨mb, dict hb, hbb⟩, ⟨mc, dict c1, c2⟩⟩, fun _ _ e => of_hidT e, Nat.le_of_eq (hidT_size _ _), trivial, fun b z => (by cases z), hok, PyProof.Rows.AllBare.of_eq hg⟩, hok⟩
theorem Alone.old {P : Program} {w : World} {H H' : Hp} {a : Addr} {vs : List Value} {ns : List Int} {s s' : Shared} (al : Alone H a vs ns) (ok : HOk P w H s.heap) (ok' : HOk P w H' s'.heap) (un : Un (frs []) [] H H' s.heap s'.heap) : OldK s.heap s'.heap :=
  OldK.of_keep fun b o e => by
    cases q : H b with
    | none => exact un.keep b o e q (fun z => by cases z) (fun z => by cases z)
    | some u =>
      obtain ⟨_, rfl⟩ := al.only b u q
      have before := (ok b _ q).1
      have behind := (ok' b _ (un.frzs b _ _ q)).1
      rw [before] at e
      cases e
      exact behind
theorem walk_ofG {l : PySem.W.OpenLaw} {n k : Nat} {q : Program} {loose : List Str} {XP : (Str → Option Value) → Heap → Prop} {YP : World → Heap → Prop} {d : DefRec} {K : Params → PySem.W.Frag} {sp : World → Sp} {x : Str}
    (hn : l.most = some n) (hn2 : n ≤ sizeLine) (hdf : d.params.defaults = []) (room : RoomG k callerA) (hY : ∀ (w : World) (h : Heap), YP w h → (K w.params).In h)
    (F : ∀ (w : World) (mg : Str → Option Value) (fa : Addr) (h : Heap), (K w.params).In h → h.Ns mainGlobals mg → mg d.name = some (.ref fa) →
      ∃ fd : FuncData, (∀ (s : Shared) (u : Value), BindsTo s fd ⟨[u], []⟩ [(x, u)]) ∧ ∀ base : Heap, (K w.params).In base → base.Ns mainGlobals mg → FnG l.prog w (K w.params) mg base CX0 k fa fd [x] (sp w))
    (hsp : ∀ (w : World) (H : Hp) (a : Addr) (ns : List Int), ns.length ≤ n → (∀ z ∈ ns, Builtin.Int.intBits z ≤ 1048576) → SqL (K w.params) H a (ns.map V.int) → sp w [.ref a] H (fun v _ => v = .bl true) fun _ _ _ => False) :
    PySem.W.WalkO q loose XP YP l.row.toRowW d [] (fun f vs => PySem.call f vs) := by
  refine Att.attach_callB hn hdf fun w s₀ s mg mb fa o pm cd doc a vs ns G Y ho hd hcd hmg ha iv hlen bits hg => ?_
  have KX := hY w _ Y
  obtain ⟨fd, bind, prom⟩ := F w mg fa _ KX G.T.g hmg
  have hl : ns.length ≤ sizeLine := Nat.le_trans hlen hn2
  have fin : ∀ H : Hp, Alone H a vs ns → SqL (K w.params) H a (ns.map V.int) → (∀ o, (K w.params).lookup a = some o → H a = none) →
      codeAny (model l.prog w) callerA (.call (.ref fa) ⟨[.ref a], []⟩) (fun r s' => r = .ok (.ret (.bool true)) ∧ OldK s.heap s'.heap ∧ s'.os = s.os ∧ PyProof.Rows.AllBare s'.gens) s := by
    intro H al ex apart
    obtain ⟨e0, ok⟩ := al.env (P := l.prog) (w := w) ha iv hl KX apart G.T.g G.T.b G.T.builtins G.T.nolimit hg
    have run := (prom _ e0.mod.kin e0.mod.glob).run callerA [] s H ⟨[.ref a], []⟩ [.ref a] [.ref a] _ _ room e0 (bind s (.ref a)) (.cons rfl .nil) (hsp w H a ns hlen bits ex)
    refine codeAny_mono run fun r s' h => ?_
    match r, h with
    | .error _, h => exact False.elim h
    | .ok .next, h => exact False.elim h
    | .ok .brk, h => exact False.elim h
    | .ok .cont, h => exact False.elim h
    | .ok (.ret u), ⟨v, H', os, bare, un, ok', rv, hv⟩ =>
      cases (show v = .bl true from hv)
      cases (show u = Value.bool true from rv)
      exact ⟨rfl, al.old ok ok' un, os, bare⟩
  cases hk : (K w.params).lookup a with
  | some o =>
    have e := KX a o hk
    rw [ha] at e
    cases e
    exact fin (fun _ => none) ⟨fun b u z => by cases z⟩ (.inr ⟨_, vs.toArray, _, hk, rfl, rfl, rfl, by rw [List.size_toArray, iv.length]; exact hl, by simpa using L2.vals_ints iv⟩) fun _ _ => rfl
  | none =>
    refine fin (upd (fun _ => none) a (.frz { cls := .type "list", data := .seq vs.toArray } (.lst (ns.map V.int)))) ⟨fun b u z => ?_⟩ (.inl (.inr ⟨_, upd_same⟩)) fun o z => by rw [hk] at z; cases z
    by_cases e : b = a
    · subst e; rw [upd_same] at z; cases z; exact ⟨rfl, rfl⟩
    · rw [upd_ne e] at z; cases z

/-- the cells, as a callee sees them -/
structure CellsOk (K : PySem.W.Frag) (G : Hp) (φ : List Addr) (st : List Cell) (H : Hp) : Prop where
  len : st.length = φ.length
  nd : φ.Nodup
  at_ : ∀ (n : Nat) a c, φ[n]? = some a → st[n]? = some c → ∃ o, H a = some o ∧ CellAt K φ G o c ∧ G a = none
inductive FRes (K : PySem.W.Frag) (φ : List Addr) (H G' H' : Hp) : V → RV → Prop
  | fro {v d} : Rep K φ G' v d → FRes K φ H G' H' v (.fro d)
  | own {p o d} : H p = none → H' p = some o → G' p = none → p ∉ φ → Own K φ G' o d → FRes K φ H G' H' (.ref p) (.own d)
abbrev Fm := List D → List Cell → Option (RV × List Cell)
/-- a def's promise: what it answers, by trees -/
def spF (K : PySem.W.Frag) (n : Nat) (m : Fm) : Sp := fun vs H Q _ => ∃ G φ ds st r st', Same G H ∧ CellsOk K G φ st H ∧ RepA K φ G vs ds ∧ ds.length = n ∧ m ds st = some (r, st') ∧
  ∀ G' φ' H' v, Same G G' → Same G' H' → φ <+: φ' → (∀ a o, H a = some o → a ∉ φ → H' a = some o) → (∀ a, H a ≠ none → H' a ≠ none) → (∀ a o, G' a = some o → G a = some o ∨ H a = none) → (∀ a, a ∈ φ' → a ∈ φ ∨ H a = none) →
    CellsOk K G' φ' st' H' → FRes K φ' H G' H' v r → Q v H'
def evCall (m : Fm) (a : Ev (List D)) : Ev RV := fun s => (a s).bind fun p => (m p.1 p.2.st).map fun q => (q.1, { p.2 with st := q.2 })
theorem call_core {K : PySem.W.Frag} {n : Nat} {m : Fm} {E : XK} {ta : Ev (List D)} {σ : St} {H : Hp} {Q : VK} (hn : ∀ ds st r, m ds st = some r → ds.length = n) (h : tR K (evCall m ta) σ H Q) : tAs K ta σ H fun vs H1 => spF K n m vs H1 Q E := by
  obtain ⟨g, G, φ, s, r, s', hK, R, he, q⟩ := h
  obtain ⟨⟨ds, s1⟩, e1, he⟩ := bind_some_iff he
  obtain ⟨⟨r1, st1⟩, e2, he⟩ := map_some_iff he
  cases he
  refine ⟨g, G, φ, s, ds, s1, hK, R, e1, fun G1 φ1 H1 vs R1 h1 h2 ra => ?_⟩
  refine ⟨G1, φ1, ds, s1.st, r1, st1, R1.sub, ⟨R1.clen, R1.nd, fun k a c a1 a2 => ?_⟩, hK ▸ ra, hn _ _ _ e2, e2, fun G' φ' H' v b1 b2 b3 b4 b4u b5 b6 b7 b8 => ?_⟩
  · obtain ⟨o, c1, c2, c3, _⟩ := R1.cell k a c a1 a2
    exact ⟨o, c1, hK ▸ c2, c3⟩
  have gn : ∀ p, G1 p = none → H1 p ≠ none → G' p = none := fun p x1 x2 => by
    cases z : G' p with
    | none => rfl
    | some u =>
      rcases b5 p u z with z | z
      · rw [x1] at z; cases z
      · exact absurd z x2
  have R' : Rel g G' φ' { s1 with st := st1 } σ H' := by
    refine ⟨b2, R1.g0.trans b1, fun a o e => ?_, fun a o e => ?_, fun a u => b4u a (R1.use a u), fun a z => ⟨gn a (R1.zed a z).1 ?_, (R1.zed a z).2⟩, R1.pre.trans b3, R1.len, fun i d e => ?_, fun i d e => ?_, R1.sep, b7.len, fun k a c a1 a2 => ?_, b7.nd⟩
    · rcases b5 a o e with e | e
      · exact R1.new a o e
      · exact .inr fun u => R1.use a u e
    · refine b4 a o (R1.old a o e) fun hm => ?_
      obtain ⟨k, hk⟩ := List.getElem?_of_mem hm
      have hl : k < s1.st.length := by rw [R1.clen]; exact (List.getElem?_eq_some_iff.mp hk).1
      obtain ⟨_, _, _, _, z, _⟩ := R1.cell k a _ hk (List.getElem?_eq_getElem hl)
      rw [z] at e; cases e
    · intro z'
      cases y : g.F a with
      | none => exact (R1.zed a z).2 y
      | some o => rw [R1.old a o y] at z'; cases z'
    · obtain ⟨v, c1, c2⟩ := R1.fro i d e
      exact ⟨v, c1, c2.mono b1 b3⟩
    · obtain ⟨p, o, c1, c2, c3, c4, c5, c6, c7⟩ := R1.own i d e
      refine ⟨p, o, c1, b4 p o c2 c7, c3.mono b1 b3, gn p c4 (by rw [c2]; simp), c5, c6, fun hm => ?_⟩
      rcases b6 p hm with z | z
      · exact c7 z
      · rw [c2] at z; cases z
    · obtain ⟨o, c1, c2, c3⟩ := b7.at_ k a c a1 a2
      refine ⟨o, c1, hK ▸ c2, c3, ?_⟩
      rcases b6 a (List.mem_of_getElem? a1) with z | z
      · obtain ⟨j, hj⟩ := List.getElem?_of_mem z
        have hl : j < s1.st.length := by rw [R1.clen]; exact (List.getElem?_eq_some_iff.mp hj).1
        obtain ⟨_, _, _, _, y1, y2⟩ := R1.cell j a _ hj (List.getElem?_eq_getElem hl)
        exact ⟨y1, y2⟩
      · exact ⟨R1.old.free z, .inr fun u => R1.use a u z⟩
  refine q G' φ' H' v R' (h1.trans b1) (h2.trans b3) ?_
  cases b8 with
  | fro rp => exact .fro (hK ▸ rp)
  | own c1 c2 c3 c4 c5 =>
    refine .own ⟨c2, hK ▸ c5, c3, R1.old.free c1, fun u => R1.use _ u c1, c4, fun i e x1 x2 => ?_⟩
    obtain ⟨p', o', y1, y2, _⟩ := R1.own i e x1
    rw [x2] at y1
    cases y1
    rw [c1] at y2
    cases y2
theorem sr_call {X : Cx} {k n : Nat} {f : Addr} {fd : FuncData} {ps : List Str} {m : Fm} {x : Str} {p pos : Pos} {e : Expr} {es : List Expr} {ta : Ev (List D)}
    (F : FnG X.prog X.w X.K X.mg X.base CX0 k f fd ps (spF X.K n m)) (hr : RoomG k X.A) (hg : Gl X x) (hm : X.mg x = some (.ref f)) (hk : PySem.W.keepIn X.K (.ref f) = true) (hb : Binds X.K fd ps [])
    (hn : ∀ ds st r, m ds st = some r → ds.length = n) (ha : SA X (e :: es) ta) (hdb : (x == ("__debug__" : Str)) = false := by decide) (he : starEach (e :: es) X.env = (false, eval e X.env) :: starEach es X.env := by rfl) (hpl : (backTo pos (starEach es X.env)).any (·.1) = false := by rfl) :
    SR X (.Call (.Name x p) (e :: es) [] pos) (evCall m ta) := pe_imp (pe_callG F hr hg hm hk hb pass0 ha hdb he hpl) fun _ _ _ h => call_core hn h

def fnM (N P : Nat) (ev : Ev Out) : Fm := fun ds st => if ds.length = P then match ev ⟨ds.map Slot.fro ++ List.replicate (N - ds.length) Slot.non, st⟩ with
    | some (.rt r, s') => some (r, s'.st)
    | some (.nx, s') => some (.fro .non, s'.st)
    | _ => none
  else none
theorem fnM_len {N P : Nat} {ev : Ev Out} {ds : List D} {st : List Cell} {r : RV × List Cell} (h : fnM N P ev ds st = some r) : ds.length = P := by
  unfold fnM at h
  split at h
  · assumption
  · cases h
theorem start_rel {K : PySem.W.Frag} {G : Hp} {φ : List Addr} {st : List Cell} {H : Hp} {N : List Str} {vs : List V} {ds : List D} (sub : Same G H) (C : CellsOk K G φ st H) (ra : RepA K φ G vs ds) :
    Rel ⟨K, fun a => if a ∈ φ then none else H a, fun a => H a ≠ none, fun _ => False, G, φ⟩ G φ ⟨ds.map Slot.fro ++ List.replicate (N.length - ds.length) Slot.non, st⟩ (L2.start N vs) H := by
  have hl := ra.length
  have gf : ∀ {i : Nat} {d : D}, (ds.map Slot.fro ++ List.replicate (N.length - ds.length) Slot.non)[i]? = some (.fro d) → ds[i]? = some d := fun {i d} e => by
    by_cases h : i < ds.length
    · rw [List.getElem?_append_left (by simpa using h), List.getElem?_map, List.getElem?_eq_getElem h] at e
      cases e
      exact List.getElem?_eq_getElem h
    · rw [List.getElem?_append_right (by simpa using h), List.getElem?_replicate] at e
      split at e <;> cases e
  have gown : ∀ {i : Nat} {d : D}, (ds.map Slot.fro ++ List.replicate (N.length - ds.length) Slot.non)[i]? = some (.own d) → False := fun {i d} e => by
    by_cases h : i < ds.length
    · rw [List.getElem?_append_left (by simpa using h), List.getElem?_map, List.getElem?_eq_getElem h] at e
      cases e
    · rw [List.getElem?_append_right (by simpa using h), List.getElem?_replicate] at e
      split at e <;> cases e
  refine ⟨sub, Same.refl _, fun a o e => .inl e, fun a o e => ?_, fun a u => u, fun a z => z.elim, List.prefix_refl _, ?_, fun i d e => ?_, fun i d e => (gown e).elim, fun i j d e p _ h => (gown h).elim, C.len, fun n a c e1 e2 => ?_, C.nd⟩
  · have e : (if a ∈ φ then none else H a) = some o := e
    split at e
    · cases e
    · exact e
  · show (ds.map Slot.fro ++ List.replicate (N.length - ds.length) Slot.non).length = (L2.start N vs).length
    unfold L2.start
    simp only [List.length_append, List.length_map, List.length_replicate, hl]
  · obtain ⟨v, h1, h2⟩ := ra.get (gf e)
    refine ⟨v, ?_, h2⟩
    unfold L2.start
    have hi : i < vs.length := (List.getElem?_eq_some_iff.mp h1).1
    rw [List.getElem?_append_left (by simpa using hi), List.getElem?_map, h1]
    rfl
  · obtain ⟨o, h1, h2, h3⟩ := C.at_ n a c e1 e2
    refine ⟨o, h1, h2, h3, ?_, .inl (List.mem_of_getElem? e1)⟩
    show (if a ∈ φ then none else H a) = none
    rw [if_pos (List.mem_of_getElem? e1)]
theorem end_rel {K : PySem.W.Frag} {G G' : Hp} {φ φ' : List Addr} {st : List Cell} {H H' : Hp} {s' : Sg} {σ' : St} (C : CellsOk K G φ st H) (sub : Same G H)
    (R : Rel ⟨K, fun a => if a ∈ φ then none else H a, fun a => H a ≠ none, fun _ => False, G, φ⟩ G' φ' s' σ' H') :
    Same G' H' ∧ (∀ a o, H a = some o → a ∉ φ → H' a = some o) ∧ (∀ a, H a ≠ none → H' a ≠ none) ∧ (∀ a o, G' a = some o → G a = some o ∨ H a = none) ∧ (∀ a, a ∈ φ' → a ∈ φ ∨ H a = none) ∧ CellsOk K G' φ' s'.st H' := by
  refine ⟨R.sub, fun a o e hn => R.old a o ?_, R.use, fun a o e => ?_, fun a hm => ?_, ⟨R.clen, R.nd, fun n a c e1 e2 => ?_⟩⟩
  · show (if a ∈ φ then none else H a) = some o
    rw [if_neg hn]; exact e
  · rcases R.new a o e with e | e
    · exact .inl e
    · exact .inr (Classical.byContradiction fun z => e z)
  · obtain ⟨n, hn⟩ := List.getElem?_of_mem hm
    have hl : n < s'.st.length := by rw [R.clen]; exact (List.getElem?_eq_some_iff.mp hn).1
    obtain ⟨_, _, _, _, _, z⟩ := R.cell n a _ hn (List.getElem?_eq_getElem hl)
    rcases z with z | z
    · exact .inl z
    · exact .inr (Classical.byContradiction fun y => z y)
  · obtain ⟨o, h1, h2, h3, _⟩ := R.cell n a c e1 e2
    exact ⟨o, h1, h2, h3⟩
/-- THE RULE for a def -/
theorem fn_ok {P : Program} {w : World} {K : PySem.W.Frag} {mg : Str → Option Value} {base : Heap} {x qual : Str} {st : Stmt} {f : Addr} {fd : FuncData} {N ps : List Str} {k : Nat} {ev : Ev Out} (F : Fun K x qual st f fd) (S : FnScope N ps (defScope st))
    (hbody : ∀ (cdv : Value) (A : Around) (outer : List Env) (s : Shared) (H : Hp) (E : XK), RoomG k (A.deeper (PyProof.Rows.envOfC qual (defScope st) s.heap.objs.size f cdv)) →
      SSs (cxOf CX0 P w K mg base N qual (defScope st) f cdv A outer s H E).nox (defBody st) ev) :
    FnG P w K mg base CX0 (k + 1) f fd ps (spF K ps.length (fnM N.length ps.length ev)) := by
  refine FnG.of_body F S (fun vs H Q E h => ?_) fun cdv A outer s H vs Q E hr h => ?_
  · obtain ⟨G, φ, ds, st, r, st', _, _, ra, hl, _⟩ := h
    exact ra.length.trans hl
  · obtain ⟨G, φ, ds, cs, r, st', sub, C, ra, hl, hm, q⟩ := h
    refine ⟨_, hbody cdv A outer s H E hr, ?_⟩
    unfold fnM at hm
    rw [if_pos hl] at hm
    have R := start_rel (N := N) sub C ra
    cases e : ev ⟨ds.map Slot.fro ++ List.replicate (N.length - ds.length) Slot.non, cs⟩ with
    | none => rw [e] at hm; cases hm
    | some y =>
      rw [e] at hm
      obtain ⟨o, s'⟩ := y
      cases o with
      | bk => cases hm
      | ct => cases hm
      | nx =>
        cases hm
        refine ⟨_, G, φ, _, .nx, s', rfl, R, e, fun G' φ' σ' H' R' h1 h2 => ?_⟩
        obtain ⟨a1, a2, a3, a4, a5, a6⟩ := end_rel C sub R'
        exact q G' φ' H' .non h1 a1 h2 a2 a3 a4 a5 a6 (.fro .non)
      | rt r' =>
        cases hm
        refine ⟨_, G, φ, _, .rt _, s', rfl, R, e, fun G' φ' σ' H' v R' h1 h2 x => ?_⟩
        obtain ⟨a1, a2, a3, a4, a5, a6⟩ := end_rel C sub R'
        refine q G' φ' H' v h1 a1 h2 a2 a3 a4 a5 a6 ?_
        cases x with
        | fro rp => exact .fro rp
        | own F =>
          refine .own ?_ F.at_ F.gp F.ph F.own
          exact Classical.byContradiction fun z => F.up z
/-- a promise by any function that agrees where it answers -/
theorem spF_imp {P : Program} {w : World} {K : PySem.W.Frag} {mg : Str → Option Value} {base : Heap} {k n : Nat} {f : Addr} {fd : FuncData} {ps : List Str} {m m' : Fm} (F : FnG P w K mg base CX0 k f fd ps (spF K n m))
    (h : ∀ ds st r, m' ds st = some r → m ds st = some r) : FnG P w K mg base CX0 k f fd ps (spF K n m') :=
  F.imp fun vs H Q E ⟨G, φ, ds, st, r, st', a, b, c, d, e, q⟩ => ⟨G, φ, ds, st, r, st', a, b, c, d, h _ _ _ e, q⟩

/-- the content of an own slot, or of the cell that a slot holds -/
def ownAt (s : Sg) (i : Nat) : Option D := match s.env[i]? with
  | some (.own d) => some d
  | some (.fro (.hd n)) => match s.st[n]? with
    | some (.d d) => some d
    | _ => none
  | _ => none
def setAt (s : Sg) (i : Nat) (d : D) : Sg := match s.env[i]? with
  | some (.own _) => { s with env := s.env.set i (.own d) }
  | some (.fro (.hd n)) => { s with st := s.st.set n (.d d) }
  | _ => s
theorem Rel.ownAt {g : Gh} {G : Hp} {φ : List Addr} {s : Sg} {σ : St} {H : Hp} {i : Nat} {d : D} (R : Rel g G φ s σ H) (h : ownAt s i = some d) :
    ∃ p o, σ[i]? = some (some (V.ref p)) ∧ H p = some o ∧ Own g.K φ G o d ∧ G p = none ∧ ∀ o' d', Own g.K φ G o' d' → Rel g G φ (setAt s i d') σ (upd H p o') := by
  unfold Pv.ownAt at h
  cases e : s.env[i]? with
  | none => rw [e] at h; cases h
  | some sl =>
    rw [e] at h
    cases sl with
    | non => cases h
    | own d0 =>
      cases h
      obtain ⟨p, o, b1, b2, b3, b4, b5, b6, b7⟩ := R.own i d e
      refine ⟨p, o, b1, b2, b3, b4, fun o' d' ow => ?_⟩
      unfold setAt
      rw [e]
      exact R.setOwn e b1 ow
    | fro x =>
      cases x with
      | hd n =>
        obtain ⟨w0, c1, c2⟩ := R.fro i _ e
        cases c2 with
        | hd ha =>
          have h : (match s.st[n]? with
            | some (.d d) => some d
            | _ => none) = some d := h
          cases e2 : s.st[n]? with
          | none => rw [e2] at h; cases h
          | some c =>
            rw [e2] at h
            cases c with
            | obj => cases h
            | d d0 =>
              cases h
              obtain ⟨o, b1, b2, b3, b4, b5⟩ := R.cell n _ _ ha e2
              cases b2 with
              | d b2 =>
                refine ⟨_, o, c1, b1, b2, b3, fun o' d' ow => ?_⟩
                unfold setAt
                rw [e]
                exact R.setCell ha e2 (.d ow)
      | _ => cases h
abbrev Mut1 := D → List D → Option (D × D)
/-- a method that changes its object: the new content, the answer -/
def rMut (K : PySem.W.Frag) (f : Mut1) : V → List V → Hp → VK → Prop := fun x vs H Q => ∃ φ G p o d ds d' r, x = .ref p ∧ H p = some o ∧ Own K φ G o d ∧ G p = none ∧ Same G H ∧ RepA K φ G vs ds ∧ f d ds = some (d', r) ∧
  ∀ o' v, Own K φ G o' d' → Rep K φ G v r → Q v (upd H p o')
def DMut (X : Cx) (id : String) (f : Mut1) : Prop := MtR X id (rMut X.K f)
def tyD (T : String) : D → Bool
  | .lst _ => T == "list"
  | .dct _ _ => T == "dict"
  | _ => false
theorem tyD_V {K : PySem.W.Frag} {φ : List Addr} {G H : Hp} {T : String} {p : Addr} {o : HO} {d : D} (h1 : H p = some o) (h2 : Own K φ G o d) (h : tyD T d = true) : tyV K T (.ref p) H := by
  cases h2 with
  | lst r => exact .inl ⟨by simpa [tyD] using h, _, SqL.of h1⟩
  | dK r => exact .inr (.inr (.inl ⟨by simpa [tyD] using h, .inl ⟨_, h1⟩⟩))
  | dT r => exact .inr (.inr (.inl ⟨by simpa [tyD] using h, .inr ⟨_, h1⟩⟩))
/-- x.m(..) where x is a name: an own slot or a cell -/
def evMut (T : String) (i : Nat) (f : Mut1) (a : Ev (List D)) : Ev RV := fun s => (ownAt s i).bind fun d0 => if tyD T d0 = true then (a s).bind fun p => (ownAt p.2 i).bind fun d => (f d p.1).map fun r => (.fro r.2, setAt p.2 i r.1) else none
theorem mut_core {K : PySem.W.Frag} {T : String} {i : Nat} {f : Mut1} {ta : Ev (List D)} {σ : St} {H : Hp} {Q : VK} (h : tR K (evMut T i f ta) σ H Q) :
    tVar i σ H fun x H1 => tyV K T x H1 ∧ tAs K ta σ H1 fun vs H2 => rMut K f x vs H2 Q := by
  obtain ⟨g, G, φ, s, r, s', hK, R, he, q⟩ := h
  obtain ⟨d0, e0, he⟩ := bind_some_iff he
  split at he
  · rename_i hty
    obtain ⟨⟨ds, s1⟩, e1, he⟩ := bind_some_iff he
    obtain ⟨d, e2, he⟩ := bind_some_iff he
    obtain ⟨⟨d', r'⟩, e3, he⟩ := map_some_iff he
    cases he
    obtain ⟨p, o, a1, a2, a3, _⟩ := R.ownAt e0
    refine ⟨_, a1, tyD_V (φ := φ) (G := G) a2 (hK ▸ a3) hty, g, G, φ, s, ds, s1, hK, R, e1, fun G1 φ1 H1 vs R1 h1 h2 ra => ?_⟩
    obtain ⟨p', o', b1, b2, b3, b4, b5⟩ := R1.ownAt e2
    rw [a1] at b1
    cases b1
    exact ⟨φ1, G1, p, o', d, ds, d', r', rfl, b2, hK ▸ b3, b4, R1.sub, hK ▸ ra, e3, fun o2 w ow rw' => q G1 φ1 _ w (b5 o2 d' (hK ▸ ow)) h1 h2 (.fro (hK ▸ rw'))⟩
  · cases he
section
variable {X : Cx} {i : Nat} {x : Str} {p apos cpos : Pos} {T id : String} {name : Str} {f : Mut1} {e : Expr} {es : List Expr} {ta : Ev (List D)}
theorem sr_mut (pa : PlainAttrs T) (slot : PySem.Slot T name id) (hty : typeOf (.builtin id) = pure (.type "method_descriptor")) (hm : DMut X id f) (ha : SA X (e :: es) ta) (hN : X.N[i]? = some x := by rfl) (hvis : Vis X.env.scope x := by first | exact Or.inl rfl | exact Or.inr (Or.inl rfl) | exact Or.inr (Or.inr rfl)) (hd : (x == ("__debug__" : Str)) = false := by decide) (hcd : (x == ("__classdict__" : Str)) = false := by decide)
    (hbase : attributeBase (.Name x p) name X.env (eval (.Name x p) X.env) = eval (.Name x p) X.env := by rfl)
    (hfew : ((backTo cpos (starEach (e :: es) X.env)).all (fun x => !x.1) && (backToKw cpos (keywordEach [] X.env)).all (fun x => x.1.isSome)
      && decide ((e :: es).length + ([] : List Keyword).length + (if ([] : List Keyword).isEmpty then 0 else 1) < 30)) = true := by rfl)
    (hline : (apos.endLine == cpos.line) = true := by rfl) (hs : starEach (e :: es) X.env = (false, eval e X.env) :: starEach es X.env := by rfl) (hplain : (backTo cpos (starEach es X.env)).any (·.1) = false := by rfl) :
    SR X (.Call (.Attribute (.Name x p) name apos) (e :: es) [] cpos) (evMut T i f ta) := pe_imp (pe_bm pa slot hty hm (pe_var hN hvis hd hcd) ha hbase hfew hline hs hplain) fun _ _ _ h => mut_core h
theorem sr_mut0 (pa : PlainAttrs T) (slot : PySem.Slot T name id) (hty : typeOf (.builtin id) = pure (.type "method_descriptor")) (hm : DMut X id f) (hN : X.N[i]? = some x := by rfl) (hvis : Vis X.env.scope x := by first | exact Or.inl rfl | exact Or.inr (Or.inl rfl) | exact Or.inr (Or.inr rfl)) (hd : (x == ("__debug__" : Str)) = false := by decide) (hcd : (x == ("__classdict__" : Str)) = false := by decide)
    (hbase : attributeBase (.Name x p) name X.env (eval (.Name x p) X.env) = eval (.Name x p) X.env := by rfl) (hline : (apos.endLine == cpos.line) = true := by rfl) :
    SR X (.Call (.Attribute (.Name x p) name apos) [] [] cpos) (evMut T i f evNil) := pe_imp (pe_bm0 pa slot hty hm (pe_var hN hvis hd hcd) hbase hline) fun σ H Q h => by
  obtain ⟨v, h1, h2, h3⟩ := mut_core h
  obtain ⟨g, G, φ, s, r, s', hK, R, he, q⟩ := h3
  cases he
  exact ⟨v, h1, h2, q G φ H [] R (Same.refl _) (List.prefix_refl _) .nil⟩
end
/-- x[i] = v -/
def rSet (K : PySem.W.Frag) (f : D → D → D → Option D) : V → V → V → Hp → (Hp → Prop) → Prop := fun x i v H Q => ∃ φ G p o d di dv d', x = .ref p ∧ H p = some o ∧ Own K φ G o d ∧ G p = none ∧ Same G H ∧ OpRep K φ G H i di ∧ Rep K φ G v dv ∧ f d di dv = some d' ∧
  ∀ o', Own K φ G o' d' → Q (upd H p o')
def DSet (X : Cx) (f : D → D → D → Option D) : Prop := PSet X (rSet X.K f)
def evSetI (i : Nat) (f : D → D → D → Option D) (ti : Ev Bor) (tv : Ev RV) : Ev Out := fun s => (tv s).bind fun p => (evSlot i p.2).bind fun _ => (ti p.2).bind fun q => (fetch q.2 q.1).bind fun di => (ownAt q.2 i).bind fun d => (f d di p.1.d).map fun d' => (.nx, setAt q.2 i d')
theorem ss_setI {X : Cx} {i : Nat} {x : Str} {ei ev : Expr} {f : D → D → D → Option D} {ti : Ev Bor} {tv : Ev RV} {px ps pos : Pos} (hs : DSet X f) (hi : SB X ei ti) (hv : SR X ev tv)
    (hN : X.N[i]? = some x := by rfl) (hvis : Vis X.env.scope x := by first | exact Or.inl rfl | exact Or.inr (Or.inl rfl) | exact Or.inr (Or.inr rfl)) (hd : (x == ("__debug__" : Str)) = false := by decide) (hcd : (x == ("__classdict__" : Str)) = false := by decide)
    (ha : ∀ v, assign (.Subscript (.Name x px) ei ps) X.env v = (do
      let ov ← holding [v] (eval (.Name x px) X.env)
      let iv ← holding [v, ov] (eval ei X.env)
      standAt ps
      holding [v, ov, iv] (setItem ov iv v)
      release [v, ov, iv] []) := by intro _; rfl)
    (h1 : swapsWithSole [.Subscript (.Name x px) ei ps] ev pos.line X.env = pure false := by rfl) (h2 : swappedStores [.Subscript (.Name x px) ei ps] ev X.env = pure none := by rfl) (h3 : (assignEach [.Subscript (.Name x px) ei ps] X.env).map (·.2) = [assign (.Subscript (.Name x px) ei ps) X.env] := by rfl) :
    SS X (.Assign [.Subscript (.Name x px) ei ps] ev pos) (evSetI i f ti tv) := ps_imp (ps_asg hv (pg_sub (pe_var hN hvis hd hcd) hi hs ha) h1 h2 h3) fun E σ H ⟨g, G, φ, s, o, s', hK, R, he, q⟩ => by
  obtain ⟨⟨r1, s1⟩, e1, he⟩ := bind_some_iff he
  obtain ⟨⟨b0, s0⟩, e0, he⟩ := bind_some_iff he
  obtain ⟨⟨b, s2⟩, e2, he⟩ := bind_some_iff he
  obtain ⟨di, e3, he⟩ := bind_some_iff he
  obtain ⟨d, e4, he⟩ := bind_some_iff he
  obtain ⟨d', e5, he⟩ := map_some_iff he
  cases he
  refine ⟨g, G, φ, s, r1, s1, hK, R, e1, fun G1 φ1 H1 v R1' h1 h2 x => ?_⟩
  obtain ⟨G1, R1, hx, rp⟩ := x.froz R1'
  have h1 := h1.trans hx
  have hv : ∃ v, σ[i]? = some (some v) := by
    unfold evSlot at e0
    cases e : s1.env[i]? with
    | none => rw [e] at e0; cases e0
    | some sl =>
      cases sl with
      | non => rw [e] at e0; cases e0
      | fro d => obtain ⟨v, h1, _⟩ := R1.fro i d e; exact ⟨v, h1⟩
      | own d => obtain ⟨p, o, h1, _⟩ := R1.own i d e; exact ⟨_, h1⟩
  obtain ⟨u, hv⟩ := hv
  refine ⟨u, hv, g, G1, φ1, s1, b, s2, hK, R1, e2, fun G2 φ2 H2 w R2 h3 h4 y => ?_⟩
  obtain ⟨p, o, b1, b2, b3, b4, b5⟩ := R2.ownAt e4
  rw [hv] at b1
  cases b1
  exact ⟨φ2, G2, p, o, d, di, r1.d, d', rfl, b2, hK ▸ b3, b4, R2.sub, hK ▸ R2.fetch y e3, hK ▸ rp.mono h3 h4, e5, fun o' ow => q G2 φ2 σ _ (b5 o' d' (hK ▸ ow)) (h1.trans h3) (h2.trans h4)⟩
end Pv

namespace Pv
open PySem PySem.Spec L2

theorem RoomG.hu {k : Nat} {A : Around} (r : RoomG k A) : A.units + 100 < cLine := by have := r.room.un; omega
mutual
def py : D → PyData
  | .non => .none
  | .bl b => .bool b
  | .int i => .int i
  | .str x => .str x
  | .tup xs => .tuple (pyAll xs)
  | .lst xs => .list (pyAll xs)
  | .dct _ _ => .none
  | .hd _ => .none
  | .scr _ => .none
def pyAll : List D → List PyData
  | [] => []
  | x :: xs => py x :: pyAll xs
end
theorem pyAll_map : ∀ xs : List D, pyAll xs = xs.map py
  | [] => rfl
  | x :: xs => by rw [pyAll, pyAll_map xs]; rfl
/-- no dict, no cell, of such a depth -/
def eqOk : Nat → D → Bool
  | _, .non => true
  | _, .bl _ => true
  | _, .int _ => true
  | _, .str x => PyData.strOk x
  | n + 1, .tup xs => xs.all (eqOk n)
  | n + 1, .lst xs => xs.all (eqOk n)
  | _, _ => false
theorem eqOk_py : ∀ (n : Nat) (d : D), eqOk n d = true → (py d).canLay0 = true ∧ (py d).depth ≤ n
  | n, .non, _ => by simp [py, PyData.canLay0, PyData.depth]
  | n, .bl _, _ => by simp [py, PyData.canLay0, PyData.depth]
  | n, .int _, _ => by simp [py, PyData.canLay0, PyData.depth]
  | n, .str x, h => by
    have h : PyData.strOk x = true := by cases n <;> exact h
    simp [py, PyData.canLay0, PyData.depth, h]
  | 0, .tup xs, h => by simp [eqOk] at h
  | 0, .lst xs, h => by simp [eqOk] at h
  | n, .dct _ _, h => by cases n <;> simp [eqOk] at h
  | n, .hd _, h => by cases n <;> simp [eqOk] at h
  | n, .scr _, h => by cases n <;> simp [eqOk] at h
  | n + 1, .tup xs, h => by
    have h : xs.all (eqOk n) = true := h
    have all : ∀ ys : List D, ys.all (eqOk n) = true → PyData.canLayAll0 (pyAll ys) = true ∧ PyData.depthAll (pyAll ys) ≤ n := by
      intro ys
      induction ys with
      | nil => intro _; simp [pyAll, PyData.canLayAll0, PyData.depthAll]
      | cons y ys ih =>
        intro hy
        rw [List.all_cons, Bool.and_eq_true] at hy
        obtain ⟨a1, a2⟩ := eqOk_py n y hy.1
        obtain ⟨b1, b2⟩ := ih hy.2
        simp only [pyAll, PyData.canLayAll0, PyData.depthAll, a1, b1, Bool.and_self, true_and]
        omega
    obtain ⟨a, b⟩ := all xs h
    simp only [py, PyData.canLay0, PyData.depth, a, true_and]
    omega
  | n + 1, .lst xs, h => by
    have h : xs.all (eqOk n) = true := h
    have all : ∀ ys : List D, ys.all (eqOk n) = true → PyData.canLayAll0 (pyAll ys) = true ∧ PyData.depthAll (pyAll ys) ≤ n := by
      intro ys
      induction ys with
      | nil => intro _; simp [pyAll, PyData.canLayAll0, PyData.depthAll]
      | cons y ys ih =>
        intro hy
        rw [List.all_cons, Bool.and_eq_true] at hy
        obtain ⟨a1, a2⟩ := eqOk_py n y hy.1
        obtain ⟨b1, b2⟩ := ih hy.2
        simp only [pyAll, PyData.canLayAll0, PyData.depthAll, a1, b1, Bool.and_self, true_and]
        omega
    obtain ⟨a, b⟩ := all xs h
    simp only [py, PyData.canLay0, PyData.depth, a, true_and]
    omega
theorem eqOk_shaped {n : Nat} {d : D} (h : eqOk n d = true) (hn : n ≤ 64 := by decide) : SeqAt.shaped (py d) = true := by
  obtain ⟨a, b⟩ := eqOk_py n d h
  unfold SeqAt.shaped
  rw [Bool.and_eq_true]
  exact ⟨a, decide_eq_true (by omega)⟩
theorem rep_dp {K : PySem.W.Frag} {φ : List Addr} {G : Hp} (n : Nat) : ∀ {d : D} {v : V}, eqOk n d = true → Rep K φ G v d → Dp K G v (py d) := by
  induction n with
  | zero =>
    intro d v h r
    cases r with
    | non => exact .non
    | bl b => exact .bl b
    | int b => exact .int b
    | str b => exact .str b
    | tup s a => simp [eqOk] at h
    | lst s a => simp [eqOk] at h
    | dK s a => simp [eqOk] at h
    | dT s a => simp [eqOk] at h
    | hd e => simp [eqOk] at h
    | scr e => simp [eqOk] at h
  | succ n ih =>
    have all : ∀ (ds : List D) (vs : List V), ds.all (eqOk n) = true → RepA K φ G vs ds → DpAll K G vs (pyAll ds) := by
      intro ds
      induction ds with
      | nil => intro vs _ r; cases r; exact .nil
      | cons d ds ih2 =>
        intro vs hd r
        rw [List.all_cons, Bool.and_eq_true] at hd
        cases r with
        | cons r rs => exact .cons (ih hd.1 r) (ih2 _ hd.2 rs)
    intro d v h r
    cases r with
    | non => exact .non
    | bl b => exact .bl b
    | int b => exact .int b
    | str b => exact .str b
    | tup s a => exact .tup (SqT.of s) (all _ _ h a)
    | lst s a => exact .lst (SqL.of s) (all _ _ h a)
    | dK s a => simp [eqOk] at h
    | dT s a => simp [eqOk] at h
    | hd e => simp [eqOk] at h
    | scr e => simp [eqOk] at h
def deq (a b : D) : Bool := PyData.eqv (py a) (py b)
def deqAll : List D → List D → Bool
  | [], [] => true
  | x :: xs, y :: ys => deq x y && deqAll xs ys
  | [], _ :: _ => false
  | _ :: _, [] => false
theorem eqvAll_py : ∀ xs ys : List D, PyData.eqvAll (pyAll xs) (pyAll ys) = deqAll xs ys
  | [], [] => by simp [pyAll, PyData.eqvAll, deqAll]
  | x :: xs, [] => by simp [pyAll, PyData.eqvAll, deqAll]
  | [], y :: ys => by simp [pyAll, PyData.eqvAll, deqAll]
  | x :: xs, y :: ys => by rw [pyAll, pyAll, PyData.eqvAll, eqvAll_py xs ys]; rfl
def dEq : Op2 := fun a b => match a, b with
  | .str x, .str y => some (.fro (.bl (decide (x = y))))
  | a, b => if eqOk 50 a && eqOk 50 b then some (.fro (.bl (deq a b))) else none
def dNe : Op2 := fun a b => match a, b with
  | .str x, .str y => some (.fro (.bl (!decide (x = y))))
  | a, b => if eqOk 50 a && eqOk 50 b then some (.fro (.bl (!deq a b))) else none
section
variable {X : Cx}
theorem dop_eq (hu : X.A.units + 100 < cLine) : DOp X (compareOp .Eq) dEq := fun pins s σ H x y v u Q I rx ry ⟨φ, G, dx, dy, r, sub, hx, hy, hf, q⟩ => by
  unfold dEq at hf
  split at hf
  · rename_i a b
    cases hf
    cases hx.str
    cases hy.str
    exact op_eq pins s σ H _ _ v u Q I rx ry ⟨rfl, q G H _ (Grow.refl sub) (.fro (by rw [show decide (V.str a = V.str b) = decide (a = b) from by simp]; exact .bl _))⟩
  split at hf
  · rename_i h
    cases hf
    rw [Bool.and_eq_true] at h
    exact op_eqD (by omega) pins s σ H x y v u Q I rx ry ⟨py dx, py dy, rep_dp 50 h.1 (hx.rep sub), rep_dp 50 h.2 (hy.rep sub), eqOk_shaped h.1, eqOk_shaped h.2, q G H _ (Grow.refl sub) (.fro (.bl _))⟩
  · cases hf
theorem dop_ne (hu : X.A.units + 100 < cLine) : DOp X (compareOp .NotEq) dNe := fun pins s σ H x y v u Q I rx ry ⟨φ, G, dx, dy, r, sub, hx, hy, hf, q⟩ => by
  unfold dNe at hf
  split at hf
  · rename_i a b
    cases hf
    cases hx.str
    cases hy.str
    exact op_ne pins s σ H _ _ v u Q I rx ry ⟨rfl, q G H _ (Grow.refl sub) (.fro (by rw [show decide (V.str a = V.str b) = decide (a = b) from by simp]; exact .bl _))⟩
  split at hf
  · rename_i h
    cases hf
    rw [Bool.and_eq_true] at h
    exact op_neD (by omega) pins s σ H x y v u Q I rx ry ⟨py dx, py dy, rep_dp 50 h.1 (hx.rep sub), rep_dp 50 h.2 (hy.rep sub), eqOk_shaped h.1, eqOk_shaped h.2, q G H _ (Grow.refl sub) (.fro (.bl _))⟩
  · cases hf

theorem OpRep.froT {K : PySem.W.Frag} {φ : List Addr} {G H : Hp} {v : V} {ds : List D} (r : OpRep K φ G H v (.tup ds)) : Rep K φ G v (.tup ds) := by
  cases r with
  | fro r => exact r
  | own e o => cases o
def dAdd : Op2 := fun a b => match a, b with
  | .int a, .int b => some (.fro (.int (a + b)))
  | .lst a, .lst b => if a.length + b.length ≤ 1000000 then some (.own (.lst (a ++ b))) else none
  | .tup a, .tup b => if a.length + b.length ≤ 1000000 then some (.fro (.tup (a ++ b))) else none
  | .str a, .str b => if a.length + b.length ≤ 1000000 then some (.fro (.str (a ++ b))) else none
  | _, _ => none
theorem dop_add : DOp X (binaryOp .Add) dAdd := fun pins s σ H x y v u Q I rx ry ⟨φ, G, dx, dy, r, sub, hx, hy, hf, q⟩ => by
  have mil := million
  unfold dAdd at hf
  split at hf
  · cases hf
    exact op_add pins s σ H x y v u Q I rx ry ⟨_, _, hx.int, hy.int, q G H _ (Grow.refl sub) (.fro (.int _))⟩
  · split at hf
    · rename_i a b hl
      cases hf
      obtain ⟨p, xs, rfl, e1, r1⟩ := hx.lst sub
      obtain ⟨p2, ys, rfl, e2, r2⟩ := hy.lst sub
      have hz : xs.length + ys.length ≤ sizeLine := by rw [r1.length, r2.length]; omega
      exact op_cat pins s σ H _ _ v u Q I rx ry ⟨p, p2, xs, ys, rfl, rfl, e1, e2, hz, fun a ha => q G _ _ (Grow.aside sub ha) (.own ha upd_same (sub.free ha) (.lst (r1.append r2)))⟩
    · cases hf
  · split at hf
    · rename_i a b hl
      cases hf
      obtain ⟨p, xs, rfl, e1, r1⟩ := hx.tup sub
      obtain ⟨p2, ys, rfl, e2, r2⟩ := hy.tup sub
      have hz : xs.length + ys.length ≤ sizeLine := by rw [r1.length, r2.length]; omega
      refine op_catA pins s σ H _ _ v u Q I rx ry ⟨p, p2, xs, ys, rfl, rfl, SqT.of e1, SqT.of e2, hz, fun z => ?_, fun z1 z2 => ?_, fun z1 z2 a ha => ?_⟩
      · subst z
        cases r1
        exact q G H _ (Grow.refl sub) (.fro hy.froT)
      · subst z2
        cases r2
        refine q G H _ (Grow.refl sub) (.fro ?_)
        rw [List.append_nil]
        exact hx.froT
      · have gr := Grow.laid sub (o := .tup (xs ++ ys)) ha
        exact q _ _ _ gr (.fro (.tup upd_same ((r1.append r2).mono gr.gg (List.prefix_refl _))))
    · cases hf
  · split at hf
    · rename_i a b hl
      cases hf
      exact op_add_str pins s σ H x y v u Q I rx ry ⟨_, _, hx.str, hy.str, by omega, q G H _ (Grow.refl sub) (.fro (.str _))⟩
    · cases hf
  · cases hf
def dSub : Op2 := fun a b => match a, b with
  | .int a, .int b => some (.fro (.int (a - b)))
  | _, _ => none
theorem dop_sub : DOp X (binaryOp .Sub) dSub := fun pins s σ H x y v u Q I rx ry ⟨φ, G, dx, dy, r, sub, hx, hy, hf, q⟩ => by
  unfold dSub at hf
  split at hf
  · cases hf
    exact op_sub pins s σ H x y v u Q I rx ry ⟨_, _, hx.int, hy.int, q G H _ (Grow.refl sub) (.fro (.int _))⟩
  · cases hf
def smallI (i : Int) : Bool := decide (-(2 ^ 64) < i) && decide (i < 2 ^ 64)
theorem smallI_ok {i : Int} (h : smallI i = true) : -(2 ^ 64) < i ∧ i < 2 ^ 64 := by
  unfold smallI at h
  rw [Bool.and_eq_true, decide_eq_true_eq, decide_eq_true_eq] at h
  exact h
def dMul : Op2 := fun a b => match a, b with
  | .int a, .int b => if smallI a || smallI b then some (.fro (.int (a * b))) else none
  | .tup a, .int k => if !a.isEmpty && decide (2 ≤ k) && decide (k ≤ 1000) && decide (a.length ≤ 1000) then some (.fro (.tup (List.replicate k.toNat a).flatten)) else none
  | .lst a, .int k => if decide (0 ≤ k) && decide (k ≤ 1000) && decide (a.length ≤ 1000) then some (.own (.lst (List.replicate k.toNat a).flatten)) else none
  | _, _ => none
theorem RepA.rep {K : PySem.W.Frag} {φ : List Addr} {G : Hp} {vs : List V} {ds : List D} (r : RepA K φ G vs ds) : ∀ k : Nat, RepA K φ G (List.replicate k vs).flatten (List.replicate k ds).flatten
  | 0 => .nil
  | k + 1 => by
    rw [List.replicate_succ, List.replicate_succ, List.flatten_cons, List.flatten_cons]
    exact r.append (r.rep k)
theorem dop_mul : DOp X (binaryOp .Mult) dMul := fun pins s σ H x y v u Q I rx ry ⟨φ, G, dx, dy, r, sub, hx, hy, hf, q⟩ => by
  have mil := million
  unfold dMul at hf
  split at hf
  · split at hf
    · rename_i h
      cases hf
      rw [Bool.or_eq_true] at h
      exact op_mul pins s σ H x y v u Q I rx ry ⟨_, _, hx.int, hy.int, h.imp smallI_ok smallI_ok, q G H _ (Grow.refl sub) (.fro (.int _))⟩
    · cases hf
  · split at hf
    · rename_i a k h
      cases hf
      simp only [Bool.and_eq_true, decide_eq_true_eq, Bool.not_eq_true'] at h
      obtain ⟨⟨⟨h1, h2⟩, h3⟩, h4⟩ := h
      obtain ⟨p, xs, rfl, e1, r1⟩ := hx.tup sub
      refine op_repT pins s σ H _ _ v u Q I rx ry ⟨p, k, xs, rfl, hy.int, SqT.of e1, fun z => ?_, h2, h3, by rw [r1.length]; exact h4, fun a ha => ?_⟩
      · subst z; cases r1; cases h1
      · have gr := Grow.laid sub (o := .tup (List.replicate k.toNat xs).flatten) ha
        exact q _ _ _ gr (.fro (.tup upd_same ((r1.rep k.toNat).mono gr.gg (List.prefix_refl _))))
    · cases hf
  · split at hf
    · rename_i a k h
      cases hf
      simp only [Bool.and_eq_true, decide_eq_true_eq] at h
      obtain ⟨⟨h2, h3⟩, h4⟩ := h
      obtain ⟨p, xs, rfl, e1, r1⟩ := hx.lst sub
      have hz : xs.length * k.toNat ≤ sizeLine := by
        have : xs.length * k.toNat ≤ 1000 * 1000 := Nat.mul_le_mul (by rw [r1.length]; exact h4) (by omega)
        omega
      exact op_rep pins s σ H _ _ v u Q I rx ry ⟨_, k, xs, rfl, hy.int, e1, by omega, by omega, hz, fun p hp => q G _ _ (Grow.aside sub hp) (.own hp upd_same (sub.free hp) (.lst (r1.rep k.toNat)))⟩
    · cases hf
  · cases hf
def dMod : Op2 := fun a b => match a, b with
  | .int a, .int b => if 0 < b then some (.fro (.int (a % b))) else none
  | _, _ => none
theorem dop_mod : DOp X (binaryOp .Mod) dMod := fun pins s σ H x y v u Q I rx ry ⟨φ, G, dx, dy, r, sub, hx, hy, hf, q⟩ => by
  unfold dMod at hf
  split at hf
  · split at hf
    · rename_i h
      cases hf
      exact op_mod pins s σ H x y v u Q I rx ry ⟨_, _, hx.int, hy.int, h, q G H _ (Grow.refl sub) (.fro (.int _))⟩
    · cases hf
  · cases hf
def dFdiv : Op2 := fun a b => match a, b with
  | .int a, .int b => if 0 < b ∧ b < 2 ^ 64 then some (.fro (.int (a / b))) else none
  | _, _ => none
theorem dop_fdiv : DOp X (binaryOp .FloorDiv) dFdiv := fun pins s σ H x y v u Q I rx ry ⟨φ, G, dx, dy, r, sub, hx, hy, hf, q⟩ => by
  unfold dFdiv at hf
  split at hf
  · split at hf
    · rename_i h
      cases hf
      exact op_fdivW pins s σ H x y v u Q I rx ry ⟨_, _, hx.int, hy.int, wide_div (b := 64) h.1 (by omega) (by decide) (by decide), q G H _ (Grow.refl sub) (.fro (.int _))⟩
    · cases hf
  · cases hf
def dPow : Op2 := fun a b => match a, b with
  | .int a, .int b => if smallI a && decide (0 ≤ b) && decide (b ≤ 1000) then some (.fro (.int (a ^ b.toNat))) else none
  | _, _ => none
theorem dop_pow : DOp X (binaryOp .Pow) dPow := fun pins s σ H x y v u Q I rx ry ⟨φ, G, dx, dy, r, sub, hx, hy, hf, q⟩ => by
  unfold dPow at hf
  split at hf
  · split at hf
    · rename_i h
      cases hf
      simp only [Bool.and_eq_true, decide_eq_true_eq] at h
      obtain ⟨⟨h1, h2⟩, h3⟩ := h
      have h1 := smallI_ok h1
      exact op_pow pins s σ H x y v u Q I rx ry ⟨_, _, hx.int, hy.int, ⟨h2, by omega, by omega⟩, q G H _ (Grow.refl sub) (.fro (.int _))⟩
    · cases hf
  · cases hf
end
end Pv

namespace Pv
open PySem PySem.Spec L2
section
variable {X : Cx}
def cmpI (p : Int → Int → Bool) : Op2 := fun a b => match a, b with
  | .int a, .int b => some (.fro (.bl (p a b)))
  | _, _ => none
theorem dop_cmpI {op : CmpOp} {p : Int → Int → Bool} (h : OpR X (compareOp op) (rI0 fun i j => .bl (p i j))) : DOp X (compareOp op) (cmpI p) := fun pins s σ H x y v u Q I rx ry ⟨φ, G, dx, dy, r, sub, hx, hy, hf, q⟩ => by
  unfold cmpI at hf
  split at hf
  · cases hf
    exact h pins s σ H x y v u Q I rx ry ⟨_, _, hx.int, hy.int, q G H _ (Grow.refl sub) (.fro (.bl _))⟩
  · cases hf
/-- the ints of a tuple -/
def intsOf : List D → Option (List Int)
  | [] => some []
  | .int i :: ds => (intsOf ds).map fun r => i :: r
  | _ => none
theorem RepA.ints {K : PySem.W.Frag} {φ : List Addr} {G : Hp} : ∀ {vs : List V} {ds : List D} {ns : List Int}, RepA K φ G vs ds → intsOf ds = some ns → vs = ns.map V.int
  | _, _, _, .nil, h => by cases h; rfl
  | _, _, _, .cons (d := d) (ds := ds) r rs, h => by
    cases d with
    | int i =>
      obtain ⟨m, e, h⟩ := map_some_iff (show (intsOf ds).map (fun r => i :: r) = some _ from h)
      subst h
      cases r
      rw [RepA.ints rs e]
      rfl
    | _ => cases h
def dLt : Op2 := fun a b => match a, b with
  | .tup xs, .tup ys => match intsOf xs, intsOf ys with
    | some ns, some ms => some (.fro (.bl (HT.lexLt ns ms)))
    | _, _ => none
  | a, b => cmpI (fun i j => decide (i < j)) a b
theorem dop_lt (hu : X.A.units + 100 < cLine) : DOp X (compareOp .Lt) dLt := fun pins s σ H x y v u Q I rx ry ⟨φ, G, dx, dy, r, sub, hx, hy, hf, q⟩ => by
  unfold dLt at hf
  split at hf
  · split at hf
    · rename_i e1 e2
      cases hf
      obtain ⟨a, vs, rfl, s1, r1⟩ := hx.tup sub
      obtain ⟨b, ws, rfl, s2, r2⟩ := hy.tup sub
      have h1 := r1.ints e1
      have h2 := r2.ints e2
      subst h1 h2
      exact op_ltT (by omega) pins s σ H _ _ v u Q I rx ry ⟨a, b, _, _, rfl, rfl, SqT.of s1, SqT.of s2, q G H _ (Grow.refl sub) (.fro (.bl _))⟩
    · cases hf
  · exact dop_cmpI op_lt pins s σ H x y v u Q I rx ry ⟨φ, G, _, _, r, sub, hx, hy, hf, q⟩
abbrev dLe : Op2 := cmpI fun i j => decide (i ≤ j)
abbrev dGt : Op2 := cmpI fun i j => decide (j < i)
abbrev dGe : Op2 := cmpI fun i j => decide (j ≤ i)
theorem dop_le : DOp X (compareOp .LtE) dLe := dop_cmpI op_le
theorem dop_gt : DOp X (compareOp .Gt) dGt := dop_cmpI op_gt
theorem dop_ge : DOp X (compareOp .GtE) dGe := dop_cmpI op_ge
def isNon : D → Bool
  | .non => true
  | _ => false
def dIs : Op2 := fun a b => match a, b with
  | a, .non => some (.fro (.bl (isNon a)))
  | .bl a, .bl b => some (.fro (.bl (decide (a = b))))
  | _, _ => none
def dIsNot : Op2 := fun a b => match a, b with
  | a, .non => some (.fro (.bl (!isNon a)))
  | .bl a, .bl b => some (.fro (.bl (!decide (a = b))))
  | _, _ => none
theorem isNon_V {K : PySem.W.Frag} {φ : List Addr} {G H : Hp} {v : V} {d : D} (r : OpRep K φ G H v d) : decide (v = .non) = isNon d := by
  cases r with
  | fro r => cases r <;> rfl
  | own e o => cases o <;> rfl
theorem dop_is : DOp X (compareOp .Is) dIs := fun pins s σ H x y v u Q I rx ry ⟨φ, G, dx, dy, r, sub, hx, hy, hf, q⟩ => by
  unfold dIs at hf
  split at hf
  · cases hf
    exact op_isN pins s σ H x y v u Q I rx ry ⟨hy.non, by rw [isNon_V hx]; exact q G H _ (Grow.refl sub) (.fro (.bl _))⟩
  · cases hf
    exact op_is_bl pins s σ H x y v u Q I rx ry ⟨_, _, hx.bl, hy.bl, q G H _ (Grow.refl sub) (.fro (.bl _))⟩
  · cases hf
theorem dop_isnot : DOp X (compareOp .IsNot) dIsNot := fun pins s σ H x y v u Q I rx ry ⟨φ, G, dx, dy, r, sub, hx, hy, hf, q⟩ => by
  unfold dIsNot at hf
  split at hf
  · cases hf
    exact op_notN pins s σ H x y v u Q I rx ry ⟨hy.non, by rw [isNon_V hx]; exact q G H _ (Grow.refl sub) (.fro (.bl _))⟩
  · cases hf
    exact op_isnot_bl pins s σ H x y v u Q I rx ry ⟨_, _, hx.bl, hy.bl, q G H _ (Grow.refl sub) (.fro (.bl _))⟩
  · cases hf
def toKey : D → Option Key
  | .int i => some (.inl i)
  | .str x => some (.inr x)
  | _ => none
def toKeys : List D → Option (List Key)
  | [] => some []
  | d :: ds => (toKey d).bind fun k => (toKeys ds).map fun r => k :: r
/-- what a dict has at a key -/
def lookK (kvs : List (D × D)) (k : Key) : Option D := (kvs.find? fun p => decide (toKey p.1 = some k)).map (·.2)
def tupKeys : D → Option (List Key)
  | .tup ds => toKeys ds
  | _ => none
def lookT (kvs : List (D × D)) (k : List Key) : Option D := (kvs.find? fun p => decide (tupKeys p.1 = some k)).map (·.2)
/-- .. by any key of the dict's kind; none: the key is of another kind -/
def dLook (t : Bool) (kvs : List (D × D)) (d : D) : Option (Option D) := if t then (tupKeys d).map fun k => lookT kvs k else (toKey d).map fun k => lookK kvs k
theorem toKey_kD (k : Key) : toKey (kD k) = some k := by cases k <;> rfl
theorem toKeys_kD : ∀ ks : List Key, toKeys (ks.map kD) = some ks
  | [] => rfl
  | k :: ks => by
    show (toKey (kD k)).bind _ = _
    rw [toKey_kD, Option.bind_some, toKeys_kD ks]
    rfl
theorem toKey_V {K : PySem.W.Frag} {φ : List Addr} {G : Hp} {v : V} {d : D} {k : Key} (r : Rep K φ G v d) (h : toKey d = some k) : v = kV k := by
  cases r <;> cases h <;> rfl
theorem toKeys_V {K : PySem.W.Frag} {φ : List Addr} {G : Hp} : ∀ {vs : List V} {ds : List D} {ks : List Key}, RepA K φ G vs ds → toKeys ds = some ks → vs = ks.map kV
  | _, _, _, .nil, h => by cases h; rfl
  | _, _, _, .cons r rs, h => by
    obtain ⟨k, e1, h⟩ := bind_some_iff h
    obtain ⟨m, e2, h⟩ := map_some_iff h
    subst h
    rw [toKey_V r e1, toKeys_V rs e2]
    rfl
inductive OptRep (K : PySem.W.Frag) (φ : List Addr) (G : Hp) : Option V → Option D → Prop
  | none : OptRep K φ G none none
  | some {v d} : Rep K φ G v d → OptRep K φ G (some v) (some d)
theorem lookK_V {K : PySem.W.Frag} {φ : List Addr} {G : Hp} {k : Key} : ∀ {kvs : List (Key × V)} {ds : List (D × D)}, RepK K φ G kvs ds → OptRep K φ G (valV kvs k) (lookK ds k)
  | _, _, .nil => .none
  | _, _, .cons (k := j) (v := v) (vs := vs) (d := d) (ds := ds) r rs => by
    by_cases e : j = k
    · subst e
      have : lookK ((kD j, d) :: ds) j = some d := by simp [lookK, List.find?_cons, toKey_kD]
      rw [this, valV_pos (p := (j, v)) rfl]
      exact .some r
    · have : lookK ((kD j, d) :: ds) k = lookK ds k := by simp [lookK, List.find?_cons, toKey_kD, e]
      rw [this, valV_neg (p := (j, v)) e]
      exact lookK_V rs
theorem lookT_V {K : PySem.W.Frag} {φ : List Addr} {G : Hp} {k : List Key} : ∀ {kvs : List (List Key × V)} {ds : List (D × D)}, RepT K φ G kvs ds → OptRep K φ G (valV kvs k) (lookT ds k)
  | _, _, .nil => .none
  | _, _, .cons (k := j) (v := v) (vs := vs) (d := d) (ds := ds) r rs => by
    by_cases e : j = k
    · subst e
      have : lookT ((.tup (j.map kD), d) :: ds) j = some d := by simp [lookT, List.find?_cons, tupKeys, toKeys_kD]
      rw [this, valV_pos (p := (j, v)) rfl]
      exact .some r
    · have : lookT ((.tup (j.map kD), d) :: ds) k = lookT ds k := by simp [lookT, List.find?_cons, tupKeys, toKeys_kD, e]
      rw [this, valV_neg (p := (j, v)) e]
      exact lookT_V rs
theorem OpRep.dctK {K : PySem.W.Frag} {φ : List Addr} {G H : Hp} {v : V} {ds : List (D × D)} (h : Same G H) (r : OpRep K φ G H v (.dct false ds)) : ∃ a kvs, v = .ref a ∧ Rd H a (.dK kvs) ∧ RepK K φ G kvs ds := by
  cases r with
  | fro r => cases r with | dK s a => exact ⟨_, _, rfl, rd_mono h s, a⟩
  | own e o => cases o with | dK a => exact ⟨_, _, rfl, .inl e, a⟩
theorem OpRep.dctT {K : PySem.W.Frag} {φ : List Addr} {G H : Hp} {v : V} {ds : List (D × D)} (h : Same G H) (r : OpRep K φ G H v (.dct true ds)) : ∃ a kvs, v = .ref a ∧ Rd H a (.dT kvs) ∧ RepT K φ G kvs ds := by
  cases r with
  | fro r => cases r with | dT s a => exact ⟨_, _, rfl, rd_mono h s, a⟩
  | own e o => cases o with | dT a => exact ⟨_, _, rfl, .inl e, a⟩
/-- a look-up by trees is one in the heap -/
theorem dLook_V {K : PySem.W.Frag} {φ : List Addr} {G H : Hp} {v w : V} {t : Bool} {kvs : List (D × D)} {d : D} {o : Option D} (sub : Same G H) (hc : OpRep K φ G H v (.dct t kvs)) (hk : OpRep K φ G H w d) (e : dLook t kvs d = some o) :
    ∃ a ov, v = .ref a ∧ DGet H a w ov ∧ OptRep K φ G ov o := by
  unfold dLook at e
  cases t with
  | false =>
    rw [if_neg Bool.false_ne_true] at e
    obtain ⟨k, e1, e2⟩ := map_some_iff e
    rw [← e2]
    obtain ⟨a, kv, rfl, rd, rk⟩ := hc.dctK sub
    have hw : w = kV k := by
      cases hk with
      | fro r => exact toKey_V r e1
      | own _ q => cases q <;> cases e1
    subst hw
    exact ⟨a, valV kv k, rfl, .inl ⟨kv, k, rd, rfl, rfl⟩, lookK_V rk⟩
  | true =>
    rw [if_pos rfl] at e
    obtain ⟨k, e1, e2⟩ := map_some_iff e
    rw [← e2]
    obtain ⟨a, kv, rfl, rd, rk⟩ := hc.dctT sub
    cases d with
    | tup ds =>
      have rt := hk.froT
      cases rt with
      | tup st ra =>
        have hv := toKeys_V ra e1
        subst hv
        exact ⟨a, valV kv k, rfl, .inr ⟨kv, k, _, rd, rfl, sub _ _ st, rfl⟩, lookT_V rk⟩
    | _ => cases e1
def isIn (c x : D) : Option Bool := match c with
  | .lst ds => if eqOk 49 x && ds.all (eqOk 49) then some (ds.any fun z => deq z x) else none
  | .tup ds => if eqOk 49 x && ds.all (eqOk 49) then some (ds.any fun z => deq z x) else none
  | .dct t kvs => (dLook t kvs x).map Option.isSome
  | _ => none
def dIn : Op2 := fun x c => (isIn c x).map fun b => .fro (.bl b)
def dNotIn : Op2 := fun x c => (isIn c x).map fun b => .fro (.bl (!b))
theorem any_py (x : D) : ∀ ds : List D, (pyAll ds).any (fun z => PyData.eqv z (py x)) = ds.any fun z => deq z x
  | [] => rfl
  | d :: ds => by rw [pyAll, List.any_cons, List.any_cons, any_py x ds]; rfl
theorem eqOk_lst {n : Nat} {ds : List D} (h : ds.all (eqOk n) = true) : eqOk (n + 1) (.lst ds) = true := h
theorem eqOk_tup {n : Nat} {ds : List D} (h : ds.all (eqOk n) = true) : eqOk (n + 1) (.tup ds) = true := h
theorem in_tupD (hu : X.A.units + 100 < cLine) {pins : List (Addr × Obj)} {s : Shared} {σ : L2.St} {H : Hp} {v u : Value} {E : Value → Shared → Prop} {Q : Value → Shared → Prop} {x y : V} {a : D} {ds : List D} (I : Inv X pins σ H s) (rx : RelV x v) (ry : RelV y u) (h1 : Dp X.K H x (py a)) (h2 : Dp X.K H y (.tuple (pyAll ds)))
    (h : (eqOk 49 a && ds.all (eqOk 49)) = true) (neg : Bool) (q : Q (.bool (cond neg (!ds.any fun z => deq z a) (ds.any fun z => deq z a))) s) : wpAny (model X.prog X.w) X.A (compareOp (cond neg .NotIn .In) v u) Q E s := by
  rw [Bool.and_eq_true] at h
  obtain ⟨as, r1⟩ := Dp.reads I _ x v h1 rx
  obtain ⟨bs, r2⟩ := Dp.reads I _ y u h2 ry
  have s1 := (eqOk_py 49 a h.1).1
  have s2 := eqOk_py 50 (.tup ds) (eqOk_tup h.2)
  have s2a : PyData.canLayAll0 (pyAll ds) = true := by
    have := s2.1
    simp only [py, PyData.canLay0] at this
    exact this
  have room : X.A.units + 1 + min (PyData.depthAll (pyAll ds)) (py a).depth < cLine := by
    have := (eqOk_py 49 a h.1).2
    omega
  cases neg with
  | false => exact SeqAt.in_tuple_reads r2 r1 s2a s1 room (by rw [any_py]; exact q)
  | true => exact SeqAt.notIn_tuple_reads r2 r1 s2a s1 room (by rw [any_py]; exact q)
theorem dop_in (hu : X.A.units + 100 < cLine) : DOp X (compareOp .In) dIn := fun pins s σ H x y v u Q I rx ry ⟨φ, G, dx, dy, r, sub, hx, hy, hf, q⟩ => by
  obtain ⟨b, e, hf⟩ := map_some_iff hf
  subst hf
  cases dy with
  | lst ds =>
    have e : (if eqOk 49 dx && ds.all (eqOk 49) then _ else _) = _ := e
    split at e
    · rename_i h
      cases e
      rw [Bool.and_eq_true] at h
      refine op_inD (by omega) pins s σ H x y v u Q I rx ry ⟨py dx, pyAll ds, rep_dp 49 h.1 (hx.rep sub), rep_dp 50 (eqOk_lst h.2) (hy.rep sub), eqOk_shaped h.1, eqOk_shaped (eqOk_lst h.2), ?_⟩
      rw [any_py]
      exact q G H _ (Grow.refl sub) (.fro (.bl _))
    · cases e
  | tup ds =>
    have e : (if eqOk 49 dx && ds.all (eqOk 49) then _ else _) = _ := e
    split at e
    · rename_i h
      cases e
      have h' := h
      rw [Bool.and_eq_true] at h'
      exact in_tupD hu I rx ry (rep_dp 49 h'.1 (hx.rep sub)) (rep_dp 50 (eqOk_tup h'.2) (hy.rep sub)) h false ⟨.bl _, H, I, rfl, q G H _ (Grow.refl sub) (.fro (.bl _))⟩
    · cases e
  | dct t kvs =>
    obtain ⟨o, e1, e2⟩ := map_some_iff e
    subst e2
    obtain ⟨a, ov, rfl, dg, ro⟩ := dLook_V sub hy hx e1
    cases ry
    refine d_in (by omega) I dg rx fun s' I' => ⟨.bl _, H, I', rfl, ?_⟩
    cases ro with
    | none => exact q G H _ (Grow.refl sub) (.fro (.bl _))
    | some r => exact q G H _ (Grow.refl sub) (.fro (.bl _))
  | _ => cases e
theorem dop_notin (hu : X.A.units + 100 < cLine) : DOp X (compareOp .NotIn) dNotIn := fun pins s σ H x y v u Q I rx ry ⟨φ, G, dx, dy, r, sub, hx, hy, hf, q⟩ => by
  obtain ⟨b, e, hf⟩ := map_some_iff hf
  subst hf
  cases dy with
  | lst ds =>
    have e : (if eqOk 49 dx && ds.all (eqOk 49) then _ else _) = _ := e
    split at e
    · rename_i h
      cases e
      rw [Bool.and_eq_true] at h
      refine op_notInD (by omega) pins s σ H x y v u Q I rx ry ⟨py dx, pyAll ds, rep_dp 49 h.1 (hx.rep sub), rep_dp 50 (eqOk_lst h.2) (hy.rep sub), eqOk_shaped h.1, eqOk_shaped (eqOk_lst h.2), ?_⟩
      rw [any_py]
      exact q G H _ (Grow.refl sub) (.fro (.bl _))
    · cases e
  | tup ds =>
    have e : (if eqOk 49 dx && ds.all (eqOk 49) then _ else _) = _ := e
    split at e
    · rename_i h
      cases e
      have h' := h
      rw [Bool.and_eq_true] at h'
      exact in_tupD hu I rx ry (rep_dp 49 h'.1 (hx.rep sub)) (rep_dp 50 (eqOk_tup h'.2) (hy.rep sub)) h true ⟨.bl _, H, I, rfl, q G H _ (Grow.refl sub) (.fro (.bl _))⟩
    · cases e
  | dct t kvs =>
    obtain ⟨o, e1, e2⟩ := map_some_iff e
    subst e2
    obtain ⟨a, ov, rfl, dg, ro⟩ := dLook_V sub hy hx e1
    cases ry
    refine d_notIn (by omega) I dg rx fun s' I' => ⟨.bl _, H, I', rfl, ?_⟩
    cases ro with
    | none => exact q G H _ (Grow.refl sub) (.fro (.bl _))
    | some r => exact q G H _ (Grow.refl sub) (.fro (.bl _))
  | _ => cases e

theorem RepA.at {K : PySem.W.Frag} {φ : List Addr} {G : Hp} {vs : List V} {ds : List D} {i : Int} {d : D} (r : RepA K φ G vs ds) (h : atI ds i = some d) : ∃ v, atI vs i = some v ∧ Rep K φ G v d := by
  unfold atI at h ⊢
  rw [r.length]
  obtain ⟨j, e1, e2⟩ := bind_some_iff h
  obtain ⟨v, e3, e4⟩ := r.get e2
  exact ⟨v, by rw [e1]; exact e3, e4⟩
/-- o[i] by what getItem does -/
theorem tail_get {prog : Program} {w : World} {A : Around} {E Q : Value → Shared → Prop} {s : Shared} {value slice : Expr} {o i : Value} {T id : String} (ty : s.TypeIs o T) (look : typeLookup (.type T) "__getitem__" = pure (some (.builtin id)))
    (got : wpAny (model prog w) A (getItem o i) Q E s) (plain : subscripted slice false o i = operate [o, i] (getItem o i)) : wpAny (model prog w) A (PyProof.Rows.subscriptTail value slice o i) Q E s := by
  have out : wpAny (model prog w) A (subscripted slice false o i) (fun r s' => wpAny (model prog w) A (letTemporaryGo value o r >>= fun _ => pure r) Q E s') E s :=
    plain ▸ wpAny_operating (wpAny_mono got (fun _ _ q => wpAny_bind (wpAny_letTemporaryGo (wpAny_pure q))) fun _ _ q => q)
  unfold PyProof.Rows.subscriptTail
  rw [getitemInPython_of_ne ty.not_modules]
  refine wpAny_bind (wpAny_bind (wpAny_specialOf ty look ?_))
  first
    | exact wpAny_bind out
    | exact wpAny_pure (wpAny_bind out)
    | exact wpAny_bind (wpAny_pure (wpAny_bind out))
def dIx : Op2 := fun c k => match c with
  | .lst ds => match k with
    | .int i => (atI ds i).map .fro
    | _ => none
  | .tup ds => match k with
    | .int i => (atI ds i).map .fro
    | _ => none
  | .dct t kvs => (dLook t kvs k).bind fun o => o.map .fro
  | _ => none
theorem dix (hu : X.A.units + 100 < cLine) : DIx X dIx := fun value slice pins s σ H x y v u Q I rx ry ⟨φ, G, dx, dy, r, sub, hx, hy, hf, q⟩ hs => by
  cases dx with
  | lst ds =>
    cases dy with
    | int i =>
      obtain ⟨d, e, hf⟩ := map_some_iff (show (atI ds i).map RV.fro = some r from hf)
      subst hf
      obtain ⟨a, vs, rfl, s1, r1⟩ := hx.lst sub
      obtain ⟨w, e2, e3⟩ := r1.at e
      exact ix_list value slice pins s σ H _ _ v u Q I rx ry ⟨a, vs, i, w, rfl, hy.int, SqL.of s1, e2, q G H _ (Grow.refl sub) (.fro e3)⟩ hs
    | _ => cases hf
  | tup ds =>
    cases dy with
    | int i =>
      obtain ⟨d, e, hf⟩ := map_some_iff (show (atI ds i).map RV.fro = some r from hf)
      subst hf
      obtain ⟨a, vs, rfl, s1, r1⟩ := hx.tup sub
      obtain ⟨w, e2, e3⟩ := r1.at e
      exact ix_tup value slice pins s σ H _ _ v u Q I rx ry ⟨a, vs, i, w, rfl, hy.int, SqT.of s1, e2, q G H _ (Grow.refl sub) (.fro e3)⟩ hs
    | _ => cases hf
  | dct t kvs =>
    obtain ⟨o, e1, e2⟩ := bind_some_iff (show (dLook t kvs dy).bind (fun o => o.map RV.fro) = some r from hf)
    obtain ⟨a, ov, rfl, dg, ro⟩ := dLook_V sub hx hy e1
    cases ro with
    | none => cases e2
    | some rp =>
      cases e2
      cases rx
      exact tail_get (dict_typeIs I dg) PySem.F.slot_dict_getitem.lookup (d_getItem (by omega) I dg ry fun w' s' I' rw' => ⟨_, H, I', rw', q G H _ (Grow.refl sub) (.fro rp)⟩) hs
  | _ => cases hf
end
end Pv

namespace Pv
open PySem PySem.Spec L2
section
variable {X : Cx}
def cutL {α : Type} (xs : List α) (lo hi : Option Int) : List α := (xs.drop (HT.sIx xs.length 0 lo)).take (HT.sIx xs.length xs.length hi - HT.sIx xs.length 0 lo)
theorem RepA.drop {K : PySem.W.Frag} {φ : List Addr} {G : Hp} : ∀ {vs ds} (n : Nat), RepA K φ G vs ds → RepA K φ G (vs.drop n) (ds.drop n)
  | _, _, 0, r => r
  | _, _, _ + 1, .nil => .nil
  | _, _, n + 1, .cons _ r => r.drop n
theorem RepA.take {K : PySem.W.Frag} {φ : List Addr} {G : Hp} : ∀ {vs ds} (n : Nat), RepA K φ G vs ds → RepA K φ G (vs.take n) (ds.take n)
  | _, _, 0, r => .nil
  | _, _, _ + 1, .nil => .nil
  | _, _, n + 1, .cons a r => .cons a (r.take n)
theorem RepA.cut {K : PySem.W.Frag} {φ : List Addr} {G : Hp} {vs : List V} {ds : List D} (r : RepA K φ G vs ds) (lo hi : Option Int) : RepA K φ G (cutV vs lo hi) (cutL ds lo hi) := by
  unfold cutV cutL
  rw [r.length]
  exact (r.drop _).take _
theorem RepA.ofInts {K : PySem.W.Frag} {φ : List Addr} {G : Hp} : ∀ ns : List Int, RepA K φ G (ns.map V.int) (ns.map D.int)
  | [] => .nil
  | n :: ns => .cons (.int n) (RepA.ofInts ns)
abbrev Sl := D → Option Int → Option Int → Option RV
def dSl : Sl := fun c lo hi => match c with
  | .lst ds => some (.own (.lst (cutL ds lo hi)))
  | .tup ds => some (.fro (.tup (cutL ds lo hi)))
  | .scr ns => some (.own (.lst (cutL (ns.map .int) lo hi)))
  | _ => none
def rVS (K : PySem.W.Frag) (f : Sl) : V → Option Int → Option Int → Hp → VK → Prop := fun x lo hi H Q => ∃ φ G dx r, Same G H ∧ OpRep K φ G H x dx ∧ f dx lo hi = some r ∧ OkRes K φ G H r Q
theorem cut_whole {α : Type} {xs : List α} {lo hi : Option Int} (h : HT.sIx xs.length 0 lo = 0 ∧ HT.sIx xs.length xs.length hi = xs.length) : cutL xs lo hi = xs := by
  unfold cutL
  rw [h.1, h.2]
  simp
theorem dsl : SlR X (rVS X.K dSl) := fun pins s σ H x v vl vu lo hi sl Q I rx hs pl pu ⟨φ, G, dx, r, sub, hx, hf, q⟩ => by
  cases dx with
  | lst ds =>
    cases hf
    obtain ⟨a, vs, rfl, s1, r1⟩ := hx.lst sub
    exact sl_list pins s σ H _ v vl vu lo hi sl Q I rx hs pl pu ⟨a, vs, rfl, SqL.of s1, fun p hp => q G _ _ (Grow.aside sub hp) (.own hp upd_same (sub.free hp) (.lst (r1.cut lo hi)))⟩
  | tup ds =>
    cases hf
    obtain ⟨a, vs, rfl, s1, r1⟩ := hx.tup sub
    refine sl_tupA pins s σ H _ v vl vu lo hi sl Q I rx hs pl pu ⟨a, vs, rfl, SqT.of s1, fun w => ?_, fun _ p hp => ?_⟩
    · rw [r1.length] at w
      rw [cut_whole w] at q
      exact q G H _ (Grow.refl sub) (.fro hx.froT)
    · have gr := Grow.laid sub (o := .tup (cutV vs lo hi)) hp
      exact q _ _ _ gr (.fro (.tup upd_same ((r1.cut lo hi).mono gr.gg (List.prefix_refl _))))
  | scr ns =>
    cases hf
    cases hx with
    | own e o => cases o
    | fro rp =>
      cases rp with
      | scr st =>
        exact sl_list pins s σ H _ v vl vu lo hi sl Q I rx hs pl pu ⟨_, _, rfl, sqL_mono sub st, fun p hp => q G _ _ (Grow.aside sub hp) (.own hp upd_same (sub.free hp) (.lst ((RepA.ofInts ns).cut lo hi)))⟩
  | _ => cases hf
/-- a part of a slice -/
def tPt (K : PySem.W.Frag) (ev : Ev (Option Int)) : TO := fun σ H Q => ∃ g G φ s r s', g.K = K ∧ Rel g G φ s σ H ∧ ev s = some (r, s') ∧
  ∀ G' φ' H', Rel g G' φ' s' σ H' → Same G G' → φ <+: φ' → Q r H'
def SP (X : Cx) (e : Option Expr) (ev : Ev (Option Int)) : Prop := PO X e (tPt X.K ev)
theorem po_imp {X : Cx} {e : Option Expr} {t t' : TO} (h : PO X e t) (f : ∀ σ H Q, t' σ H Q → t σ H Q) : PO X e t' := ⟨fun pins s σ H Q I q => h.run pins s σ H Q I (f _ _ _ q)⟩
def evNo : Ev (Option Int) := fun s => some (none, s)
def evPt (a : Ev Bor) : Ev (Option Int) := fun s => (a s).bind fun p => match fetch p.2 p.1 with
  | some (.int i) => some (some i, p.2)
  | _ => none
theorem sp_none : SP X none evNo := po_imp po_none fun σ H Q ⟨g, G, φ, s, r, s', hK, R, he, q⟩ => by
  cases he
  exact q G φ H R (Same.refl _) (List.prefix_refl _)
theorem sp_some {e : Expr} {a : Ev Bor} (h : SB X e a) : SP X (some e) (evPt a) := po_imp (po_some h) fun σ H Q ⟨g, G, φ, s, r, s', hK, R, he, q⟩ => by
  obtain ⟨⟨b, s1⟩, e1, he⟩ := bind_some_iff he
  cases e2 : fetch s1 b with
  | none => rw [e2] at he; cases he
  | some d =>
    rw [e2] at he
    cases d with
    | int i =>
      cases he
      refine ⟨g, G, φ, s, b, _, hK, R, e1, fun G1 φ1 H1 v R1 h1 h2 x => ⟨i, (R1.fetch x e2).int, q G1 φ1 H1 R1 h1 h2⟩⟩
    | _ => cases he
def evSl (f : Sl) (a : Ev Bor) (l h : Ev (Option Int)) : Ev RV := fun s => (a s).bind fun p => (l p.2).bind fun x => (h x.2).bind fun y => (fetch y.2 p.1).bind fun d => (f d x.1 y.1).map fun r => (r, y.2)
theorem sr_slice {e : Expr} {lo hi : Option Expr} {a : Ev Bor} {l h : Ev (Option Int)} {p2 pos : Pos} (he : SB X e a) (hl : SP X lo l) (hh : SP X hi h) : SR X (.Subscript e (.Slice lo hi none p2) pos) (evSl dSl a l h) :=
  pe_imp (pe_slice dsl he hl hh) fun σ H Q ⟨g, G, φ, s, r, s', hK, R, he, q⟩ => by
    obtain ⟨⟨b, s1⟩, e1, he⟩ := bind_some_iff he
    obtain ⟨⟨x, s2⟩, e2, he⟩ := bind_some_iff he
    obtain ⟨⟨y, s3⟩, e3, he⟩ := bind_some_iff he
    obtain ⟨d, e4, he⟩ := bind_some_iff he
    obtain ⟨r', e5, he⟩ := map_some_iff he
    cases he
    refine ⟨g, G, φ, s, b, s1, hK, R, e1, fun G1 φ1 H1 v R1 h1 h2 z => ?_⟩
    refine ⟨g, G1, φ1, s1, x, s2, hK, R1, e2, fun G2 φ2 H2 R2 h3 h4 => ?_⟩
    refine ⟨g, G2, φ2, s2, y, s3, hK, R2, e3, fun G3 φ3 H3 R3 h5 h6 => ?_⟩
    refine ⟨φ3, G3, d, r, R3.sub, hK ▸ R3.fetch ((z.mono h3 h4).mono h5 h6) e4, e5, fun G4 H4 w gr o => ?_⟩
    exact q G4 φ3 H4 w (R3.grow gr) (((h1.trans h3).trans h5).trans gr.gg) ((h2.trans h4).trans h6) (ORes.res R3 gr (hK ▸ o))
/-- -a -/
def evNeg (a : Ev Bor) : Ev RV := fun s => (a s).bind fun p => match fetch p.2 p.1 with
  | some (.int i) => some (.fro (.int (-i)), p.2)
  | _ => none
theorem sr_neg {e : Expr} {a : Ev Bor} {pos : Pos} (h : SB X e a) : SR X (.UnaryOp .USub e pos) (evNeg a) := pe_imp (pe_un un_neg h) fun σ H Q ⟨g, G, φ, s, r, s', hK, R, he, q⟩ => by
  obtain ⟨⟨b, s1⟩, e1, he⟩ := bind_some_iff he
  cases e2 : fetch s1 b with
  | none => rw [e2] at he; cases he
  | some d =>
    rw [e2] at he
    cases d with
    | int i =>
      cases he
      refine ⟨g, G, φ, s, b, _, hK, R, e1, fun G1 φ1 H1 v R1 h1 h2 x => ⟨i, (R1.fetch x e2).int, q G1 φ1 H1 _ R1 h1 h2 (.fro (.int _))⟩⟩
    | _ => cases he

theorem OpAll.one {K : PySem.W.Frag} {φ : List Addr} {G H : Hp} {vs : List V} {d : D} (h : OpAll K φ G H vs [d]) : ∃ v, vs = [v] ∧ OpRep K φ G H v d := by
  cases h with
  | cons r rs => cases rs; exact ⟨_, rfl, r⟩
theorem OpAll.two {K : PySem.W.Frag} {φ : List Addr} {G H : Hp} {vs : List V} {d e : D} (h : OpAll K φ G H vs [d, e]) : ∃ v w, vs = [v, w] ∧ OpRep K φ G H v d ∧ OpRep K φ G H w e := by
  cases h with
  | cons r rs =>
    obtain ⟨w, rfl, r2⟩ := rs.one
    exact ⟨_, w, rfl, r, r2⟩
def dLen : OpN := fun xs => match xs with
  | [.lst ds] => some (.fro (.int ds.length))
  | [.tup ds] => some (.fro (.int ds.length))
  | [.dct false ds] => some (.fro (.int ds.length))
  | [.scr ns] => some (.fro (.int ns.length))
  | [.str x] => if x.length ≤ 1000000 then some (.fro (.int x.length)) else none
  | _ => none
theorem RepK.length {K : PySem.W.Frag} {φ : List Addr} {G : Hp} : ∀ {vs ds}, RepK K φ G vs ds → vs.length = ds.length
  | _, _, .nil => rfl
  | _, _, .cons _ r => congrArg Nat.succ r.length
theorem dcall_len : DCall X (.builtin "len") dLen := fun pins s σ H xs us Q I rx ⟨φ, G, ds, r, sub, hx, hf, q⟩ => by
  unfold dLen at hf
  split at hf
  · cases hf
    obtain ⟨v, rfl, o⟩ := hx.one
    obtain ⟨a, vs, rfl, s1, r1⟩ := o.lst sub
    exact call_len_seq pins s σ H _ us Q I rx ⟨a, vs, rfl, .inl (SqL.of s1), by rw [r1.length]; exact q G H _ (Grow.refl sub) (.fro (.int _))⟩
  · cases hf
    obtain ⟨v, rfl, o⟩ := hx.one
    obtain ⟨a, vs, rfl, s1, r1⟩ := o.tup sub
    exact call_len_seq pins s σ H _ us Q I rx ⟨a, vs, rfl, .inr (SqT.of s1), by rw [r1.length]; exact q G H _ (Grow.refl sub) (.fro (.int _))⟩
  · cases hf
    obtain ⟨v, rfl, o⟩ := hx.one
    obtain ⟨a, kvs, rfl, s1, r1⟩ := o.dctK sub
    obtain ⟨u, rfl, ru⟩ := rx.one
    cases ru
    exact d_len I s1 fun t s' I' => ⟨.int _, H, I', ⟨t, rfl⟩, by rw [r1.length]; exact q G H _ (Grow.refl sub) (.fro (.int _))⟩
  · cases hf
    obtain ⟨v, rfl, o⟩ := hx.one
    cases o with
    | own e z => cases z
    | fro rp =>
      cases rp with
      | scr st =>
        refine call_len_seq pins s σ H _ us Q I rx ⟨_, _, rfl, .inl (sqL_mono sub st), ?_⟩
        rw [List.length_map]
        exact q G H _ (Grow.refl sub) (.fro (.int _))
  · split at hf
    · rename_i hl
      cases hf
      obtain ⟨v, rfl, o⟩ := hx.one
      cases o.str
      have := million
      exact call_len_str pins s σ H _ us Q I rx ⟨_, rfl, by omega, q G H _ (Grow.refl sub) (.fro (.int _))⟩
    · cases hf
  · cases hf
def dList : OpN := fun xs => match xs with
  | [.lst ds] => some (.own (.lst ds))
  | [.tup ds] => some (.own (.lst ds))
  | _ => none
theorem dcall_list : DCall X (.type "list") dList := fun pins s σ H xs us Q I rx ⟨φ, G, ds, r, sub, hx, hf, q⟩ => by
  unfold dList at hf
  split at hf
  · cases hf
    obtain ⟨v, rfl, o⟩ := hx.one
    obtain ⟨a, vs, rfl, s1, r1⟩ := o.lst sub
    exact call_list_of pins s σ H _ us Q I rx ⟨a, vs, rfl, .inl (SqL.of s1), fun p hp => q G _ _ (Grow.aside sub hp) (.own hp upd_same (sub.free hp) (.lst r1))⟩
  · cases hf
    obtain ⟨v, rfl, o⟩ := hx.one
    obtain ⟨a, vs, rfl, s1, r1⟩ := o.tup sub
    exact call_list_of pins s σ H _ us Q I rx ⟨a, vs, rfl, .inr (SqT.of s1), fun p hp => q G _ _ (Grow.aside sub hp) (.own hp upd_same (sub.free hp) (.lst r1))⟩
  · cases hf
def dTuple : OpN := fun xs => match xs with
  | [.lst ds] => some (.fro (.tup ds))
  | [.tup ds] => some (.fro (.tup ds))
  | _ => none
theorem dcall_tuple : DCall X (.type "tuple") dTuple := fun pins s σ H xs us Q I rx ⟨φ, G, ds, r, sub, hx, hf, q⟩ => by
  unfold dTuple at hf
  split at hf
  · cases hf
    obtain ⟨v, rfl, o⟩ := hx.one
    obtain ⟨a, vs, rfl, s1, r1⟩ := o.lst sub
    refine call_tuple_of pins s σ H _ us Q I rx ⟨a, vs, rfl, .inl ⟨SqL.of s1, fun p hp => ?_⟩⟩
    have gr := Grow.laid sub (o := .tup vs) hp
    exact q _ _ _ gr (.fro (.tup upd_same (r1.mono gr.gg (List.prefix_refl _))))
  · cases hf
    obtain ⟨v, rfl, o⟩ := hx.one
    obtain ⟨a, vs, rfl, s1, r1⟩ := o.tup sub
    exact call_tuple_of pins s σ H _ us Q I rx ⟨a, vs, rfl, .inr ⟨SqT.of s1, q G H _ (Grow.refl sub) (.fro o.froT)⟩⟩
  · cases hf
def dSum : OpN := fun xs => match xs with
  | [.lst ds] => (intsOf ds).map fun ns => .fro (.int ns.sum)
  | _ => none
theorem dcall_sum (hc : X.calm = true) : DCall X (.builtin "sum") dSum := fun pins s σ H xs us Q I rx ⟨φ, G, ds, r, sub, hx, hf, q⟩ => by
  unfold dSum at hf
  split at hf
  · obtain ⟨ns, e, hf⟩ := map_some_iff hf
    subst hf
    obtain ⟨v, rfl, o⟩ := hx.one
    obtain ⟨a, vs, rfl, s1, r1⟩ := o.lst sub
    have := r1.ints e
    subst this
    exact cr_sum hc pins s σ H _ us Q I rx ⟨a, ns, rfl, SqL.of s1, q G H _ (Grow.refl sub) (.fro (.int _))⟩
  · cases hf
def lMax : List Int → Int
  | [] => 0
  | [x] => x
  | x :: xs => max x (lMax xs)
def lMin : List Int → Int
  | [] => 0
  | [x] => x
  | x :: xs => min x (lMin xs)
theorem lMax_is : ∀ {ns : List Int} {m : Int}, m ∈ ns → (∀ y ∈ ns, y ≤ m) → lMax ns = m
  | [x], m, h, _ => by simp at h; subst h; rfl
  | x :: y :: r, m, h, k => by
    show max x (lMax (y :: r)) = m
    by_cases hm : m ∈ y :: r
    · rw [lMax_is hm fun z hz => k z (List.mem_cons_of_mem _ hz)]
      have := k x List.mem_cons_self
      omega
    · have e : m = x := by
        rcases List.mem_cons.mp h with e | e
        · exact e
        · exact absurd e hm
      subst e
      have all : ∀ {zs : List Int}, zs ≠ [] → (∀ z ∈ zs, z ≤ m) → lMax zs ≤ m := by
        intro zs
        induction zs with
        | nil => intro h; exact absurd rfl h
        | cons z zs ih =>
          intro _ hz
          cases zs with
          | nil => exact hz z List.mem_cons_self
          | cons z2 zs =>
            have h1 := hz z List.mem_cons_self
            have h2 := ih (by simp) fun w hw => hz w (List.mem_cons_of_mem _ hw)
            show max z (lMax (z2 :: zs)) ≤ m
            omega
      have := all (zs := y :: r) (by simp) fun z hz => k z (List.mem_cons_of_mem _ hz)
      omega
theorem lMin_is : ∀ {ns : List Int} {m : Int}, m ∈ ns → (∀ y ∈ ns, m ≤ y) → lMin ns = m
  | [x], m, h, _ => by simp at h; subst h; rfl
  | x :: y :: r, m, h, k => by
    show min x (lMin (y :: r)) = m
    by_cases hm : m ∈ y :: r
    · rw [lMin_is hm fun z hz => k z (List.mem_cons_of_mem _ hz)]
      have := k x List.mem_cons_self
      omega
    · have e : m = x := by
        rcases List.mem_cons.mp h with e | e
        · exact e
        · exact absurd e hm
      subst e
      have all : ∀ {zs : List Int}, zs ≠ [] → (∀ z ∈ zs, m ≤ z) → m ≤ lMin zs := by
        intro zs
        induction zs with
        | nil => intro h; exact absurd rfl h
        | cons z zs ih =>
          intro _ hz
          cases zs with
          | nil => exact hz z List.mem_cons_self
          | cons z2 zs =>
            have h1 := hz z List.mem_cons_self
            have h2 := ih (by simp) fun w hw => hz w (List.mem_cons_of_mem _ hw)
            show m ≤ min z (lMin (z2 :: zs))
            omega
      have := all (zs := y :: r) (by simp) fun z hz => k z (List.mem_cons_of_mem _ hz)
      omega
def dMax : OpN := fun xs => match xs with
  | [.lst ds] => (intsOf ds).bind fun ns => if ns.isEmpty then none else some (.fro (.int (lMax ns)))
  | [.int i, .int j] => some (.fro (.int (max i j)))
  | _ => none
def dMin : OpN := fun xs => match xs with
  | [.lst ds] => (intsOf ds).bind fun ns => if ns.isEmpty then none else some (.fro (.int (lMin ns)))
  | [.int i, .int j] => some (.fro (.int (min i j)))
  | _ => none
theorem dcall_max (hc : X.calm = true) : DCall X (.builtin "max") dMax := fun pins s σ H xs us Q I rx ⟨φ, G, ds, r, sub, hx, hf, q⟩ => by
  unfold dMax at hf
  split at hf
  · obtain ⟨ns, e, hf⟩ := bind_some_iff hf
    split at hf
    · cases hf
    · rename_i hne
      cases hf
      obtain ⟨v, rfl, o⟩ := hx.one
      obtain ⟨a, vs, rfl, s1, r1⟩ := o.lst sub
      have := r1.ints e
      subst this
      refine cr_max hc pins s σ H _ us Q I rx ⟨a, ns, rfl, SqL.of s1, ?_, fun m h1 h2 => ?_⟩
      · cases ns with
        | nil => exact absurd rfl hne
        | cons => exact Nat.succ_pos _
      · rw [← lMax_is h1 h2]
        exact q G H _ (Grow.refl sub) (.fro (.int _))
  · rename_i i j
    cases hf
    obtain ⟨v, w, rfl, o1, o2⟩ := hx.two
    cases o1.int
    cases o2.int
    refine call_max2 hc pins s σ H _ us Q I rx ⟨i, j, rfl, ?_⟩
    rw [show (if j > i then j else i) = max i j by split <;> omega]
    exact q G H _ (Grow.refl sub) (.fro (.int _))
  · cases hf
theorem dcall_min (hc : X.calm = true) : DCall X (.builtin "min") dMin := fun pins s σ H xs us Q I rx ⟨φ, G, ds, r, sub, hx, hf, q⟩ => by
  unfold dMin at hf
  split at hf
  · obtain ⟨ns, e, hf⟩ := bind_some_iff hf
    split at hf
    · cases hf
    · rename_i hne
      cases hf
      obtain ⟨v, rfl, o⟩ := hx.one
      obtain ⟨a, vs, rfl, s1, r1⟩ := o.lst sub
      have := r1.ints e
      subst this
      refine cr_min hc pins s σ H _ us Q I rx ⟨a, ns, rfl, SqL.of s1, ?_, fun m h1 h2 => ?_⟩
      · cases ns with
        | nil => exact absurd rfl hne
        | cons => exact Nat.succ_pos _
      · rw [← lMin_is h1 h2]
        exact q G H _ (Grow.refl sub) (.fro (.int _))
  · rename_i i j
    cases hf
    obtain ⟨v, w, rfl, o1, o2⟩ := hx.two
    cases o1.int
    cases o2.int
    refine call_min2 hc pins s σ H _ us Q I rx ⟨i, j, rfl, ?_⟩
    rw [show (if j < i then j else i) = min i j by split <;> omega]
    exact q G H _ (Grow.refl sub) (.fro (.int _))
  · cases hf
def blsOf : List D → Option (List Bool)
  | [] => some []
  | .bl i :: ds => (blsOf ds).map fun r => i :: r
  | _ => none
theorem RepA.bls {K : PySem.W.Frag} {φ : List Addr} {G : Hp} : ∀ {vs : List V} {ds : List D} {ns : List Bool}, RepA K φ G vs ds → blsOf ds = some ns → vs = ns.map V.bl
  | _, _, _, .nil, h => by cases h; rfl
  | _, _, _, .cons (d := d) (ds := ds) r rs, h => by
    cases d with
    | bl i =>
      obtain ⟨m, e, h⟩ := map_some_iff (show (blsOf ds).map (fun r => i :: r) = some _ from h)
      subst h
      cases r
      rw [RepA.bls rs e]
      rfl
    | _ => cases h
def dAll : OpN := fun xs => match xs with
  | [.lst ds] => (blsOf ds).map fun ns => .fro (.bl (ns.all id))
  | _ => none
def dAny : OpN := fun xs => match xs with
  | [.lst ds] => (blsOf ds).map fun ns => .fro (.bl (ns.any id))
  | _ => none
theorem dcall_all (hc : X.calm = true) : DCall X (.builtin "all") dAll := fun pins s σ H xs us Q I rx ⟨φ, G, ds, r, sub, hx, hf, q⟩ => by
  unfold dAll at hf
  split at hf
  · obtain ⟨ns, e, hf⟩ := map_some_iff hf
    subst hf
    obtain ⟨v, rfl, o⟩ := hx.one
    obtain ⟨a, vs, rfl, s1, r1⟩ := o.lst sub
    have := r1.bls e
    subst this
    exact cr_all hc pins s σ H _ us Q I rx ⟨a, ns, rfl, SqL.of s1, q G H _ (Grow.refl sub) (.fro (.bl _))⟩
  · cases hf
theorem dcall_any (hc : X.calm = true) : DCall X (.builtin "any") dAny := fun pins s σ H xs us Q I rx ⟨φ, G, ds, r, sub, hx, hf, q⟩ => by
  unfold dAny at hf
  split at hf
  · obtain ⟨ns, e, hf⟩ := map_some_iff hf
    subst hf
    obtain ⟨v, rfl, o⟩ := hx.one
    obtain ⟨a, vs, rfl, s1, r1⟩ := o.lst sub
    have := r1.bls e
    subst this
    exact cr_any hc pins s σ H _ us Q I rx ⟨a, ns, rfl, SqL.of s1, q G H _ (Grow.refl sub) (.fro (.bl _))⟩
  · cases hf
def dInt : OpN := fun xs => match xs with
  | [.int i] => some (.fro (.int i))
  | [.bl b] => some (.fro (.int (if b then 1 else 0)))
  | _ => none
theorem dcall_int : DCall X (.type "int") dInt := fun pins s σ H xs us Q I rx ⟨φ, G, ds, r, sub, hx, hf, q⟩ => by
  unfold dInt at hf
  split at hf
  · cases hf
    obtain ⟨v, rfl, o⟩ := hx.one
    cases o.int
    exact call_int1 pins s σ H _ us Q I rx (.inl ⟨_, rfl, q G H _ (Grow.refl sub) (.fro (.int _))⟩)
  · cases hf
    obtain ⟨v, rfl, o⟩ := hx.one
    cases o.bl
    exact call_int1 pins s σ H _ us Q I rx (.inr ⟨_, rfl, q G H _ (Grow.refl sub) (.fro (.int _))⟩)
  · cases hf
def tyOf : D → Option String
  | .non => some "NoneType"
  | .bl _ => some "bool"
  | .int _ => some "int"
  | .str _ => some "str"
  | .tup _ => some "tuple"
  | .lst _ => some "list"
  | .dct false _ => some "dict"
  | .dct true _ => some "dict"
  | _ => none
/-- what isinstance asks of a value -/
theorem kit_D {φ : List Addr} {G H : Hp} {pins : List (Addr × Obj)} {σ : L2.St} {s : Shared} {v : V} {u : Value} {d : D} {t : String} (I : Inv X pins σ H s) (rv : RelV v u) (sub : Same G H) (r : OpRep X.K φ G H v d) (e : tyOf d = some t) :
    ∃ P : Heap → Prop, PySem.W.KitX X.K u (.type t) P ∧ P s.heap ∧ u ≠ .builtin "__main__.__loader__#opaque" := by
  cases d with
  | non => cases r.non; cases e; exact kit_of I rv (.base .non)
  | bl b => cases r.bl; cases e; exact kit_of I rv (.base (.bl b))
  | int b => cases r.int; cases e; exact kit_of I rv (.base (.int b))
  | str b => cases r.str; cases e; exact kit_of I rv (.base (.str b))
  | tup ds => cases e; obtain ⟨a, vs, rfl, s1, _⟩ := r.tup sub; exact kit_of I rv (.base (.tup s1))
  | lst ds => cases e; obtain ⟨a, vs, rfl, s1, _⟩ := r.lst sub; exact kit_of I rv (.base (.lst s1))
  | dct b ds =>
    cases b with
    | false =>
      cases e
      obtain ⟨a, kvs, rfl, s1, _⟩ := r.dctK sub
      rcases s1 with s1 | ⟨o, s1⟩
      · exact kit_of I rv (.base (.dK s1))
      · exact kit_of I rv (.fDict s1)
    | true =>
      cases e
      obtain ⟨a, kvs, rfl, s1, _⟩ := r.dctT sub
      cases rv
      obtain ⟨_, _, _, _, o, es, ep, h1, h2, _⟩ := (show ObjOk X.prog X.w H s.heap a (.dT kvs) from s1.ok I.hok)
      exact ⟨_, PySem.W.kitx_dict, ⟨o, h1, h2.1⟩, fun z => nomatch z⟩
  | hd n => cases e
  | scr n => cases e
def isiB (T : String) : D → Option RV := fun d => (tyOf d).bind fun t => (kitB t T).map fun b => .fro (.bl b)
def evIsi (T : String) (a : Ev Bor) : Ev RV := fun s => (a s).bind fun p => (fetch p.2 p.1).bind fun d => (isiB T d).map fun r => (r, p.2)
/-- isinstance(e, T) -/
theorem sr_isi {T : Str} {Tn : String} {e : Expr} {a : Ev Bor} {p p2 pos : Pos} (hg : Gl X "isinstance") (hm : X.mg "isinstance" = none) (hgT : Gl X T) (hmT : X.mg T = none) (hvT : bootBuiltins T = some (.type Tn)) (ha : SB X e a)
    (hnT : T ≠ "__name__" := by decide) (hdT : (T == ("__debug__" : Str)) = false := by decide) (h1 : starEach [e, .Name T p2] X.env = (false, eval e X.env) :: starEach [.Name T p2] X.env := by rfl) (h2 : starEach [.Name T p2] X.env = (false, eval (.Name T p2) X.env) :: starEach [] X.env := by rfl) (hpl : (backTo pos (starEach [.Name T p2] X.env)).any (·.1) = false := by rfl) :
    SR X (.Call (.Name "isinstance" p) [e, .Name T p2] [] pos) (evIsi Tn a) := by
  have hc : CallR X (.builtin "isinstance") (fun xs H Q => ∃ φ G v d r, xs = [v, .ty Tn] ∧ Same G H ∧ OpRep X.K φ G H v d ∧ isiB Tn d = some r ∧ OkRes X.K φ G H r Q) := fun pins s σ H xs us Q I rx ⟨φ, G, v, d, r, ex, sub, o, hr, q⟩ => by
    subst ex
    obtain ⟨u1, u2, rfl, r1, r2⟩ := rx.two
    cases (show u2 = Value.type Tn from r2)
    obtain ⟨t, e1, hr⟩ := bind_some_iff hr
    obtain ⟨b, e2, hr⟩ := map_some_iff hr
    subst hr
    obtain ⟨P, Z, pz, hx⟩ := kit_D I r1 sub o e1
    exact PySem.W.kia_one Z I.kIn pz (kit_ty e2) hx fun tk => ⟨.bl b, H, I.tok tk, rfl, q G H _ (Grow.refl sub) (.fro (.bl b))⟩
  refine pe_imp (pe_callB hc hg hm (by decide +kernel) (pa_cons ha (pa_cons (pe_bltn (v := .ty Tn) hgT hmT hvT rfl hnT hdT) pa_nil h2) h1) (by decide) (by decide) h1 hpl) fun σ H Q ⟨g, G, φ, s, r, s', hK, R, he, q⟩ => ?_
  obtain ⟨⟨b, s1⟩, e1, he⟩ := bind_some_iff he
  obtain ⟨d, e2, he⟩ := bind_some_iff he
  obtain ⟨r', e3, he⟩ := map_some_iff he
  cases he
  refine ⟨g, G, φ, s, b, s1, hK, R, e1, fun G1 φ1 H1 v R1 h1 h2 x => ?_⟩
  exact ⟨φ1, G1, v, d, r, rfl, R1.sub, hK ▸ R1.fetch x e2, e3, fun G3 H3 w gr o => q G3 φ1 H3 w (R1.grow gr) (h1.trans gr.gg) h2 (ORes.res R1 gr (hK ▸ o))⟩

def mAppend : Mut1 := fun d xs => match d, xs with
  | .lst ds, [x] => if ds.length < 1000000 then some (.lst (ds ++ [x]), .non) else none
  | _, _ => none
theorem RepA.one {K : PySem.W.Frag} {φ : List Addr} {G : Hp} {vs : List V} {d : D} (h : RepA K φ G vs [d]) : ∃ v, vs = [v] ∧ Rep K φ G v d := by
  cases h with
  | cons r rs => cases rs; exact ⟨_, rfl, r⟩
theorem RepA.two {K : PySem.W.Frag} {φ : List Addr} {G : Hp} {vs : List V} {d e : D} (h : RepA K φ G vs [d, e]) : ∃ v w, vs = [v, w] ∧ Rep K φ G v d ∧ Rep K φ G w e := by
  cases h with
  | cons r rs =>
    obtain ⟨w, rfl, r2⟩ := rs.one
    exact ⟨_, w, rfl, r, r2⟩
theorem dm_append : DMut X "list.append" mAppend := fun pins s σ H x xs v us Q I rx rxs ⟨φ, G, p, o, d, ds, d', r, ex, hp, ow, gp, sub, ra, hf, q⟩ => by
  unfold mAppend at hf
  split at hf
  · split at hf
    · rename_i hl
      cases hf
      obtain ⟨y, rfl, ry⟩ := ra.one
      cases ow with
      | lst r1 =>
        have := million
        exact mt_append pins s σ H x _ v us Q I rx rxs ⟨p, _, y, ex, rfl, hp, by rw [r1.length]; omega, q _ _ (.lst (r1.append (.cons ry .nil))) .non⟩
    · cases hf
  · cases hf
def mExtend : Mut1 := fun d xs => match d, xs with
  | .lst ds, [.lst es] => if ds.length + es.length ≤ 1000000 then some (.lst (ds ++ es), .non) else none
  | _, _ => none
theorem dm_extend : DMut X "list.extend" mExtend := fun pins s σ H x xs v us Q I rx rxs ⟨φ, G, p, o, d, ds, d', r, ex, hp, ow, gp, sub, ra, hf, q⟩ => by
  unfold mExtend at hf
  split at hf
  · split at hf
    · rename_i hl
      cases hf
      obtain ⟨y, rfl, ry⟩ := ra.one
      cases ry with
      | lst s2 r2 =>
        cases ow with
        | lst r1 =>
          have := million
          exact mt_extend pins s σ H x _ v us Q I rx rxs ⟨p, _, _, _, ex, rfl, hp, sub _ _ s2, by rw [r1.length, r2.length]; omega, q _ _ (.lst (r1.append r2)) .non⟩
    · cases hf
  · cases hf
def mInsert : Mut1 := fun d xs => match d, xs with
  | .lst ds, [.int i, x] => if ds.length < 1000000 ∧ 0 ≤ i ∧ i < 1000000 then some (.lst (ds.take i.toNat ++ [x] ++ ds.drop i.toNat), .non) else none
  | _, _ => none
theorem dm_insert : DMut X "list.insert" mInsert := fun pins s σ H x xs v us Q I rx rxs ⟨φ, G, p, o, d, ds, d', r, ex, hp, ow, gp, sub, ra, hf, q⟩ => by
  unfold mInsert at hf
  split at hf
  · split at hf
    · rename_i hl
      cases hf
      obtain ⟨y, z, rfl, ry, rz⟩ := ra.two
      cases ry
      cases ow with
      | lst r1 =>
        have := million
        exact mt_insert pins s σ H x _ v us Q I rx rxs ⟨p, _, _, z, ex, rfl, hp, by rw [r1.length]; omega, hl.2.1, by omega, q _ _ (.lst (((r1.take _).append (.cons rz .nil)).append (r1.drop _))) .non⟩
    · cases hf
  · cases hf
def mPop : Mut1 := fun d xs => match d, xs with
  | .lst ds, [] => (ds[ds.length - 1]?).map fun y => (.lst ds.dropLast, y)
  | .lst ds, [.int i] => if -1000000 ≤ i ∧ i < 1000000 then (seqIndex? i ds.length).bind fun k => (ds[k]?).map fun y => (.lst (ds.eraseIdx k), y) else none
  | _, _ => none
theorem RepA.dropLast {K : PySem.W.Frag} {φ : List Addr} {G : Hp} {vs : List V} {ds : List D} (r : RepA K φ G vs ds) : RepA K φ G vs.dropLast ds.dropLast := by
  rw [List.dropLast_eq_take, List.dropLast_eq_take, r.length]
  exact r.take _
theorem RepA.eraseIdx {K : PySem.W.Frag} {φ : List Addr} {G : Hp} : ∀ {vs ds} (n : Nat), RepA K φ G vs ds → RepA K φ G (vs.eraseIdx n) (ds.eraseIdx n)
  | _, _, n, .nil => by simp; exact .nil
  | _, _, 0, .cons _ r => r
  | _, _, n + 1, .cons a r => .cons a (r.eraseIdx n)
theorem dm_pop : DMut X "list.pop" mPop := fun pins s σ H x xs v us Q I rx rxs ⟨φ, G, p, o, d, ds, d', r, ex, hp, ow, gp, sub, ra, hf, q⟩ => by
  unfold mPop at hf
  split at hf
  · obtain ⟨y, e, hf⟩ := map_some_iff hf
    cases hf
    cases ra
    cases ow with
    | lst r1 =>
      obtain ⟨w, e1, rw'⟩ := r1.get e
      rw [← r1.length] at e1
      exact mt_pop pins s σ H x _ v us Q I rx rxs ⟨p, _, w, ex, rfl, hp, e1, q _ _ (.lst r1.dropLast) rw'⟩
  · split at hf
    · rename_i hl
      obtain ⟨k, e1, hf⟩ := bind_some_iff hf
      obtain ⟨y, e, hf⟩ := map_some_iff hf
      cases hf
      obtain ⟨z, rfl, rz⟩ := ra.one
      cases rz
      cases ow with
      | lst r1 =>
        obtain ⟨w, e2, rw'⟩ := r1.get e
        rw [← r1.length] at e1
        exact mt_popAt pins s σ H x _ v us Q I rx rxs ⟨p, _, _, k, w, ex, rfl, hp, by omega, by omega, e1, e2, q _ _ (.lst (r1.eraseIdx k)) rw'⟩
    · cases hf
  · cases hf
def mClear : Mut1 := fun d xs => match d, xs with
  | .lst _, [] => some (.lst [], .non)
  | _, _ => none
theorem dm_clear : DMut X "list.clear" mClear := fun pins s σ H x xs v us Q I rx rxs ⟨φ, G, p, o, d, ds, d', r, ex, hp, ow, gp, sub, ra, hf, q⟩ => by
  unfold mClear at hf
  split at hf
  · cases hf
    cases ra
    cases ow with
    | lst r1 => exact mt_clear pins s σ H x _ v us Q I rx rxs ⟨p, _, ex, rfl, hp, q _ _ (.lst .nil) .non⟩
  · cases hf
def putD (kvs : List (D × D)) (k : Key) (v : D) : List (D × D) := if (lookK kvs k).isSome then kvs.map (fun p => if toKey p.1 = some k then (p.1, v) else p) else kvs ++ [(kD k, v)]
def putT (kvs : List (D × D)) (k : List Key) (v : D) : List (D × D) := if (lookT kvs k).isSome then kvs.map (fun p => if tupKeys p.1 = some k then (p.1, v) else p) else kvs ++ [(.tup (k.map kD), v)]
theorem OptRep.isSome {K : PySem.W.Frag} {φ : List Addr} {G : Hp} {a : Option V} {b : Option D} (h : OptRep K φ G a b) : a.isSome = b.isSome := by cases h <;> rfl
theorem RepK.append {K : PySem.W.Frag} {φ : List Addr} {G : Hp} : ∀ {vs ds ws es}, RepK K φ G vs ds → RepK K φ G ws es → RepK K φ G (vs ++ ws) (ds ++ es)
  | _, _, _, _, .nil, r => r
  | _, _, _, _, .cons a b, r => .cons a (b.append r)
theorem RepT.append {K : PySem.W.Frag} {φ : List Addr} {G : Hp} : ∀ {vs ds ws es}, RepT K φ G vs ds → RepT K φ G ws es → RepT K φ G (vs ++ ws) (ds ++ es)
  | _, _, _, _, .nil, r => r
  | _, _, _, _, .cons a b, r => .cons a (b.append r)
theorem RepK.put {K : PySem.W.Frag} {φ : List Addr} {G : Hp} {kvs : List (Key × V)} {ds : List (D × D)} {k : Key} {v : V} {d : D} (r : RepK K φ G kvs ds) (rv : Rep K φ G v d) : RepK K φ G (putK kvs k v) (putD ds k d) := by
  unfold putK putD
  rw [valV_any, (lookK_V r).isSome]
  cases (lookK ds k).isSome with
  | false => rw [if_neg Bool.false_ne_true, if_neg Bool.false_ne_true]; exact r.append (.cons rv .nil)
  | true =>
    rw [if_pos rfl, if_pos rfl]
    have all : ∀ {kvs : List (Key × V)} {ds : List (D × D)}, RepK K φ G kvs ds → RepK K φ G (kvs.map fun kv => if kv.1 = k then (kv.1, v) else kv) (ds.map fun p => if toKey p.1 = some k then (p.1, d) else p) := by
      intro kvs ds r
      induction kvs generalizing ds with
      | nil => cases r; exact .nil
      | cons p kvs ih =>
        cases r with
        | cons ra rs =>
          rename_i j w d0 ds0
          simp only [List.map_cons, toKey_kD]
          by_cases e : j = k
          · subst e
            rw [if_pos rfl, if_pos rfl]
            exact .cons rv (ih rs)
          · rw [if_neg e, if_neg (fun z => e (Option.some.inj z))]
            exact .cons ra (ih rs)
    exact all r
theorem RepT.put {K : PySem.W.Frag} {φ : List Addr} {G : Hp} {kvs : List (List Key × V)} {ds : List (D × D)} {k : List Key} {v : V} {d : D} (r : RepT K φ G kvs ds) (rv : Rep K φ G v d) : RepT K φ G (putK kvs k v) (putT ds k d) := by
  unfold putK putT
  rw [valV_any, (lookT_V r).isSome]
  cases (lookT ds k).isSome with
  | false => rw [if_neg Bool.false_ne_true, if_neg Bool.false_ne_true]; exact r.append (.cons rv .nil)
  | true =>
    rw [if_pos rfl, if_pos rfl]
    have all : ∀ {kvs : List (List Key × V)} {ds : List (D × D)}, RepT K φ G kvs ds → RepT K φ G (kvs.map fun kv => if kv.1 = k then (kv.1, v) else kv) (ds.map fun p => if tupKeys p.1 = some k then (p.1, d) else p) := by
      intro kvs ds r
      induction kvs generalizing ds with
      | nil => cases r; exact .nil
      | cons p kvs ih =>
        cases r with
        | cons ra rs =>
          rename_i j w d0 ds0
          simp only [List.map_cons, tupKeys, toKeys_kD]
          by_cases e : j = k
          · subst e
            rw [if_pos rfl, if_pos rfl]
            exact .cons rv (ih rs)
          · rw [if_neg e, if_neg (fun z => e (Option.some.inj z))]
            exact .cons ra (ih rs)
    exact all r
theorem RepT.length {K : PySem.W.Frag} {φ : List Addr} {G : Hp} : ∀ {vs ds}, RepT K φ G vs ds → vs.length = ds.length
  | _, _, .nil => rfl
  | _, _, .cons _ r => congrArg Nat.succ r.length
theorem RepA.set {K : PySem.W.Frag} {φ : List Addr} {G : Hp} {v : V} {d : D} (rv : Rep K φ G v d) : ∀ {vs ds} (n : Nat), RepA K φ G vs ds → RepA K φ G (vs.set n v) (ds.set n d)
  | _, _, _, .nil => .nil
  | _, _, 0, .cons _ r => .cons rv r
  | _, _, n + 1, .cons a r => .cons a (RepA.set rv n r)
def dSet : D → D → D → Option D := fun c k v => match c with
  | .lst ds => match k with
    | .int i => (ixN ds.length i).map fun j => .lst (ds.set j v)
    | _ => none
  | .dct false kvs => if kvs.length < 1000000 then (toKey k).map fun k => .dct false (putD kvs k v) else none
  | .dct true kvs => if kvs.length < 1000000 then (tupKeys k).map fun k => .dct true (putT kvs k v) else none
  | _ => none
theorem dset (hu : X.A.units + 100 < cLine) : DSet X dSet := fun pins s σ H o i v ov iv u Q I ro ri rv ⟨φ, G, p, ho, d, di, dv, d', ex, hp, ow, gp, sub, oi, rp, hf, q⟩ => by
  have mil := million
  subst ex
  cases ow with
  | lst r1 =>
    cases di with
    | int k =>
      obtain ⟨j, e, hf⟩ := map_some_iff (show (ixN _ k).map _ = some d' from hf)
      subst hf
      cases oi.int
      rw [← r1.length] at e
      exact set_list pins s σ H _ _ v ov iv u Q I ro ri rv ⟨p, _, k, j, rfl, rfl, hp, e, q _ (.lst (RepA.set rp j r1))⟩
    | _ => cases hf
  | dK r1 =>
    have hf : (if _ then _ else _) = some d' := hf
    split at hf
    · rename_i hl
      obtain ⟨k, e, hf⟩ := map_some_iff hf
      subst hf
      have hi : i = kV k := by
        cases oi with
        | fro r => exact toKey_V r e
        | own _ z => cases z <;> cases e
      exact set_dict (by omega) pins s σ H _ _ v ov iv u Q I ro ri rv ⟨p, _, rfl, .inl ⟨_, k, hp, hi, by rw [r1.length]; omega, rfl⟩, q _ (.dK (r1.put rp))⟩
    · cases hf
  | dT r1 =>
    have hf : (if _ then _ else _) = some d' := hf
    split at hf
    · rename_i hl
      obtain ⟨k, e, hf⟩ := map_some_iff hf
      subst hf
      cases di with
      | tup ks =>
        have rt := oi.froT
        cases rt with
        | tup st ra =>
          have := toKeys_V ra e
          subst this
          exact set_dict (by omega) pins s σ H _ _ v ov iv u Q I ro ri rv ⟨p, _, rfl, .inr ⟨_, k, _, hp, rfl, sub _ _ st, by rw [r1.length]; omega, rfl⟩, q _ (.dT (r1.put rp))⟩
      | _ => cases e
    · cases hf
/-- {} -/
def evDNew (t : Bool) : Ev RV := fun s => some (.own (.dct t []), s)
theorem sr_dnewK {pos : Pos} : SR X (.Dict [] [] pos) (evDNew false) := pe_imp pe_dnewK fun σ H Q ⟨g, G, φ, s, r, s', hK, R, he, q⟩ => by
  cases he
  intro p hp
  have gr := Grow.aside R.sub (o := .dK []) hp
  exact q G φ _ _ (R.grow gr) (Same.refl _) (List.prefix_refl _) (.own (Fresh.of_new R gr hp upd_same (R.sub.free hp) (.dK .nil)))
theorem sr_dnewT {pos : Pos} : SR X (.Dict [] [] pos) (evDNew true) := pe_imp pe_dnewT fun σ H Q ⟨g, G, φ, s, r, s', hK, R, he, q⟩ => by
  cases he
  intro p hp
  have gr := Grow.aside R.sub (o := .dT []) hp
  exact q G φ _ _ (R.grow gr) (Same.refl _) (List.prefix_refl _) (.own (Fresh.of_new R gr hp upd_same (R.sub.free hp) (.dT .nil)))
end
end Pv

namespace Pv
open PySem PySem.Spec L2
section
variable {X : Cx}
def dle (a b : D) : Bool := PySem.W.dataLe false py a b
def isNeTup : D → Bool
  | .tup (_ :: _) => true
  | _ => false
def noTup : D → Bool
  | .tup _ => false
  | .non => false
  | .dct _ _ => false
  | .hd _ => false
  | .scr _ => false
  | _ => true
def sortOk (ds : List D) : Bool := decide (ds.length ≤ 1000000) && ds.all (eqOk 40) && ds.all (fun a => ds.all fun b => PySem.W.alike (py a) (py b)) && (ds.all isNeTup || ds.all noTup)
def dSorted : OpN := fun xs => match xs with
  | [.lst ds] => if sortOk ds then some (.own (.lst (ds.mergeSort dle))) else none
  | [.tup ds] => if sortOk ds then some (.own (.lst (ds.mergeSort dle))) else none
  | _ => none
theorem each_zip : ∀ {vs : List V} {its : List Value} {ds : List D}, Vals vs its → vs.length = ds.length → PySem.W.EachIs (fun (u : Value) (b : V × D) => RelV b.1 u) its (vs.zip ds)
  | _, _, [], .nil, _ => .nil
  | _, _, _ :: _, .nil, h => by cases h
  | _, _, [], .cons _ _, h => by cases h
  | _, _, _ :: _, .cons r rs, h => .cons r (each_zip rs (Nat.succ.inj h))
theorem each_reads {K : PySem.W.Frag} {φ : List Addr} {G H : Hp} {pins : List (Addr × Obj)} {σ : L2.St} {s : Shared} (I : Inv X pins σ H s) : ∀ {vs : List V} {its : List Value} {ds : List D}, Vals vs its → RepA X.K φ H vs ds → ds.all (eqOk 40) = true →
    PySem.W.EachIs (fun (u : Value) (b : V × D) => ∃ as, Reads s.heap u (py b.2) as) its (vs.zip ds)
  | _, _, _, .nil, .nil, _ => .nil
  | _, _, _, .cons r rs, .cons p ps, h => by
    rw [List.all_cons, Bool.and_eq_true] at h
    exact .cons (Dp.reads I _ _ _ (rep_dp 40 h.1 p) r) (each_reads (K := K) (G := G) I rs ps h.2)
theorem each_vals : ∀ {out : List Value} {bs : List (V × D)}, PySem.W.EachIs (fun (u : Value) (b : V × D) => RelV b.1 u) out bs → Vals (bs.map (·.1)) out
  | _, _, .nil => .nil
  | _, _, .cons r rs => .cons r (each_vals rs)
theorem repA_pairs {K : PySem.W.Frag} {φ : List Addr} {G : Hp} : ∀ {bs : List (V × D)}, (∀ b ∈ bs, Rep K φ G b.1 b.2) → RepA K φ G (bs.map (·.1)) (bs.map (·.2))
  | [], _ => .nil
  | b :: bs, h => .cons (h b List.mem_cons_self) (repA_pairs fun c hc => h c (List.mem_cons_of_mem _ hc))
theorem RepA.zip {K : PySem.W.Frag} {φ : List Addr} {G : Hp} : ∀ {vs : List V} {ds : List D}, RepA K φ G vs ds → ∀ b ∈ vs.zip ds, Rep K φ G b.1 b.2
  | _, _, .nil, _, h => by simp at h
  | _, _, .cons r rs, b, h => by
    rw [List.zip_cons_cons] at h
    rcases List.mem_cons.mp h with e | e
    · subst e; exact r
    · exact rs.zip b e
theorem py_tup_cons {d : D} (h : isNeTup d = true) : ∃ x r, py d = .tuple (x :: r) := by
  cases d with
  | tup xs =>
    cases xs with
    | nil => cases h
    | cons x r => exact ⟨py x, pyAll r, by rw [py, pyAll]⟩
  | _ => cases h
theorem py_noTup {d : D} (h : noTup d = true) : py d ≠ .none ∧ ∀ xs, py d ≠ .tuple xs := by
  cases d with
  | bl b => rw [py]; exact ⟨by simp, by simp⟩
  | int b => rw [py]; exact ⟨by simp, by simp⟩
  | str b => rw [py]; exact ⟨by simp, by simp⟩
  | lst b => rw [py]; exact ⟨by simp, by simp⟩
  | _ => cases h
section
open PyProof.Rows PySem.Calls PySem.W
variable {pr : Program} {wd : World} {B : Around} {Er : Value → Shared → Prop} {t : Shared}
/-- the items of a tuple, laid into a list -/
theorem collect_tup {c : Addr} {us : List Value} {R : List Value → Shared → Prop} (hc : IsTup t.heap c us.toArray) (hz : us.length ≤ sizeLine)
    (k : R us { t with heap := (t.heap.push (seqObj "list" #[] 0)).update t.heap.objs.size (Obj.mapSeq (· ++ us.toArray)) }) : wpAny (model pr wd) B (collect (.ref c)) R Er t := by
  obtain ⟨ob, h1, h2, n, h3⟩ := id hc
  have fresh0 := Heap.get?_push_size t.heap (o := seqObj "list" #[] 0) rfl
  have old0 : (t.heap.push (seqObj "list" #[] 0)).get? c = some ob := Heap.get?_push_of_some _ h1
  have e0 : ((#[] : Array Value) ++ us.toArray).toList = us := by simp
  unfold collect
  refine wpAny_bind (wpAny_runValue (codeAny_builtin entry_proto_collect' (show wpAny _ _ (newList [] >>= fun z => again (.builtin "list.__iadd__" ⟨[z, .ref c], []⟩)) _ _ t from ?_)))
  refine wpAny_bind (wpAny_newList (wpAny_pure ⟨Code.quiet_builtin _ (by decide +kernel), codeAny_builtin entry_list_iadd' ?_⟩))
  show wpAny _ _ (Builtin.List.listExtendWith _ (.ref c) _) _ _ { t with heap := t.heap.push (seqObj "list" #[] 0) }
  unfold Builtin.List.listExtendWith
  refine wpAny_bind (wpAny_typeOf (T := "tuple") ⟨ob, old0, h2⟩ ?_)
  rw [if_pos (by simp)]
  refine wpAny_bind (listItems_at old0 h3 (wpAny_bind (listItems_at (xs := #[]) (n := 0) fresh0 rfl ?_)))
  rw [if_neg (by simp)]
  have z2 : ((#[] : Array Value) ++ us.toArray).size ≤ sizeLine + 1 := by rw [Array.size_append, List.size_toArray]; simp; omega
  refine wpAny_bind (listUpdate_at (xs := #[]) (n := 0) fresh0 rfl (wpAny_pure ?_) (Nat.zero_le _) z2)
  show wpAny (model pr wd) B (load t.heap.objs.size >>= fun ob => match ob.data with
      | .seq ys _ => pure ys.toList
      | _ => unsupported "internal:collect") R Er _
  refine wpAny_bind (wpAny_load (get?_update_seq fresh0 _) ?_)
  show wpAny _ _ (pure ((#[] : Array Value) ++ us.toArray).toList) R Er _
  rw [e0]
  exact wpAny_pure k
theorem sorted_tupD {c : Addr} {β : Type} {us : List Value} {bs : List β} {enc : β → PyData} {R : Value → β → Prop} {Q : Value → Shared → Prop} (hc : IsTup t.heap c us.toArray) (e : PySem.W.EachIs R us bs) (er : PySem.W.EachIs (fun u b => ∃ as, Reads t.heap u (enc b) as) us bs)
    (hal : PySem.W.AllAlike (bs.map enc)) (hk : PySem.W.Sortable (bs.map enc)) (hL : bs.length ≤ sizeLine) (hu : ∀ b ∈ bs, B.units + 2 + (enc b).depth < cLine)
    (k : ∀ out : List Value, out.length = bs.length → PySem.W.EachIs R out (bs.mergeSort (PySem.W.dataLe false enc)) → Q (.ref (t.heap.objs.size + 1)) { t with heap := sortedAll t.heap us out.toArray }) :
    wpAny (model pr wd) B (PySem.call (.builtin "sorted") [.ref c]) Q Er t := by
  have hl : us.length ≤ sizeLine := by rw [e.length]; exact hL
  have er' : PySem.W.EachIs (fun u b => ∃ as, Reads (sortingHeap (copyHeap t.heap us) (t.heap.objs.size + 1) us) u (enc b) as) us bs := er.mono fun _ _ ⟨as, r⟩ => ⟨as, PyProof.Rows.Reads.keeps (fun _ _ => sorting_copy_old) r⟩
  have S := PySem.W.SortsAt.data (prog := pr) (w := wd) (A := B.in1.in1) (s := { t with heap := sortingHeap (copyHeap t.heap us) (t.heap.objs.size + 1) us }) (PySem.W.each_map (R := fun u d => ∃ as, Reads (sortingHeap (copyHeap t.heap us) (t.heap.objs.size + 1) us) u d as) enc er') hal hk (PySem.W.bound_map (A := B.in1.in1) hu)
  have fin := k _ (by rw [PySem.W.sortVals_length false rfl]; exact e.length) (PySem.W.sortVals_data false e er' hal)
  refine call_function_entry_kw kind_sorted plain_sorted entry_sorted (args_sorted1 _) ?_
  unfold Builtin.«sorted»
  refine wpAny_bind (m := checkCount "sorted" 1 1 _) (wpAny_pure (wpAny_bind (collect_tup hc hl (wpAny_bind (wpAny_newList ?_ hl)))))
  have sz : ((t.heap.push (seqObj "list" #[] 0)).update t.heap.objs.size (Obj.mapSeq (· ++ us.toArray))).objs.size = t.heap.objs.size + 1 := by rw [Heap.size_update, size_push']
  show wpAny _ B.in1 _ _ _ { t with heap := copyHeap t.heap us }
  rw [sz]
  refine wpAny_bind (wpAny_holding (wpAny_call_entry_kw slot_list_sort ⟨_, copyHeap_at t.heap us, rfl⟩ entry_list_sort ?go (args_list_sort _)))
  case go =>
    refine wpAny_mono (PySem.W.list_sort_vals (s := { t with heap := copyHeap t.heap us }) (P := fun f s' => f = .done (.ret .none) ∧ Q (.ref (t.heap.objs.size + 1)) s') (copyHeap_at t.heap us) S hl ⟨rfl, fin⟩) (fun f s' hf => ?_) fun _ _ z => z
    obtain ⟨rfl, hq⟩ := hf
    exact ⟨_, rfl, wpAny_pure ⟨_, rfl, hq⟩⟩
end
theorem sorted_core (hu : X.A.units + 100 < cLine) {φ : List Addr} {G H : Hp} {pins : List (Addr × Obj)} {σ : L2.St} {s : Shared} {Q : VK} {a : Addr} {vs : List V} {ds : List D} (I : Inv X pins σ H s) (sub : Same G H) (s1 : H a = some (.lst vs) ∨ H a = some (.tup vs)) (r1 : RepA X.K φ G vs ds) (hk : sortOk ds = true)
    (q : OkRes X.K φ G H (.own (.lst (ds.mergeSort dle))) Q) : wpAny (model X.prog X.w) X.A (PySem.call (.builtin "sorted") [.ref a]) (EP X pins σ Q) X.xe s := by
  have mil := million
  unfold sortOk at hk
  simp only [Bool.and_eq_true, decide_eq_true_eq] at hk
  obtain ⟨⟨⟨h1, h2⟩, h3⟩, h4⟩ := hk
  obtain ⟨its, rv, pl⟩ : ∃ its : List Value, Vals vs its ∧ (s.heap.IsList a its.toArray ∨ PyProof.Rows.IsTup s.heap a its.toArray) := by
    rcases s1 with s1 | s1
    · obtain ⟨its, rv, pl, hz⟩ := I.list (SqL.of s1)
      exact ⟨its, rv, .inl pl.isList⟩
    · obtain ⟨its, rv, pl, hz⟩ := I.tuple (SqT.of s1)
      exact ⟨its, rv, .inr pl⟩
  have hlen := r1.length
  have hsnd : (vs.zip ds).map (fun b => b.2) = ds := List.map_snd_zip (by omega)
  have hmap : (vs.zip ds).map (fun b => py b.2) = ds.map py := by
    have := congrArg (List.map py) hsnd
    rw [List.map_map] at this
    exact this
  have al : PySem.W.AllAlike ((vs.zip ds).map fun b => py b.2) := by
    rw [hmap]
    intro d hd d' hd'
    obtain ⟨x, hx, rfl⟩ := List.mem_map.mp hd
    obtain ⟨y, hy, rfl⟩ := List.mem_map.mp hd'
    exact List.all_eq_true.mp (List.all_eq_true.mp h3 x hx) y hy
  have so : PySem.W.Sortable ((vs.zip ds).map fun b => py b.2) := by
    rw [hmap]
    rw [Bool.or_eq_true] at h4
    rcases h4 with h4 | h4
    · refine .inl fun d hd => ?_
      obtain ⟨x, hx, rfl⟩ := List.mem_map.mp hd
      exact py_tup_cons (List.all_eq_true.mp h4 x hx)
    · refine .inr fun d hd => ?_
      obtain ⟨x, hx, rfl⟩ := List.mem_map.mp hd
      exact py_noTup (List.all_eq_true.mp h4 x hx)
  have hlz : (vs.zip ds).length = ds.length := by rw [List.length_zip]; omega
  have bd : ∀ b ∈ vs.zip ds, X.A.units + 2 + (py b.2).depth < cLine := fun b hb => by
    have hm : b.2 ∈ ds := (List.of_mem_zip hb).2
    have := (eqOk_py 40 b.2 (List.all_eq_true.mp h2 _ hm)).2
    omega
  suffices fin : ∀ out : List Value, out.length = (vs.zip ds).length → PySem.W.EachIs (fun (u : Value) (b : V × D) => RelV b.1 u) out ((vs.zip ds).mergeSort (PySem.W.dataLe false fun b => py b.2)) →
      EP X pins σ Q (.ref (s.heap.objs.size + 1)) { s with heap := PyProof.Rows.sortedAll s.heap its out.toArray } by
    rcases pl with pl | pl
    · exact PySem.W.sorted_data (β := V × D) (enc := fun b => py b.2) (R := fun (u : Value) (b : V × D) => RelV b.1 u) (bs := vs.zip ds) (vs := its) pl (each_zip rv hlen) (each_reads (K := X.K) (G := G) (φ := φ) I rv (r1.mono sub (List.prefix_refl _)) h2) al so (by omega) bd fin
    · exact sorted_tupD (β := V × D) (enc := fun b => py b.2) (R := fun (u : Value) (b : V × D) => RelV b.1 u) (bs := vs.zip ds) pl (each_zip rv hlen) (each_reads (K := X.K) (G := G) (φ := φ) I rv (r1.mono sub (List.prefix_refl _)) h2) al so (by omega) bd fin
  intro out ho he
  · have hsort : ((vs.zip ds).mergeSort (PySem.W.dataLe false fun b => py b.2)).map (fun b => b.2) = ds.mergeSort dle := by
      have := PySem.W.sort_maps (r := PySem.W.dataLe false fun b : V × D => py b.2) (s := dle) (fun b : V × D => b.2) (l := vs.zip ds) (fun _ _ _ _ => rfl)
      rw [this, hsnd]
    have ra : RepA X.K φ G (((vs.zip ds).mergeSort (PySem.W.dataLe false fun b => py b.2)).map (·.1)) (ds.mergeSort dle) := by
      rw [← hsort]
      exact repA_pairs fun b hb => r1.zip b (List.mem_mergeSort.mp hb)
    obtain ⟨ep, he'⟩ := PyProof.Rows.sortedAll_at s.heap its out.toArray
    have fr : H (s.heap.objs.size + 1) = none := I.hok.fresh (Nat.le_succ _)
    refine ⟨.ref _, upd H (s.heap.objs.size + 1) (.lst _), I.laid (t' := s.toks) (fun _ _ => PyProof.Rows.sortedAll_old) (Nat.le_succ _) ⟨?_, out, ep, each_vals he, he'⟩, rfl, q _ _ _ (Grow.aside sub fr) (.own fr upd_same (sub.free fr) (.lst ra))⟩
    rw [ra.length, List.length_mergeSort]
    omega
theorem dcall_sorted (hu : X.A.units + 100 < cLine) : DCall X (.builtin "sorted") dSorted := fun pins s σ H xs us Q I rx ⟨φ, G, ds, r, sub, hx, hf, q⟩ => by
  unfold dSorted at hf
  split at hf
  · split at hf
    · rename_i hk
      cases hf
      obtain ⟨v, rfl, o⟩ := hx.one
      obtain ⟨a, vs, rfl, s1, r1⟩ := o.lst sub
      obtain ⟨u, rfl, ru⟩ := rx.one
      cases ru
      exact sorted_core hu I sub (.inl s1) r1 hk q
    · cases hf
  · split at hf
    · rename_i hk
      cases hf
      obtain ⟨v, rfl, o⟩ := hx.one
      obtain ⟨a, vs, rfl, s1, r1⟩ := o.tup sub
      obtain ⟨u, rfl, ru⟩ := rx.one
      cases ru
      exact sorted_core hu I sub (.inr s1) r1 hk q
    · cases hf
  · cases hf
mutual
/-- how long a text may come of it -/
def szB : D → Nat
  | .int i => (toString i).length
  | .str x => (reprText x).length
  | .tup xs => 4 + szBs xs
  | .lst xs => 4 + szBs xs
  | _ => 5
def szBs : List D → Nat
  | [] => 0
  | x :: xs => szB x + 2 + szBs xs
end
def reprD (d : D) : Str := (py d).shown
def rpOk (d : D) : Bool := eqOk 40 d && (py d).showable && decide ((py d).shown.length ≤ 1000000)
def dRepr : OpN := fun xs => match xs with
  | [d] => if rpOk d then some (.fro (.str (reprD d))) else none
  | _ => none
theorem dcall_repr (hu : X.A.units + 100 < cLine) (hg : X.A.guards = some []) : DCall X (.builtin "repr") dRepr := fun pins s σ H xs us Q I rx ⟨φ, G, ds, r, sub, hx, hf, q⟩ => by
  have mil := million
  unfold dRepr at hf
  split at hf
  · split at hf
    · rename_i d hk
      cases hf
      unfold rpOk at hk
      simp only [Bool.and_eq_true, decide_eq_true_eq] at hk
      obtain ⟨⟨h1, h2⟩, h3⟩ := hk
      obtain ⟨v, rfl, o⟩ := hx.one
      obtain ⟨u, rfl, ru⟩ := rx.one
      obtain ⟨as, rd⟩ := Dp.reads I _ _ _ (rep_dp 40 h1 (o.rep sub)) ru
      obtain ⟨hl, hd⟩ := eqOk_py 40 d h1
      have hz : (py d).shown.length ≤ sizeLine := by omega
      have qq : ∀ (h' : Heap) (u : Tok) (tk : Nat), (∀ b o, s.heap.get? b = some o → h'.get? b = some o) → EP X pins σ Q (.str (py d).shown u) { s with heap := h', toks := tk } := fun h' u tk hk =>
        ⟨.str _, H, I.kept hk, ⟨u, rfl⟩, q G H _ (Grow.refl sub) (.fro (.str _))⟩
      have same : EP X pins σ Q (.str (py d).shown s.toks) { s with toks := s.toks + 1 } := qq s.heap _ _ fun _ _ e => e
      cases d with
      | non => cases rd; exact PySem.P.repr_of_none same
      | bl b => cases rd; exact PySem.P.repr_of_bool same
      | int i =>
        cases rd
        exact PySem.P.repr_of_int (by simpa [py, PyData.showable] using h2) same
      | str x => cases rd; exact PySem.P.repr_of_str same hz
      | tup ds =>
        obtain ⟨a, vs, rfl, s1, r1⟩ := o.tup sub
        cases ru
        exact repr_of_reads' rd h2 (PyData.noDict_hsm (PyData.hasDict_of_canLay _ hl)) hg (by omega) (fun _ _ e => e) qq hz
      | lst ds =>
        obtain ⟨a, vs, rfl, s1, r1⟩ := o.lst sub
        cases ru
        exact repr_of_reads' rd h2 (PyData.noDict_hsm (PyData.hasDict_of_canLay _ hl)) hg (by omega) (fun _ _ e => e) qq hz
      | dct t k => simp [eqOk] at h1
      | hd n => simp [eqOk] at h1
      | scr n => simp [eqOk] at h1
    · cases hf
  · cases hf

def dSeq : D → Option (List D)
  | .lst ds => some ds
  | .tup ds => some ds
  | _ => none
def evItS (a : Ev RV) : Ev (List D) := fun s => (a s).bind fun p => (dSeq p.1.d).map fun ds => (ds, p.2)
theorem si_seq {tg e : Expr} {a : Ev RV} (h : SR X e a) : SI X tg e (evItS a) := ⟨fun pins s σ H R' I ⟨g, G, φ, s0, ds, s', hK, R, he, q⟩ => by
  obtain ⟨⟨p1, p2⟩, e1, he⟩ := bind_some_iff he
  obtain ⟨ds', e2, he⟩ := map_some_iff he
  cases he
  let Q : VK := fun v H1 => ∃ G1 φ1, Rel g G1 φ1 p2 σ H1 ∧ Same G G1 ∧ φ <+: φ1 ∧ Rep g.K φ1 G1 v p1.d
  refine thn (h.run pins s σ H Q I ⟨g, G, φ, s0, p1, p2, hK, R, e1, fun G1 φ1 H1 v R1 h1 h2 x => ?_⟩) fun v s1 ⟨x, H1, I1, rv, G1, φ1, R1, h1, h2, rp⟩ => ?_
  · obtain ⟨G2, R2, h3, rp⟩ := x.froz R1
    exact ⟨G2, φ1, R2, h1.trans h3, h2, rp⟩
  · have free : ∀ b ∈ [s1.heap.objs.size], FpOk X pins H1 b := fun b hb => by
      rw [List.mem_singleton.mp hb]
      exact I1.fpOk (Nat.le_refl _) I1.fresh
    cases hd : p1.d with
    | lst ds0 =>
      rw [hd] at rp e2
      cases e2
      cases rp with
      | lst st ra =>
        cases rv
        have sq : SqL X.K H1 _ _ := SqL.of (R1.sub _ _ st)
        obtain ⟨its, _, pl, _⟩ := I1.list sq
        refine wpAny_pyIter_list pl.isList ⟨_, [s1.heap.objs.size], _, Itl X.K _, H1, rfl, I1.kept (t' := s1.toks) (fun b o z => Heap.get?_push_of_some _ z), turn_list _ _, ⟨_, Heap.get?_push_size _ rfl, rfl, rfl⟩, free, ?_⟩
        exact q _ G1 φ1 H1 R1 h1 h2 (hK ▸ itOk_list (SqL.of st) (hK ▸ ra))
    | tup ds0 =>
      rw [hd] at rp e2
      cases e2
      cases rp with
      | tup st ra =>
        cases rv
        have sq : SqT X.K H1 _ _ := SqT.of (R1.sub _ _ st)
        obtain ⟨its, _, pl, _⟩ := I1.tuple sq
        refine wpAny_pyIter_tuple (show s1.heap.IsTuple _ its.toArray from pl) ⟨_, [s1.heap.objs.size], _, Itt X.K _, H1, rfl, I1.kept (t' := s1.toks) (fun b o z => Heap.get?_push_of_some _ z), turn_tuple _ _, ⟨_, Heap.get?_push_size _ rfl, rfl, rfl⟩, free, ?_⟩
        exact q _ G1 φ1 H1 R1 h1 h2 (hK ▸ itOk_tup (SqT.of st) (hK ▸ ra))
    | _ => rw [hd] at e2; cases e2⟩
/-- pairs, each a new tuple -/
def pairUp : List D → List D → List D
  | x :: xs, y :: ys => .tup [x, y] :: pairUp xs ys
  | _, _ => []
theorem pairUp_get : ∀ {xs ys : List D} {i : Nat} {d : D}, (pairUp xs ys)[i]? = some d → ∃ x y, xs[i]? = some x ∧ ys[i]? = some y ∧ d = .tup [x, y]
  | [], _, i, d, h => by simp [pairUp] at h
  | _ :: _, [], i, d, h => by simp [pairUp] at h
  | x :: xs, y :: ys, 0, d, h => by simp [pairUp] at h; exact ⟨x, y, rfl, rfl, h.symm⟩
  | x :: xs, y :: ys, i + 1, d, h => by
    obtain ⟨a, b, e1, e2, e3⟩ := pairUp_get (xs := xs) (ys := ys) (i := i) (by simpa [pairUp] using h)
    exact ⟨a, b, by simpa using e1, by simpa using e2, e3⟩
theorem pairUp_len : ∀ xs ys : List D, (pairUp xs ys).length = min xs.length ys.length
  | [], ys => by simp [pairUp]
  | _ :: _, [] => by simp [pairUp]
  | x :: xs, y :: ys => by
    rw [pairUp, List.length_cons, pairUp_len xs ys, List.length_cons, List.length_cons]
    omega
/-- a walk that yields new pairs -/
theorem itOk_pairs {K : PySem.W.Frag} {φ : List Addr} {G : Hp} {J : It} {Gd : Hp → Prop} {xs ys : List V} {ds es : List D} (w : L2.Walk J (pairUp ds es).length Gd (YPair (fun i => xs[i]?) fun i => ys[i]?)) (gd : ∀ Gc Hc, Same G Gc → Same Gc Hc → Gd Hc) (r1 : RepA K φ G xs ds) (r2 : RepA K φ G ys es) : ItOk K φ G J (pairUp ds es) := by
  refine ⟨fun Gc φc Hc h1 h2 h3 i hi => w.goes i Hc hi (gd Gc Hc h1 h3), fun Gc φc Hc h1 h2 h3 => w.stops Hc (gd Gc Hc h1 h3), fun Gc φc Hc h1 h2 h3 i d x H' hd hy => ?_⟩
  have hi := (List.getElem?_eq_some_iff.mp hd).1
  obtain ⟨T, a, b, rfl, nT, rfl, e1, e2⟩ := w.yields i Hc x H' hi (gd Gc Hc h1 h3) hy
  obtain ⟨p, q, f1, f2, rfl⟩ := pairUp_get hd
  obtain ⟨a', g1, ra⟩ := r1.get f1
  obtain ⟨b', g2, rb⟩ := r2.get f2
  have g1 : some a' = some a := g1.symm.trans e1
  have g2 : some b' = some b := g2.symm.trans e2
  cases g1
  cases g2
  have gr := Grow.laid h3 (o := .tup [a, b]) nT
  exact ⟨_, gr, .tup upd_same (.cons (ra.mono (h1.trans gr.gg) h2) (.cons (rb.mono (h1.trans gr.gg) h2) .nil))⟩
def dZip : List D → Option (List D)
  | [.lst xs, .lst ys] => some (pairUp xs ys)
  | [.tup xs, .tup ys] => some (pairUp xs ys)
  | _ => none
def evArgs (f : List D → Option (List D)) (a : Ev (List D)) : Ev (List D) := fun s => (a s).bind fun p => (f p.1).map fun ds => (ds, p.2)
theorem si_zip {a b : Expr} {ta : Ev (List D)} {p pos tpos : Pos} {elts : List Expr} {kk : Nat} (hg : Gl X "zip") (hm : X.mg "zip" = none) (ha : SA X [a, b] ta) (hs : starEach [a, b] X.env = (false, eval a X.env) :: starEach [b] X.env := by rfl) (hpl : (backTo pos (starEach [b] X.env)).any (·.1) = false := by rfl) :
    SI X (.Tuple elts kk tpos) (.Call (.Name "zip" p) [a, b] [] pos) (evArgs dZip ta) := pi_imp (RZ.pi_zipA hg hm ha hs hpl) fun σ H R' ⟨g, G, φ, s, ds, s', hK, R, he, q⟩ => by
  obtain ⟨⟨as, s1⟩, e1, he⟩ := bind_some_iff he
  obtain ⟨ds2, e2, he⟩ := map_some_iff he
  cases he
  refine ⟨g, G, φ, s, as, s1, hK, R, e1, fun G1 φ1 H1 vs R1 h1 h2 ra => ?_⟩
  have e2 : dZip as = some _ := e2
  unfold dZip at e2
  split at e2
  · cases e2
    obtain ⟨v, w, rfl, r1, r2⟩ := ra.two
    cases r1 with
    | lst s1' a1 =>
      cases r2 with
      | lst s2' a2 =>
        refine ⟨_, _, _, _, rfl, .inl ⟨SqL.of (R1.sub _ _ s1'), SqL.of (R1.sub _ _ s2'), q _ G1 φ1 H1 R1 h1 h2 ?_⟩⟩
        exact itOk_pairs (Gd := fun H => SqL X.K H _ _ ∧ SqL X.K H _ _) (walk_zip (by rw [pairUp_len, a1.length, a2.length])) (fun Gc Hc g1 g2 => ⟨SqL.of (g2 _ _ (g1 _ _ s1')), SqL.of (g2 _ _ (g1 _ _ s2'))⟩) a1 a2
  · cases e2
    obtain ⟨v, w, rfl, r1, r2⟩ := ra.two
    cases r1 with
    | tup s1' a1 =>
      cases r2 with
      | tup s2' a2 =>
        refine ⟨_, _, _, _, rfl, .inr ⟨SqT.of (R1.sub _ _ s1'), SqT.of (R1.sub _ _ s2'), q _ G1 φ1 H1 R1 h1 h2 ?_⟩⟩
        refine itOk_pairs (Gd := fun H => SqT X.K H _ _ ∧ SqT X.K H _ _) ⟨fun i H hi q => ?_, fun H q => ⟨_, _, q.1, q.2, ?_⟩, fun i H v H' hi q y => ?_⟩ (fun Gc Hc g1 g2 => ⟨SqT.of (g2 _ _ (g1 _ _ s1')), SqT.of (g2 _ _ (g1 _ _ s2'))⟩) a1 a2
        · rw [pairUp_len, ← a1.length, ← a2.length] at hi
          exact ⟨_, _, _, _, q.1, q.2, List.getElem?_eq_getElem (by omega), List.getElem?_eq_getElem (by omega)⟩
        · rw [pairUp_len, ← a1.length, ← a2.length]; omega
        · obtain ⟨T, x, z, g1, g2, g3, g4, g5⟩ := y
          exact ⟨T, x, z, g1, g2, g3, g4 _ q.1, g5 _ q.2⟩
  · cases e2
def dEnum : List D → Option (List D)
  | [.lst xs] => some (pairUp (upTo 0 xs.length) xs)
  | _ => none
theorem repA_upTo {K : PySem.W.Frag} {φ : List Addr} {G : Hp} (n : Nat) : RepA K φ G ((List.range n).map fun i => V.int (0 + (i : Nat))) (upTo 0 n) := by
  unfold upTo
  have : ∀ l : List Nat, RepA K φ G (l.map fun i => V.int (0 + (i : Nat))) (l.map fun i => D.int (0 + (i : Nat))) := by
    intro l
    induction l with
    | nil => exact .nil
    | cons x l ih => exact .cons (.int _) ih
  exact this _
theorem dEnum_some {as r : List D} (h : dEnum as = some r) : ∃ xs, as = [.lst xs] ∧ r = pairUp (upTo 0 xs.length) xs := by
  unfold dEnum at h
  split at h
  · cases h; exact ⟨_, rfl, rfl⟩
  · cases h
theorem si_enum {a : Expr} {ta : Ev (List D)} {p pos tpos : Pos} {elts : List Expr} {kk : Nat} (hg : Gl X "enumerate") (hm : X.mg "enumerate" = none) (ha : SA X [a] ta) (hs : starEach [a] X.env = [(false, eval a X.env)] := by rfl) :
    SI X (.Tuple elts kk tpos) (.Call (.Name "enumerate" p) [a] [] pos) (evArgs dEnum ta) := pi_imp (pi_enum hg hm ha hs) fun σ H R' ⟨g, G, φ, s, ds, s', hK, R, he, q⟩ => by
  obtain ⟨⟨as, s1⟩, e1, he⟩ := bind_some_iff he
  obtain ⟨ds2, e2, he⟩ := map_some_iff he
  cases he
  refine ⟨g, G, φ, s, as, s1, hK, R, e1, fun G1 φ1 H1 vs R1 h1 h2 ra => ?_⟩
  obtain ⟨xs', rfl, rfl⟩ := dEnum_some (show dEnum as = some _ from e2)
  obtain ⟨v, rfl, r1⟩ := ra.one
  cases r1 with
  | lst s1' a1 =>
    rename_i vs0
    refine ⟨_, _, rfl, SqL.of (R1.sub _ _ s1'), q _ G1 φ1 H1 R1 h1 h2 ?_⟩
    have hl : (pairUp (upTo 0 xs'.length) xs').length = xs'.length := by rw [pairUp_len]; unfold upTo; simp
    refine itOk_pairs (Gd := fun H => SqL X.K H _ vs0) ⟨fun i H hi q => ?_, fun H q => ?_, fun i H v H' hi q y => ?_⟩ (fun Gc Hc g1 g2 => SqL.of (g2 _ _ (g1 _ _ s1'))) (repA_upTo xs'.length) a1
    · rw [hl, ← a1.length] at hi
      exact ⟨_, _, q, List.getElem?_eq_getElem hi⟩
    · exact ⟨_, q, by rw [hl, a1.length]; exact Nat.le_refl _⟩
    · obtain ⟨T, x, g1, g2, g3, g4⟩ := y
      refine ⟨T, _, x, g1, g2, g3, ?_, g4 _ q⟩
      rw [hl] at hi
      show ((List.range xs'.length).map fun i => V.int (0 + (i : Nat)))[i]? = _
      rw [List.getElem?_map, List.getElem?_range hi]
      simp
end
end Pv

namespace Pv
open PySem PySem.Spec L2
theorem bb_len : bootBuiltins "len" = some (.builtin "len") := by decide +kernel
theorem bb_sum : bootBuiltins "sum" = some (.builtin "sum") := by decide +kernel
theorem bb_max : bootBuiltins "max" = some (.builtin "max") := by decide +kernel
theorem bb_min : bootBuiltins "min" = some (.builtin "min") := by decide +kernel
theorem bb_all : bootBuiltins "all" = some (.builtin "all") := by decide +kernel
theorem bb_any : bootBuiltins "any" = some (.builtin "any") := by decide +kernel
theorem bb_sorted : bootBuiltins "sorted" = some (.builtin "sorted") := by decide +kernel
theorem bb_repr : bootBuiltins "repr" = some (.builtin "repr") := by decide +kernel
theorem bb_list : bootBuiltins "list" = some (.type "list") := by decide +kernel
theorem bb_tuple : bootBuiltins "tuple" = some (.type "tuple") := by decide +kernel
theorem bb_int : bootBuiltins "int" = some (.type "int") := by decide +kernel
theorem bb_bool : bootBuiltins "bool" = some (.type "bool") := by decide +kernel
theorem bb_str : bootBuiltins "str" = some (.type "str") := by decide +kernel
theorem bb_dict : bootBuiltins "dict" = some (.type "dict") := by decide +kernel
/-- nothing is promised -/
theorem fn_void {P : Program} {w : World} {K : PySem.W.Frag} {mg : Str → Option Value} {base : Heap} {k n : Nat} {f : Addr} {fd : FuncData} {ps : List Str} : FnG P w K mg base CX0 k f fd ps (spF K n fun _ _ => none) :=
  ⟨fun vs H Q E h => (by obtain ⟨_, _, _, _, _, _, _, _, _, _, h, _⟩ := h; cases h), fun A outer s H args us vs Q E _ _ _ _ h => (by obtain ⟨_, _, _, _, _, _, _, _, _, _, h, _⟩ := h; cases h)⟩
end Pv

namespace Pv
open PySem PySem.Spec L2
section
variable {g : Gh} {G : Hp} {φ : List Addr} {s : Sg} {σ : St} {H : Hp}
/-- a fresh thing becomes a cell -/
theorem Rel.promote {p : Addr} {o : HO} {d : D} (R : Rel g G φ s σ H) (F : Fresh g G φ s σ H p o d) : Rel g G (φ ++ [p]) { s with st := s.st ++ [.d d] } σ H ∧ Rep g.K (φ ++ [p]) G (.ref p) (.hd s.st.length) := by
  have pf : φ <+: φ ++ [p] := List.prefix_append _ _
  refine ⟨⟨R.sub, R.g0, R.new, R.old, R.use, R.zed, R.pre.trans pf, R.len, fun i x e => ?_, fun i x e => ?_, R.sep, by simp [R.clen], fun n a c a1 a2 => ?_, ?_⟩, .hd (by rw [R.clen, List.getElem?_append_right (Nat.le_refl _)]; simp)⟩
  · obtain ⟨v, h1, h2⟩ := R.fro i x e
    exact ⟨v, h1, h2.mono (Same.refl _) pf⟩
  · obtain ⟨q, u, b1, b2, b3, b4, b5, b6, b7⟩ := R.own i x e
    refine ⟨q, u, b1, b2, b3.mono (Same.refl _) pf, b4, b5, b6, fun hm => ?_⟩
    rcases List.mem_append.mp hm with hm | hm
    · exact b7 hm
    · rw [List.mem_singleton] at hm
      subst hm
      exact F.sl i x e b1
  · by_cases hn : n < φ.length
    · rw [List.getElem?_append_left hn] at a1
      rw [List.getElem?_append_left (by rw [R.clen]; exact hn)] at a2
      obtain ⟨u, b1, b2, b3, b4, b5⟩ := R.cell n a c a1 a2
      exact ⟨u, b1, b2.mono (Same.refl _) pf, b3, b4, b5⟩
    · have hl : n = φ.length := by
        have := (List.getElem?_eq_some_iff.mp a1).1
        simp at this
        omega
      subst hl
      rw [List.getElem?_append_right (Nat.le_refl _)] at a1
      rw [← R.clen, List.getElem?_append_right (Nat.le_refl _)] at a2
      simp at a1 a2
      subst a1 a2
      exact ⟨o, F.at_, .d (F.own.mono (Same.refl _) pf), F.gp, F.fp, .inr F.up⟩
  · refine List.nodup_append.mpr ⟨R.nd, by simp, fun a h1 b h2 e => ?_⟩
    rw [List.mem_singleton] at h2
    subst h2 e
    exact F.ph h1
end
def evSetC (i : Nat) (a : Ev RV) : Ev Out := fun s => (a s).bind fun p => match p.1 with
  | .own d => some (.nx, ⟨p.2.env.set i (.fro (.hd p.2.st.length)), p.2.st ++ [.d d]⟩)
  | .fro _ => none
theorem setC_core {K : PySem.W.Frag} {i : Nat} {va : Ev RV} {E : Ends} {σ : St} {H : Hp} (h : tS K (evSetC i va) E σ H) : tAsg (tR K va) (gName i) E σ H := by
  obtain ⟨g, G, φ, s, o, s', hK, R, he, q⟩ := h
  obtain ⟨⟨r, s1⟩, e1, he⟩ := bind_some_iff he
  cases r with
  | fro => cases he
  | own d =>
    cases he
    refine ⟨g, G, φ, s, .own d, s1, hK, R, e1, fun G' φ' H' v R' h1 h2 x => ?_⟩
    cases x with
    | own F =>
      obtain ⟨R2, rp⟩ := R'.promote F
      exact q G' _ _ H' (R2.store i (.fro rp)) h1 (h2.trans (List.prefix_append _ _))
/-- x = e, where x is to be changed by others -/
theorem ss_setC {X : Cx} {i : Nat} {x : Str} {e : Expr} {va : Ev RV} {pos pos' : Pos} (hN : X.N.Nodup) (h : SR X e va) (hi : X.N[i]? = some x := by rfl) (hx : Loc X.env.scope x := by first | exact Or.inl rfl | exact Or.inr rfl) (hs : swapsWith e (some (.Name x pos')) pos.line X.env = pure false := by rfl)
    (hf : X.fn x = true ∨ X.env.scope.names.lookup x = some .local := by first | exact .inl rfl | exact .inr rfl) : SS X (.Assign [.Name x pos'] e pos) (evSetC i va) :=
  ps_imp (ps_set hN hi hx h hs hf) fun _ _ _ h => setC_core h
def isiAny (Ts : List String) (t : String) : Option Bool := match Ts with
  | [] => some false
  | T :: Ts => (kitB t T).bind fun b => if b = true then some true else isiAny Ts t
theorem kitAny_of {K : PySem.W.Frag} {t : String} : ∀ {Ts : List String} {b : Bool}, isiAny Ts t = some b → PySem.W.kitAny K (.type t) (Ts.map Value.type) = some b
  | [], b, h => by cases h; exact kitAny_nil
  | T :: Ts, b, h => by
    unfold isiAny at h
    obtain ⟨c, e1, h⟩ := bind_some_iff h
    refine kitAny_cons (kit_ty e1) (fun hc => ?_) fun hc => ?_
    · subst hc; exact kitAny_of h
    · subst hc; cases h; rfl
def isiBs (Ts : List String) : D → Option RV := fun d => (tyOf d).bind fun t => (isiAny Ts t).map fun b => .fro (.bl b)
def evIsis (Ts : List String) (a : Ev Bor) : Ev RV := fun s => (a s).bind fun p => (fetch p.2 p.1).bind fun d => (isiBs Ts d).map fun r => (r, p.2)
section
variable {X : Cx}
theorem sr_isi2 {T1 T2 : Str} {n1 n2 : String} {e : Expr} {a : Ev Bor} {x1} {p p1 p2 p3 pos : Pos} (hg : Gl X "isinstance") (hm : X.mg "isinstance" = none) (hg1 : Gl X T1) (hm1 : X.mg T1 = none) (hv1 : bootBuiltins T1 = some (.type n1))
    (hg2 : Gl X T2) (hm2 : X.mg T2 = none) (hv2 : bootBuiltins T2 = some (.type n2)) (ha : SB X e a)
    (hn1 : T1 ≠ "__name__" := by decide) (hd1 : (T1 == ("__debug__" : Str)) = false := by decide) (hn2 : T2 ≠ "__name__" := by decide) (hd2 : (T2 == ("__debug__" : Str)) = false := by decide)
    (k1 : starEach [e, .Tuple [.Name T1 p1, .Name T2 p2] x1 p3] X.env = (false, eval e X.env) :: starEach [.Tuple [.Name T1 p1, .Name T2 p2] x1 p3] X.env := by rfl)
    (k2 : starEach [.Tuple [.Name T1 p1, .Name T2 p2] x1 p3] X.env = (false, eval (.Tuple [.Name T1 p1, .Name T2 p2] x1 p3) X.env) :: starEach [] X.env := by rfl)
    (k3 : starEach [.Name T1 p1, .Name T2 p2] X.env = (false, eval (.Name T1 p1) X.env) :: starEach [.Name T2 p2] X.env := by rfl) (k4 : starEach [.Name T2 p2] X.env = (false, eval (.Name T2 p2) X.env) :: starEach [] X.env := by rfl)
    (hpl : (backTo pos (starEach [.Tuple [.Name T1 p1, .Name T2 p2] x1 p3] X.env)).any (·.1) = false := by rfl) :
    SR X (.Call (.Name "isinstance" p) [e, .Tuple [.Name T1 p1, .Name T2 p2] x1 p3] [] pos) (evIsis [n1, n2] a) := by
  have hc : CallR X (.builtin "isinstance") (fun xs H Q => ∃ φ G v d r tp, xs = [v, .ref tp] ∧ H tp = some (.tup [.ty n1, .ty n2]) ∧ Same G H ∧ OpRep X.K φ G H v d ∧ isiBs [n1, n2] d = some r ∧ OkRes X.K φ G H r Q) := fun pins s σ H xs us Q I rx ⟨φ, G, v, d, r, tp, ex, ht, sub, o, hr, q⟩ => by
    subst ex
    obtain ⟨u1, u2, rfl, r1, r2⟩ := rx.two
    cases (show u2 = Value.ref tp from r2)
    obtain ⟨t, e1, hr⟩ := bind_some_iff hr
    obtain ⟨b, e2, hr⟩ := map_some_iff hr
    subst hr
    obtain ⟨P, Z, pz, hx⟩ := kit_D I r1 sub o e1
    obtain ⟨_, its, rv, o', h1, h2, n, h3⟩ := (show ObjOk X.prog X.w H s.heap tp (.tup [.ty n1, .ty n2]) from I.hok tp _ ht)
    obtain ⟨w1, w2, rfl, q1, q2⟩ := rv.two
    cases (show w1 = Value.type n1 from q1)
    cases (show w2 = Value.type n2 from q2)
    obtain ⟨oc, od, dt, sl⟩ := o'
    simp only at h2 h3
    subst h2 h3
    exact PySem.W.kia_tup Z I.kIn pz h1 (kitAny_of (Ts := [n1, n2]) e2) hx fun tk => ⟨.bl b, H, I.tok tk, rfl, q G H _ (Grow.refl sub) (.fro (.bl b))⟩
  refine pe_imp (pe_callB hc hg hm (by decide +kernel) (pa_cons ha (pa_cons (pe_tup (pa_cons (pe_bltn (v := .ty n1) hg1 hm1 hv1 rfl hn1 hd1) (pa_cons (pe_bltn (v := .ty n2) hg2 hm2 hv2 rfl hn2 hd2) pa_nil k4) k3)) pa_nil k2) k1) (by decide) (by decide) k1 hpl) fun σ H Q ⟨g, G, φ, s, r, s', hK, R, he, q⟩ => ?_
  obtain ⟨⟨b, s1⟩, e1, he⟩ := bind_some_iff he
  obtain ⟨d, e2, he⟩ := bind_some_iff he
  obtain ⟨r', e3, he⟩ := map_some_iff he
  cases he
  refine ⟨g, G, φ, s, b, s1, hK, R, e1, fun G1 φ1 H1 v R1 h1 h2 x => ?_⟩
  refine ⟨by simp [sizeLine], fun tp ht => ?_⟩
  have R2 := R1.grow (Grow.aside R1.sub (o := .tup [.ty n1, .ty n2]) ht)
  exact ⟨φ1, G1, v, d, r, tp, rfl, upd_same, R2.sub, hK ▸ R2.fetch x e2, e3, fun G3 H3 w gr o => q G3 φ1 H3 w (R2.grow gr) (h1.trans gr.gg) h2 (ORes.res R2 gr (hK ▸ o))⟩
end
end Pv

namespace Pv
open PySem PySem.Spec L2
/-- what is to be shown of a law's reading -/
def Keeps (m : Fm) : Prop := ∀ ns : List Int, ns.length ≤ 63 → (∀ z ∈ ns, Builtin.Int.intBits z ≤ 1048576) → ∃ st, m [.scr ns] [] = some (.fro (.bl true), st)
theorem walk_end {l : PySem.W.OpenLaw} {k : Nat} {q : Program} {loose : List Str} {XP : (Str → Option Value) → Heap → Prop} {YP : World → Heap → Prop} {d : DefRec} {K : Params → PySem.W.Frag} {m : Fm} {x : Str}
    (hn : l.most = some 63) (hdf : d.params.defaults = []) (hk : k ≤ 60) (hY : ∀ (w : World) (h : Heap), YP w h → (K w.params).In h)
    (F : ∀ (w : World) (mg : Str → Option Value) (fa : Addr) (h : Heap), (K w.params).In h → h.Ns mainGlobals mg → mg d.name = some (.ref fa) →
      ∃ fd : FuncData, (∀ (s : Shared) (u : Value), BindsTo s fd ⟨[u], []⟩ [(x, u)]) ∧ ∀ base : Heap, FnG l.prog w (K w.params) mg base CX0 k fa fd [x] (spF (K w.params) 1 m))
    (hm : Keeps m) : PySem.W.WalkO q loose XP YP l.row.toRowW d [] (fun f vs => PySem.call f vs) :=
  walk_ofG (n := 63) (k := k) (x := x) (sp := fun w => spF (K w.params) 1 m) hn (by decide) hdf ⟨(⟨rfl, by decide, by decide⟩ : Room 60 callerA).mono hk, rfl⟩ hY (fun w mg fa h a b c => by
    obtain ⟨fd, h1, h2⟩ := F w mg fa h a b c
    exact ⟨fd, h1, fun base _ _ => h2 base⟩) fun w H a ns hl hb hs => by
    obtain ⟨st, e⟩ := hm ns hl hb
    exact ⟨H, [], [.scr ns], [], .fro (.bl true), st, Same.refl _, ⟨rfl, List.nodup_nil, fun n a c e => by simp at e⟩, .cons (.scr hs) .nil, rfl, e, fun G' φ' H' v _ _ _ _ _ _ _ _ x => by
      cases x with
      | fro r => cases r; rfl⟩
end Pv

namespace Pv
open PySem PySem.Spec L2
@[simp] theorem deq_int (i j : Int) : deq (.int i) (.int j) = decide (i = j) := by simp [deq, py, PyData.eqv]; rfl
@[simp] theorem deq_bl (i j : Bool) : deq (.bl i) (.bl j) = decide (i = j) := by cases i <;> cases j <;> rfl
@[simp] theorem deq_tup (xs ys : List D) : deq (.tup xs) (.tup ys) = deqAll xs ys := by
  rw [← eqvAll_py]; simp [deq, py, PyData.eqv]
@[simp] theorem deq_lst (xs ys : List D) : deq (.lst xs) (.lst ys) = deqAll xs ys := by
  rw [← eqvAll_py]; simp [deq, py, PyData.eqv]
@[simp] theorem deq_non_int (i : Int) : deq .non (.int i) = false := by simp [deq, py, PyData.eqv]
@[simp] theorem deq_int_non (i : Int) : deq (.int i) .non = false := by simp [deq, py, PyData.eqv]
@[simp] theorem deq_non_tup (i : List D) : deq .non (.tup i) = false := by simp [deq, py, PyData.eqv]
@[simp] theorem deq_tup_non (i : List D) : deq (.tup i) .non = false := by simp [deq, py, PyData.eqv]
@[simp] theorem deq_non_lst (i : List D) : deq .non (.lst i) = false := by simp [deq, py, PyData.eqv]
@[simp] theorem deq_lst_non (i : List D) : deq (.lst i) .non = false := by simp [deq, py, PyData.eqv]
@[simp] theorem deq_non : deq .non .non = true := by simp [deq, py, PyData.eqv]
theorem deqAll_ints : ∀ xs ys : List Int, deqAll (xs.map D.int) (ys.map D.int) = decide (xs = ys)
  | [], [] => rfl
  | x :: xs, [] => by simp [deqAll]
  | [], y :: ys => by simp [deqAll]
  | x :: xs, y :: ys => by simp [deqAll, deqAll_ints xs ys]
/-- no cell, no dict, no script, of depth n -/
def good : Nat → D → Bool := eqOk
mutual
theorem deq_self : ∀ (n : Nat) (d : D), eqOk n d = true → deq d d = true
  | n, .non, _ => by simp
  | n, .bl b, _ => by simp
  | n, .int b, _ => by simp
  | n, .str x, _ => by simp [deq, py, PyData.eqv]
  | 0, .tup xs, h => by simp [eqOk] at h
  | 0, .lst xs, h => by simp [eqOk] at h
  | n + 1, .tup xs, h => by rw [deq_tup]; exact deqAll_self n xs h
  | n + 1, .lst xs, h => by rw [deq_lst]; exact deqAll_self n xs h
  | n, .dct _ _, h => by cases n <;> simp [eqOk] at h
  | n, .hd _, h => by cases n <;> simp [eqOk] at h
  | n, .scr _, h => by cases n <;> simp [eqOk] at h
theorem deqAll_self : ∀ (n : Nat) (ds : List D), ds.all (eqOk n) = true → deqAll ds ds = true
  | n, [], _ => rfl
  | n, d :: ds, h => by
    rw [List.all_cons, Bool.and_eq_true] at h
    rw [deqAll, deq_self n d h.1, deqAll_self n ds h.2]
    rfl
end
theorem eqOk_ints (n : Nat) (xs : List Int) : (xs.map D.int).all (eqOk n) = true := by
  rw [List.all_eq_true]
  intro d hd
  obtain ⟨i, _, rfl⟩ := List.mem_map.mp hd
  cases n <;> rfl
theorem any_int (x : Int) (ys : List Int) : (ys.map D.int).any (fun z => deq z (.int x)) = decide (x ∈ ys) := by
  rw [Bool.eq_iff_iff]; simp [List.any_eq_true, List.mem_map]
/-- x in ints -/
theorem dIn_ints (x : Int) (ys : List Int) : dIn (.int x) (.tup (ys.map D.int)) = some (.fro (.bl (decide (x ∈ ys)))) := by
  have : eqOk 49 (.int x) = true := rfl
  simp only [dIn, isIn, eqOk_ints, this, any_int, Bool.and_self, if_true, Option.map_some]
theorem dIn_intsL (x : Int) (ys : List Int) : dIn (.int x) (.lst (ys.map D.int)) = some (.fro (.bl (decide (x ∈ ys)))) := by
  have : eqOk 49 (.int x) = true := rfl
  simp only [dIn, isIn, eqOk_ints, this, any_int, Bool.and_self, if_true, Option.map_some]
theorem dNotIn_ints (x : Int) (ys : List Int) : dNotIn (.int x) (.tup (ys.map D.int)) = some (.fro (.bl (!decide (x ∈ ys)))) := by
  have : eqOk 49 (.int x) = true := rfl
  simp only [dNotIn, isIn, eqOk_ints, this, any_int, Bool.and_self, if_true, Option.map_some]
theorem dNotIn_intsL (x : Int) (ys : List Int) : dNotIn (.int x) (.lst (ys.map D.int)) = some (.fro (.bl (!decide (x ∈ ys)))) := by
  have : eqOk 49 (.int x) = true := rfl
  simp only [dNotIn, isIn, eqOk_ints, this, any_int, Bool.and_self, if_true, Option.map_some]
@[simp] theorem dEq_int (i j : Int) : dEq (.int i) (.int j) = some (.fro (.bl (decide (i = j)))) := by
  have h : ∀ i, eqOk 50 (.int i) = true := fun i => rfl
  simp [dEq, h]
@[simp] theorem dNe_int (i j : Int) : dNe (.int i) (.int j) = some (.fro (.bl (!decide (i = j)))) := by
  have h : ∀ i, eqOk 50 (.int i) = true := fun i => rfl
  simp [dNe, h]
@[simp] theorem dEq_bl (i j : Bool) : dEq (.bl i) (.bl j) = some (.fro (.bl (decide (i = j)))) := by
  have h : ∀ i, eqOk 50 (.bl i) = true := fun i => rfl
  simp [dEq, h]
@[simp] theorem dNe_bl (i j : Bool) : dNe (.bl i) (.bl j) = some (.fro (.bl (!decide (i = j)))) := by
  have h : ∀ i, eqOk 50 (.bl i) = true := fun i => rfl
  simp [dNe, h]
theorem dIx_tup {ds : List D} {i : Nat} {d : D} (h : ds[i]? = some d) : dIx (.tup ds) (.int (i : Int)) = some (.fro d) := by
  have hl : i < ds.length := (List.getElem?_eq_some_iff.mp h).1
  have : ixN ds.length (i : Int) = some i := by
    unfold ixN
    rw [if_pos (by omega), if_pos (by omega), Int.toNat_natCast]
  simp only [dIx, atI, this, Option.bind_some, h, Option.map_some]
theorem dIx_lst {ds : List D} {i : Nat} {d : D} (h : ds[i]? = some d) : dIx (.lst ds) (.int (i : Int)) = some (.fro d) := dIx_tup h
theorem keyToksAll_ints : ∀ xs ys : List Int, PySem.W.keyToksAll (pyAll (xs.map D.int)) = PySem.W.keyToksAll (pyAll (ys.map D.int)) → xs = ys
  | [], [], _ => rfl
  | x :: xs, [], h => by simp [pyAll, py, PySem.W.keyToksAll] at h
  | [], y :: ys, h => by simp [pyAll, py, PySem.W.keyToksAll] at h
  | x :: xs, y :: ys, h => by
    simp [pyAll, py, PySem.W.keyToksAll, PySem.W.keyToks] at h
    rw [h.1, keyToksAll_ints xs ys h.2]
def tN (xs : List Int) : D := .tup (xs.map D.int)
theorem dle_total : PySem.W.TotalLe dle := PySem.W.sortLe_total (PyProof.Rows.listOrd PyProof.Rows.itemOrd) false fun b => PySem.W.keyToks (py b)
theorem dle_anti {xs ys : List Int} (h1 : dle (tN xs) (tN ys) = true) (h2 : dle (tN ys) (tN xs) = true) : xs = ys := by
  have e1 : dle (tN xs) (tN ys) = !(PyProof.Rows.listOrd PyProof.Rows.itemOrd).blt (PySem.W.keyToks (py (tN ys))) (PySem.W.keyToks (py (tN xs))) := rfl
  have e2 : dle (tN ys) (tN xs) = !(PyProof.Rows.listOrd PyProof.Rows.itemOrd).blt (PySem.W.keyToks (py (tN xs))) (PySem.W.keyToks (py (tN ys))) := rfl
  rw [e1, Bool.not_eq_true'] at h1
  rw [e2, Bool.not_eq_true'] at h2
  have := (PyProof.Rows.listOrd PyProof.Rows.itemOrd).total _ _ h2 h1
  exact keyToksAll_ints xs ys (by simpa [tN, py, PySem.W.keyToks] using this)
theorem sort_eq {xs ys : List (List Int)} (h : xs.Perm ys) : (xs.map tN).mergeSort dle = (ys.map tN).mergeSort dle := by
  have tr : ∀ a b c : D, dle a b = true → dle b c = true → dle a c = true := fun a b c => dle_total.trans a b c
  have to : ∀ a b : D, (dle a b || dle b a) = true := fun a b => by
    rw [Bool.or_eq_true]; exact dle_total.total a b
  refine List.Perm.eq_of_pairwise (le := fun a b => dle a b = true) (fun a b ha hb h1 h2 => ?_) (List.pairwise_mergeSort tr to _) (List.pairwise_mergeSort tr to _) (((List.mergeSort_perm _ _).trans (h.map _)).trans (List.mergeSort_perm _ _).symm)
  rw [List.mem_mergeSort] at ha hb
  obtain ⟨x, _, rfl⟩ := List.mem_map.mp ha
  obtain ⟨y, _, rfl⟩ := List.mem_map.mp hb
  rw [dle_anti h1 h2]
theorem isNeTup_tN {x : List Int} (h : x ≠ []) : isNeTup (tN x) = true := by
  cases x with
  | nil => exact absurd rfl h
  | cons => rfl
theorem alike_ints : ∀ xs ys : List Int, PySem.W.alikeAll (pyAll (xs.map D.int)) (pyAll (ys.map D.int)) = true
  | [], _ => by simp [pyAll, PySem.W.alikeAll]
  | _ :: _, [] => by simp [pyAll, PySem.W.alikeAll]
  | x :: xs, y :: ys => by simp [pyAll, py, PySem.W.alikeAll, PySem.W.alike, alike_ints xs ys]
theorem sortOk_tN {xs : List (List Int)} (hl : xs.length ≤ 1000000) (h : ∀ x ∈ xs, x ≠ []) : sortOk (xs.map tN) = true := by
  unfold sortOk
  simp only [Bool.and_eq_true, Bool.or_eq_true, decide_eq_true_eq, List.length_map, List.all_eq_true, List.mem_map]
  refine ⟨⟨⟨hl, ?_⟩, ?_⟩, .inl ?_⟩
  · rintro _ ⟨x, _, rfl⟩
    exact eqOk_ints 39 x
  · rintro _ ⟨x, _, rfl⟩ _ ⟨y, _, rfl⟩
    simp [tN, py, PySem.W.alike, alike_ints]
  · rintro _ ⟨x, hx, rfl⟩
    exact isNeTup_tN (h x hx)
theorem dSorted_tN {xs : List (List Int)} (hl : xs.length ≤ 1000000) (h : ∀ x ∈ xs, x ≠ []) : dSorted [.lst (xs.map tN)] = some (.own (.lst ((xs.map tN).mergeSort dle))) := by
  simp only [dSorted, sortOk_tN hl h, if_true]
theorem lcGo_map {α : Type} (inj : α → D) (p : α → Bool) (v : α → D) {t : Tgt} {c : Ev Bool} {e : Ev RV} {env : List Slot} {st : List Cell} : ∀ xs : List α,
    (∀ x ∈ xs, ∃ s1 s2, t (inj x) ⟨env, st⟩ = some s1 ∧ c s1 = some (p x, s2) ∧ s2.st = st ∧ (p x = true → ∃ r s3, e s2 = some (r, s3) ∧ r.d = v x ∧ s3.st = st)) →
    evLcGo t c e env (xs.map inj) st = some ((xs.filter p).map v, st)
  | [], _ => rfl
  | x :: xs, h => by
    obtain ⟨s1, s2, h1, h2, h3, h4⟩ := h x (.head _)
    have ih := lcGo_map inj p v xs fun y hy => h y (.tail _ hy)
    show (t (inj x) ⟨env, st⟩).bind _ = _
    rw [h1, Option.bind_some, h2, Option.bind_some]
    cases hp : p x with
    | false =>
      rw [if_neg (by simp), h3, ih, List.filter_cons_of_neg (by simp [hp])]
    | true =>
      obtain ⟨r, s3, h5, h6, h7⟩ := h4 hp
      rw [if_pos rfl, h5, Option.bind_some, h7, ih, List.filter_cons_of_pos (by simp [hp])]
      simp [h6]
/-- a comprehension whose parts change no cell -/
theorem lc_map {α : Type} (inj : α → D) (p : α → Bool) (v : α → D) (xs : List α) {it : Ev (List D)} {cap vs : List Nat} {t : Tgt} {c : Ev Bool} {e : Ev RV} {s s' : Sg}
    (hi : it s = some (xs.map inj, s')) (hl : xs.length ≤ 1000000)
    (h : ∀ x ∈ xs, ∃ s1 s2, t (inj x) ⟨blkEnv vs (freezeCap cap s').env, s'.st⟩ = some s1 ∧ c s1 = some (p x, s2) ∧ s2.st = s'.st ∧ (p x = true → ∃ r s3, e s2 = some (r, s3) ∧ r.d = v x ∧ s3.st = s'.st)) :
    evLc it cap vs t c e s = some (.own (.lst ((xs.filter p).map v)), ⟨(freezeCap cap s').env, s'.st⟩) := by
  unfold evLc
  rw [hi, Option.bind_some, if_pos (by simpa using hl), lcGo_map inj p v xs h]
  rfl
/-- a comprehension whose parts change the cells -/
theorem lcGo_st {α β : Type} (inj : α → D) (out : β → D) (R : α → β → Prop) (J : Nat → List Cell → Prop) {t : Tgt} {c : Ev Bool} {e : Ev RV} {env : List Slot} : ∀ (xs : List α) (k : Nat) (st : List Cell), J k st →
    (∀ (i : Nat) (x : α) st, xs[i]? = some x → J (k + i) st → ∃ s1 s2 r s3 y, t (inj x) ⟨env, st⟩ = some s1 ∧ c s1 = some (true, s2) ∧ e s2 = some (r, s3) ∧ r.d = out y ∧ R x y ∧ J (k + i + 1) s3.st) →
    ∃ (ys : List β) (st' : List Cell), evLcGo t c e env (xs.map inj) st = some (ys.map out, st') ∧ ys.length = xs.length ∧ (∀ (i : Nat) (x : α) (y : β), xs[i]? = some x → ys[i]? = some y → R x y) ∧ J (k + xs.length) st'
  | [], k, st, h0, _ => ⟨[], st, rfl, rfl, fun i x y h => by simp at h, h0⟩
  | x :: xs, k, st, h0, h => by
    obtain ⟨s1, s2, r, s3, y, h1, h2, h3, h4, h5, h6⟩ := h 0 x st rfl h0
    obtain ⟨ys, st', g1, g2, g3, g4⟩ := lcGo_st inj out R J xs (k + 1) s3.st h6 fun i z st hz hj => by
      rw [show k + 1 + i = k + (i + 1) by omega] at hj ⊢
      exact h (i + 1) z st hz hj
    refine ⟨y :: ys, st', ?_, by simp [g2], fun i a b ha hb => ?_, by rw [List.length_cons, show k + (xs.length + 1) = k + 1 + xs.length by omega]; exact g4⟩
    · show (t (inj x) ⟨env, st⟩).bind _ = _
      rw [h1, Option.bind_some, h2, Option.bind_some, if_pos rfl, h3, Option.bind_some, g1]
      simp [h4]
    · cases i with
      | zero => simp at ha hb; subst ha hb; exact h5
      | succ i => exact g3 i a b (by simpa using ha) (by simpa using hb)
theorem lc_st {α β : Type} (inj : α → D) (out : β → D) (R : α → β → Prop) (J : Nat → List Cell → Prop) (xs : List α) {it : Ev (List D)} {cap vs : List Nat} {t : Tgt} {c : Ev Bool} {e : Ev RV} {s s' : Sg}
    (hi : it s = some (xs.map inj, s')) (hl : xs.length ≤ 1000000) (h0 : J 0 s'.st)
    (h : ∀ (i : Nat) (x : α) st, xs[i]? = some x → J i st → ∃ s1 s2 r s3 y, t (inj x) ⟨blkEnv vs (freezeCap cap s').env, st⟩ = some s1 ∧ c s1 = some (true, s2) ∧ e s2 = some (r, s3) ∧ r.d = out y ∧ R x y ∧ J (i + 1) s3.st) :
    ∃ (ys : List β) (st' : List Cell), evLc it cap vs t c e s = some (.own (.lst (ys.map out)), ⟨(freezeCap cap s').env, st'⟩) ∧ ys.length = xs.length ∧ (∀ (i : Nat) (x : α) (y : β), xs[i]? = some x → ys[i]? = some y → R x y) ∧ J xs.length st' := by
  obtain ⟨ys, st', g1, g2, g3, g4⟩ := lcGo_st inj out R J xs 0 s'.st h0 fun i x st hx hj => by
    rw [Nat.zero_add] at hj ⊢
    exact h i x st hx hj
  refine ⟨ys, st', ?_, g2, g3, by simpa using g4⟩
  unfold evLc
  rw [hi, Option.bind_some, if_pos (by simpa using hl), g1]
  rfl
/-- a loop that runs through -/
theorem for_inv {t : Tgt} {b : Ev Out} (I : Nat → Sg → Prop) (ds : List D) : ∀ (k : Nat) (es : List D) (s : Sg), ds.drop k = es → I k s →
    (∀ i d s, ds[i]? = some d → I i s → ∃ s1 o s2, t d s = some s1 ∧ b s1 = some (o, s2) ∧ (o = .nx ∨ o = .ct) ∧ I (i + 1) s2) → ∃ s', evFor t b es s = some (.nx, s') ∧ I (k + es.length) s'
  | k, [], s, hd, h0, hs => ⟨s, rfl, h0⟩
  | k, e :: es, s, hd, h0, hs => by
    have hk : ds[k]? = some e := by
      rw [← List.head?_drop, hd]; rfl
    obtain ⟨s1, o, s2, h1, h2, h3, h4⟩ := hs k e s hk h0
    have hd' : ds.drop (k + 1) = es := by rw [← List.tail_drop, hd]; rfl
    obtain ⟨s', h5, h6⟩ := for_inv I ds (k + 1) es s2 hd' h4 hs
    refine ⟨s', ?_, by rw [List.length_cons]; rw [show k + (es.length + 1) = k + 1 + es.length by omega]; exact h6⟩
    show (t e s).bind _ = _
    rw [h1, Option.bind_some, h2, Option.bind_some]
    rcases h3 with rfl | rfl <;> exact h5
theorem forS_inv {it : Ev (List D)} {t : Tgt} {b : Ev Out} (I : Nat → Sg → Prop) {ds : List D} {s s0 : Sg} (hi : it s = some (ds, s0)) (h0 : I 0 s0)
    (hs : ∀ i d s, ds[i]? = some d → I i s → ∃ s1 o s2, t d s = some s1 ∧ b s1 = some (o, s2) ∧ (o = .nx ∨ o = .ct) ∧ I (i + 1) s2) : ∃ s', evForS it t b s = some (.nx, s') ∧ I ds.length s' := by
  obtain ⟨s', h1, h2⟩ := for_inv I ds 0 ds s0 rfl h0 hs
  refine ⟨s', ?_, by simpa using h2⟩
  unfold evForS
  rw [hi, Option.bind_some]
  exact h1
end Pv

namespace Pv
open PySem PySem.Spec L2
def kPair {α : Type} (s : Sg) (x : α) : α × Sg := (x, s)
@[simp] theorem kPair_ap {α : Type} (s : Sg) (x : α) : kPair s x = (x, s) := rfl
def kVal (p : RV × Sg) : Bor × Sg := (.val p.1.d, p.2)
@[simp] theorem kVal_fro (d : D) (s : Sg) : kVal (.fro d, s) = (.val d, s) := rfl
@[simp] theorem kVal_own (d : D) (s : Sg) : kVal (.own d, s) = (.val d, s) := rfl
@[simp] theorem evV_ap (a : Ev RV) (s : Sg) : evV a s = (a s).map kVal := rfl
@[simp] theorem evC_ap (d : D) (s : Sg) : evC d s = some (.fro d, s) := rfl
def kSlot (i : Nat) (s : Sg) : Option Slot → Option (Bor × Sg)
  | some .non => none
  | some _ => some (.slot i, s)
  | none => none
@[simp] theorem kSlot_fro (i : Nat) (s : Sg) (d : D) : kSlot i s (some (.fro d)) = some (.slot i, s) := rfl
@[simp] theorem kSlot_own (i : Nat) (s : Sg) (d : D) : kSlot i s (some (.own d)) = some (.slot i, s) := rfl
@[simp] theorem evSlot_ap (i : Nat) (s : Sg) : evSlot i s = kSlot i s (s.env[i]?) := rfl
def kName (i : Nat) (s : Sg) : Option Slot → Option (RV × Sg)
  | some (.fro d) => some (.fro d, s)
  | some (.own d) => some (.fro d, { s with env := s.env.set i (.fro d) })
  | _ => none
@[simp] theorem kName_fro (i : Nat) (s : Sg) (d : D) : kName i s (some (.fro d)) = some (.fro d, s) := rfl
@[simp] theorem kName_own (i : Nat) (s : Sg) (d : D) : kName i s (some (.own d)) = some (.fro d, { s with env := s.env.set i (.fro d) }) := rfl
@[simp] theorem evName_ap (i : Nat) (s : Sg) : evName i s = kName i s (s.env[i]?) := rfl
def kRetOwn (i : Nat) (s : Sg) : Option Slot → Option (Out × Sg)
  | some (.own d) => some (.rt (.own d), { s with env := s.env.set i .non })
  | some (.fro d) => some (.rt (.fro d), s)
  | _ => none
@[simp] theorem kRetOwn_fro (i : Nat) (s : Sg) (d : D) : kRetOwn i s (some (.fro d)) = some (.rt (.fro d), s) := rfl
@[simp] theorem kRetOwn_own (i : Nat) (s : Sg) (d : D) : kRetOwn i s (some (.own d)) = some (.rt (.own d), { s with env := s.env.set i .non }) := rfl
@[simp] theorem evRetOwn_ap (i : Nat) (s : Sg) : evRetOwn i s = kRetOwn i s (s.env[i]?) := rfl
def kFetch (s : Sg) : Option Slot → Option D
  | some (.fro d) => some (deref s d)
  | some (.own d) => some d
  | _ => none
@[simp] theorem kFetch_fro (s : Sg) (d : D) : kFetch s (some (.fro d)) = some (deref s d) := rfl
@[simp] theorem kFetch_own (s : Sg) (d : D) : kFetch s (some (.own d)) = some d := rfl
@[simp] theorem fetch_val (s : Sg) (d : D) : fetch s (.val d) = some (deref s d) := rfl
@[simp] theorem fetch_slot (s : Sg) (i : Nat) : fetch s (.slot i) = kFetch s (s.env[i]?) := rfl
def k2d (f : Op2) (s : Sg) (dx dy : D) : Option (RV × Sg) := (f dx dy).map (kPair s)
@[simp] theorem k2d_ap (f : Op2) (s : Sg) (dx dy : D) : k2d f s dx dy = (f dx dy).map (kPair s) := rfl
def k2c (f : Op2) (s : Sg) (y : Bor) (dx : D) : Option (RV × Sg) := (fetch s y).bind (k2d f s dx)
@[simp] theorem k2c_ap (f : Op2) (s : Sg) (y : Bor) (dx : D) : k2c f s y dx = (fetch s y).bind (k2d f s dx) := rfl
def k2b (f : Op2) (x : Bor) (q : Bor × Sg) : Option (RV × Sg) := (fetch q.2 x).bind (k2c f q.2 q.1)
@[simp] theorem k2b_ap (f : Op2) (x y : Bor) (s : Sg) : k2b f x (y, s) = (fetch s x).bind (k2c f s y) := rfl
def k2a (f : Op2) (b : Ev Bor) (p : Bor × Sg) : Option (RV × Sg) := (b p.2).bind (k2b f p.1)
@[simp] theorem k2a_ap (f : Op2) (b : Ev Bor) (x : Bor) (s : Sg) : k2a f b (x, s) = (b s).bind (k2b f x) := rfl
@[simp] theorem ev2_ap (f : Op2) (a b : Ev Bor) (s : Sg) : ev2 f a b s = (a s).bind (k2a f b) := rfl
def kFs (s : Sg) (bs : List Bor) (d : D) : Option (List D) := (fetchAll s bs).map (List.cons d)
@[simp] theorem kFs_ap (s : Sg) (bs : List Bor) (d : D) : kFs s bs d = (fetchAll s bs).map (List.cons d) := rfl
@[simp] theorem fetchAll_nil (s : Sg) : fetchAll s [] = some [] := rfl
@[simp] theorem fetchAll_cons (s : Sg) (b : Bor) (bs : List Bor) : fetchAll s (b :: bs) = (fetch s b).bind (kFs s bs) := rfl
def kNb (f : OpN) (s : Sg) (ds : List D) : Option (RV × Sg) := (f ds).map (kPair s)
@[simp] theorem kNb_ap (f : OpN) (s : Sg) (ds : List D) : kNb f s ds = (f ds).map (kPair s) := rfl
def kNa (f : OpN) (p : List Bor × Sg) : Option (RV × Sg) := (fetchAll p.2 p.1).bind (kNb f p.2)
@[simp] theorem kNa_ap (f : OpN) (x : List Bor) (s : Sg) : kNa f (x, s) = (fetchAll s x).bind (kNb f s) := rfl
@[simp] theorem evN_ap (f : OpN) (a : Ev (List Bor)) (s : Sg) : evN f a s = (a s).bind (kNa f) := rfl
def kCons2 (x : RV) (q : List D × Sg) : List D × Sg := (x.d :: q.1, q.2)
@[simp] theorem kCons2_ap (x : RV) (q : List D) (s : Sg) : kCons2 x (q, s) = (x.d :: q, s) := rfl
def kCons (b : Ev (List D)) (p : RV × Sg) : Option (List D × Sg) := (b p.2).map (kCons2 p.1)
@[simp] theorem kCons_ap (b : Ev (List D)) (x : RV) (s : Sg) : kCons b (x, s) = (b s).map (kCons2 x) := rfl
@[simp] theorem evCons_ap (a : Ev RV) (b : Ev (List D)) (s : Sg) : evCons a b s = (a s).bind (kCons b) := rfl
@[simp] theorem evNil_ap (s : Sg) : evNil s = some ([], s) := rfl
def kConsB2 (x : Bor) (q : List Bor × Sg) : List Bor × Sg := (x :: q.1, q.2)
@[simp] theorem kConsB2_ap (x : Bor) (q : List Bor) (s : Sg) : kConsB2 x (q, s) = (x :: q, s) := rfl
def kConsB (b : Ev (List Bor)) (p : Bor × Sg) : Option (List Bor × Sg) := (b p.2).map (kConsB2 p.1)
@[simp] theorem kConsB_ap (b : Ev (List Bor)) (x : Bor) (s : Sg) : kConsB b (x, s) = (b s).map (kConsB2 x) := rfl
@[simp] theorem evConsB_ap (a : Ev Bor) (b : Ev (List Bor)) (s : Sg) : evConsB a b s = (a s).bind (kConsB b) := rfl
@[simp] theorem evNilB_ap (s : Sg) : evNilB s = some ([], s) := rfl
def kTup (p : List D × Sg) : Option (RV × Sg) := if p.1.length ≤ 1000 then some (.fro (.tup p.1), p.2) else none
@[simp] theorem kTup_ap (x : List D) (s : Sg) : kTup (x, s) = if x.length ≤ 1000 then some (.fro (.tup x), s) else none := rfl
@[simp] theorem evTup_ap (a : Ev (List D)) (s : Sg) : evTup a s = (a s).bind kTup := rfl
def kLst (p : List D × Sg) : Option (RV × Sg) := if p.1.length ≤ 1000 then some (.own (.lst p.1), p.2) else none
@[simp] theorem kLst_ap (x : List D) (s : Sg) : kLst (x, s) = if x.length ≤ 1000 then some (.own (.lst x), s) else none := rfl
@[simp] theorem evLst_ap (a : Ev (List D)) (s : Sg) : evLst a s = (a s).bind kLst := rfl
def kCall2 (s : Sg) (q : RV × List Cell) : RV × Sg := (q.1, { s with st := q.2 })
@[simp] theorem kCall2_ap (s : Sg) (r : RV) (st : List Cell) : kCall2 s (r, st) = (r, { s with st := st }) := rfl
def kCall (m : Fm) (p : List D × Sg) : Option (RV × Sg) := (m p.1 p.2.st).map (kCall2 p.2)
@[simp] theorem kCall_ap (m : Fm) (x : List D) (s : Sg) : kCall m (x, s) = (m x s.st).map (kCall2 s) := rfl
@[simp] theorem evCall_ap (m : Fm) (a : Ev (List D)) (s : Sg) : evCall m a s = (a s).bind (kCall m) := rfl
def kSeq (b : Ev Out) (p : Out × Sg) : Option (Out × Sg) := match p.1 with
  | .nx => b p.2
  | o => some (o, p.2)
@[simp] theorem kSeq_nx (b : Ev Out) (s : Sg) : kSeq b (.nx, s) = b s := rfl
@[simp] theorem kSeq_rt (b : Ev Out) (s : Sg) (r : RV) : kSeq b (.rt r, s) = some (.rt r, s) := rfl
@[simp] theorem kSeq_bk (b : Ev Out) (s : Sg) : kSeq b (.bk, s) = some (.bk, s) := rfl
@[simp] theorem kSeq_ct (b : Ev Out) (s : Sg) : kSeq b (.ct, s) = some (.ct, s) := rfl
@[simp] theorem evSeq_ap (a b : Ev Out) (s : Sg) : evSeq a b s = (a s).bind (kSeq b) := rfl
def kSet (i : Nat) (p : RV × Sg) : Out × Sg := (.nx, { p.2 with env := p.2.env.set i p.1.slot })
@[simp] theorem kSet_fro (i : Nat) (d : D) (s : Sg) : kSet i (.fro d, s) = (.nx, { s with env := s.env.set i (.fro d) }) := rfl
@[simp] theorem kSet_own (i : Nat) (d : D) (s : Sg) : kSet i (.own d, s) = (.nx, { s with env := s.env.set i (.own d) }) := rfl
@[simp] theorem evSet_ap (i : Nat) (a : Ev RV) (s : Sg) : evSet i a s = (a s).map (kSet i) := rfl
def kSetC (i : Nat) (p : RV × Sg) : Option (Out × Sg) := match p.1 with
  | .own d => some (.nx, ⟨p.2.env.set i (.fro (.hd p.2.st.length)), p.2.st ++ [.d d]⟩)
  | .fro _ => none
@[simp] theorem kSetC_own (i : Nat) (d : D) (s : Sg) : kSetC i (.own d, s) = some (.nx, ⟨s.env.set i (.fro (.hd s.st.length)), s.st ++ [.d d]⟩) := rfl
@[simp] theorem evSetC_ap (i : Nat) (a : Ev RV) (s : Sg) : evSetC i a s = (a s).bind (kSetC i) := rfl
def kAsg2 (s : Sg) : Out × Sg := (.nx, s)
@[simp] theorem kAsg2_ap (s : Sg) : kAsg2 s = (.nx, s) := rfl
def kAsg (t : Tgt) (p : RV × Sg) : Option (Out × Sg) := (t p.1.d p.2).map kAsg2
@[simp] theorem kAsg_ap (t : Tgt) (x : RV) (s : Sg) : kAsg t (x, s) = (t x.d s).map kAsg2 := rfl
@[simp] theorem evAsg_ap (t : Tgt) (a : Ev RV) (s : Sg) : evAsg t a s = (a s).bind (kAsg t) := rfl
def kPar2 (i j : Nat) (x : RV) (q : RV × Sg) : Out × Sg := (.nx, { q.2 with env := (q.2.env.set i x.slot).set j q.1.slot })
@[simp] theorem kPar2_ap (i j : Nat) (x y : RV) (s : Sg) : kPar2 i j x (y, s) = (.nx, { s with env := (s.env.set i x.slot).set j y.slot }) := rfl
def kPar (i j : Nat) (b : Ev RV) (p : RV × Sg) : Option (Out × Sg) := (b p.2).map (kPar2 i j p.1)
@[simp] theorem kPar_ap (i j : Nat) (b : Ev RV) (x : RV) (s : Sg) : kPar i j b (x, s) = (b s).map (kPar2 i j x) := rfl
@[simp] theorem evPar_ap (i j : Nat) (a b : Ev RV) (s : Sg) : evPar i j a b s = (a s).bind (kPar i j b) := rfl
def kIf {α : Type} (a b : Ev α) (p : Bool × Sg) : Option (α × Sg) := if p.1 then a p.2 else b p.2
@[simp] theorem kIf_t {α : Type} (a b : Ev α) (s : Sg) : kIf a b (true, s) = a s := rfl
@[simp] theorem kIf_f {α : Type} (a b : Ev α) (s : Sg) : kIf a b (false, s) = b s := rfl
@[simp] theorem evIf_ap (c : Ev Bool) (a b : Ev Out) (s : Sg) : evIf c a b s = (c s).bind (kIf a b) := rfl
@[simp] theorem evIte_ap (c : Ev Bool) (a b : Ev RV) (s : Sg) : evIte c a b s = (c s).bind (kIf a b) := rfl
def kB (p : RV × Sg) : Option (Bool × Sg) := match p.1 with
  | .fro (.bl b) => some (b, p.2)
  | _ => none
@[simp] theorem kB_ap (b : Bool) (s : Sg) : kB (.fro (.bl b), s) = some (b, s) := rfl
@[simp] theorem evB_ap (a : Ev RV) (s : Sg) : evB a s = (a s).bind kB := rfl
def kTru2 (s : Sg) (d : D) : Option (Bool × Sg) := (tru d).map (kPair s)
@[simp] theorem kTru2_ap (s : Sg) (d : D) : kTru2 s d = (tru d).map (kPair s) := rfl
def kTru (p : Bor × Sg) : Option (Bool × Sg) := (fetch p.2 p.1).bind (kTru2 p.2)
@[simp] theorem kTru_ap (x : Bor) (s : Sg) : kTru (x, s) = (fetch s x).bind (kTru2 s) := rfl
@[simp] theorem evTru_ap (a : Ev Bor) (s : Sg) : evTru a s = (a s).bind kTru := rfl
@[simp] theorem evNo_ap (s : Sg) : evNo s = some (none, s) := rfl
def kPt2 (s : Sg) : Option D → Option (Option Int × Sg)
  | some (.int i) => some (some i, s)
  | _ => none
@[simp] theorem kPt2_ap (s : Sg) (i : Int) : kPt2 s (some (.int i)) = some (some i, s) := rfl
def kPt (p : Bor × Sg) : Option (Option Int × Sg) := kPt2 p.2 (fetch p.2 p.1)
@[simp] theorem kPt_ap (x : Bor) (s : Sg) : kPt (x, s) = kPt2 s (fetch s x) := rfl
@[simp] theorem evPt_ap (a : Ev Bor) (s : Sg) : evPt a s = (a s).bind kPt := rfl
def kSl3 (f : Sl) (l h : Option Int) (s : Sg) (d : D) : Option (RV × Sg) := (f d l h).map (kPair s)
@[simp] theorem kSl3_ap (f : Sl) (l h : Option Int) (s : Sg) (d : D) : kSl3 f l h s d = (f d l h).map (kPair s) := rfl
def kSl2 (f : Sl) (x : Bor) (l : Option Int) (p : Option Int × Sg) : Option (RV × Sg) := (fetch p.2 x).bind (kSl3 f l p.1 p.2)
@[simp] theorem kSl2_ap (f : Sl) (x : Bor) (l h : Option Int) (s : Sg) : kSl2 f x l (h, s) = (fetch s x).bind (kSl3 f l h s) := rfl
def kSl1 (f : Sl) (x : Bor) (h : Ev (Option Int)) (p : Option Int × Sg) : Option (RV × Sg) := (h p.2).bind (kSl2 f x p.1)
@[simp] theorem kSl1_ap (f : Sl) (x : Bor) (h : Ev (Option Int)) (l : Option Int) (s : Sg) : kSl1 f x h (l, s) = (h s).bind (kSl2 f x l) := rfl
def kSl0 (f : Sl) (l h : Ev (Option Int)) (p : Bor × Sg) : Option (RV × Sg) := (l p.2).bind (kSl1 f p.1 h)
@[simp] theorem kSl0_ap (f : Sl) (l h : Ev (Option Int)) (x : Bor) (s : Sg) : kSl0 f l h (x, s) = (l s).bind (kSl1 f x h) := rfl
@[simp] theorem evSl_ap (f : Sl) (a : Ev Bor) (l h : Ev (Option Int)) (s : Sg) : evSl f a l h s = (a s).bind (kSl0 f l h) := rfl
def kRng1 (p : List D × Sg) : Option (List D × Sg) := match p.1 with
  | [.int j] => if small62 j then some (upTo 0 j.toNat, p.2) else none
  | _ => none
@[simp] theorem kRng1_ap (j : Int) (s : Sg) : kRng1 ([.int j], s) = if small62 j then some (upTo 0 j.toNat, s) else none := rfl
@[simp] theorem evRng1_ap (a : Ev (List D)) (s : Sg) : evRng1 a s = (a s).bind kRng1 := rfl
def kRng2 (p : List D × Sg) : Option (List D × Sg) := match p.1 with
  | [.int i, .int j] => if small62 i && small62 j then some (upTo i (j - i).toNat, p.2) else none
  | _ => none
@[simp] theorem kRng2_ap (i j : Int) (s : Sg) : kRng2 ([.int i, .int j], s) = if small62 i && small62 j then some (upTo i (j - i).toNat, s) else none := rfl
@[simp] theorem evRng2_ap (a : Ev (List D)) (s : Sg) : evRng2 a s = (a s).bind kRng2 := rfl
def kItS (p : RV × Sg) : Option (List D × Sg) := (dSeq p.1.d).map (kPair p.2)
@[simp] theorem kItS_ap (x : RV) (s : Sg) : kItS (x, s) = (dSeq x.d).map (kPair s) := rfl
@[simp] theorem evItS_ap (a : Ev RV) (s : Sg) : evItS a s = (a s).bind kItS := rfl
def kArgs (f : List D → Option (List D)) (p : List D × Sg) : Option (List D × Sg) := (f p.1).map (kPair p.2)
@[simp] theorem kArgs_ap (f : List D → Option (List D)) (x : List D) (s : Sg) : kArgs f (x, s) = (f x).map (kPair s) := rfl
@[simp] theorem evArgs_ap (f : List D → Option (List D)) (a : Ev (List D)) (s : Sg) : evArgs f a s = (a s).bind (kArgs f) := rfl
def kDrop (p : RV × Sg) : Out × Sg := (.nx, p.2)
@[simp] theorem kDrop_ap (x : RV) (s : Sg) : kDrop (x, s) = (.nx, s) := rfl
@[simp] theorem evDrop_ap (a : Ev RV) (s : Sg) : evDrop a s = (a s).map kDrop := rfl
def kRet (p : RV × Sg) : Out × Sg := (.rt p.1, p.2)
@[simp] theorem kRet_ap (x : RV) (s : Sg) : kRet (x, s) = (.rt x, s) := rfl
@[simp] theorem evRet_ap (a : Ev RV) (s : Sg) : evRet a s = (a s).map kRet := rfl
@[simp] theorem evRetN_ap (s : Sg) : evRetN s = some (.rt (.fro .non), s) := rfl
@[simp] theorem evPass_ap (s : Sg) : evPass s = some (.nx, s) := rfl
@[simp] theorem evBreak_ap (s : Sg) : evBreak s = some (.bk, s) := rfl
@[simp] theorem evCont_ap (s : Sg) : evCont s = some (.ct, s) := rfl
@[simp] theorem evYes_ap (s : Sg) : evYes s = some (true, s) := rfl
@[simp] theorem evDNew_ap (t : Bool) (s : Sg) : evDNew t s = some (.own (.dct t []), s) := rfl
def kAnd (b : Ev Bool) (p : Bool × Sg) : Option (Bool × Sg) := if p.1 then b p.2 else some (false, p.2)
@[simp] theorem kAnd_t (b : Ev Bool) (s : Sg) : kAnd b (true, s) = b s := rfl
@[simp] theorem kAnd_f (b : Ev Bool) (s : Sg) : kAnd b (false, s) = some (false, s) := rfl
@[simp] theorem evAnd_ap (a b : Ev Bool) (s : Sg) : evAnd a b s = (a s).bind (kAnd b) := rfl
def kOr (b : Ev Bool) (p : Bool × Sg) : Option (Bool × Sg) := if p.1 then some (true, p.2) else b p.2
@[simp] theorem kOr_t (b : Ev Bool) (s : Sg) : kOr b (true, s) = some (true, s) := rfl
@[simp] theorem kOr_f (b : Ev Bool) (s : Sg) : kOr b (false, s) = b s := rfl
@[simp] theorem evOr_ap (a b : Ev Bool) (s : Sg) : evOr a b s = (a s).bind (kOr b) := rfl
def kNot (p : Bool × Sg) : Bool × Sg := (!p.1, p.2)
@[simp] theorem kNot_ap (b : Bool) (s : Sg) : kNot (b, s) = (!b, s) := rfl
@[simp] theorem evNot_ap (a : Ev Bool) (s : Sg) : evNot a s = (a s).map kNot := rfl
def kVand (b : Ev RV) (p : RV × Sg) : Option (RV × Sg) := match p.1 with
  | .fro (.bl true) => b p.2
  | .fro (.bl false) => some (.fro (.bl false), p.2)
  | _ => none
@[simp] theorem kVand_t (b : Ev RV) (s : Sg) : kVand b (.fro (.bl true), s) = b s := rfl
@[simp] theorem kVand_f (b : Ev RV) (s : Sg) : kVand b (.fro (.bl false), s) = some (.fro (.bl false), s) := rfl
@[simp] theorem evVand_ap (a b : Ev RV) (s : Sg) : evVand a b s = (a s).bind (kVand b) := rfl
def kVor (b : Ev RV) (p : RV × Sg) : Option (RV × Sg) := match p.1 with
  | .fro (.bl false) => b p.2
  | .fro (.bl true) => some (.fro (.bl true), p.2)
  | _ => none
@[simp] theorem kVor_t (b : Ev RV) (s : Sg) : kVor b (.fro (.bl true), s) = some (.fro (.bl true), s) := rfl
@[simp] theorem kVor_f (b : Ev RV) (s : Sg) : kVor b (.fro (.bl false), s) = b s := rfl
@[simp] theorem evVor_ap (a b : Ev RV) (s : Sg) : evVor a b s = (a s).bind (kVor b) := rfl
def kVnot (p : RV × Sg) : Option (RV × Sg) := match p.1 with
  | .fro (.bl b) => some (.fro (.bl (!b)), p.2)
  | _ => none
@[simp] theorem kVnot_ap (b : Bool) (s : Sg) : kVnot (.fro (.bl b), s) = some (.fro (.bl (!b)), s) := rfl
@[simp] theorem evVnot_ap (a : Ev RV) (s : Sg) : evVnot a s = (a s).bind kVnot := rfl
def kNeg2 (s : Sg) : Option D → Option (RV × Sg)
  | some (.int i) => some (.fro (.int (-i)), s)
  | _ => none
@[simp] theorem kNeg2_ap (s : Sg) (i : Int) : kNeg2 s (some (.int i)) = some (.fro (.int (-i)), s) := rfl
def kNeg (p : Bor × Sg) : Option (RV × Sg) := kNeg2 p.2 (fetch p.2 p.1)
@[simp] theorem kNeg_ap (x : Bor) (s : Sg) : kNeg (x, s) = kNeg2 s (fetch s x) := rfl
@[simp] theorem evNeg_ap (a : Ev Bor) (s : Sg) : evNeg a s = (a s).bind kNeg := rfl
def kIsi2 (T : String) (s : Sg) (d : D) : Option (RV × Sg) := (isiB T d).map (kPair s)
@[simp] theorem kIsi2_ap (T : String) (s : Sg) (d : D) : kIsi2 T s d = (isiB T d).map (kPair s) := rfl
def kIsi (T : String) (p : Bor × Sg) : Option (RV × Sg) := (fetch p.2 p.1).bind (kIsi2 T p.2)
@[simp] theorem kIsi_ap (T : String) (x : Bor) (s : Sg) : kIsi T (x, s) = (fetch s x).bind (kIsi2 T s) := rfl
@[simp] theorem evIsi_ap (T : String) (a : Ev Bor) (s : Sg) : evIsi T a s = (a s).bind (kIsi T) := rfl
def kIsis2 (T : List String) (s : Sg) (d : D) : Option (RV × Sg) := (isiBs T d).map (kPair s)
@[simp] theorem kIsis2_ap (T : List String) (s : Sg) (d : D) : kIsis2 T s d = (isiBs T d).map (kPair s) := rfl
def kIsis (T : List String) (p : Bor × Sg) : Option (RV × Sg) := (fetch p.2 p.1).bind (kIsis2 T p.2)
@[simp] theorem kIsis_ap (T : List String) (x : Bor) (s : Sg) : kIsis T (x, s) = (fetch s x).bind (kIsis2 T s) := rfl
@[simp] theorem evIsis_ap (T : List String) (a : Ev Bor) (s : Sg) : evIsis T a s = (a s).bind (kIsis T) := rfl
def kOwn (st : List Cell) : Option Slot → Option D
  | some (.own d) => some d
  | some (.fro (.hd n)) => match st[n]? with
    | some (.d d) => some d
    | _ => none
  | _ => none
def kCell : Option Cell → Option D
  | some (.d d) => some d
  | _ => none
@[simp] theorem kCell_ap (d : D) : kCell (some (.d d)) = some d := rfl
@[simp] theorem kOwn_own (st : List Cell) (d : D) : kOwn st (some (.own d)) = some d := rfl
@[simp] theorem kOwn_hd (st : List Cell) (n : Nat) : kOwn st (some (.fro (.hd n))) = kCell (st[n]?) := by
  show (match st[n]? with
    | some (.d d) => some d
    | _ => none) = _
  cases st[n]? with
  | none => rfl
  | some c => cases c <;> rfl
@[simp] theorem ownAt_ap (s : Sg) (i : Nat) : ownAt s i = kOwn s.st (s.env[i]?) := rfl
def kPut (s : Sg) (i : Nat) (d : D) : Option Slot → Sg
  | some (.own _) => { s with env := s.env.set i (.own d) }
  | some (.fro (.hd n)) => { s with st := s.st.set n (.d d) }
  | _ => s
@[simp] theorem kPut_own (s : Sg) (i : Nat) (d e : D) : kPut s i d (some (.own e)) = { s with env := s.env.set i (.own d) } := rfl
@[simp] theorem kPut_hd (s : Sg) (i : Nat) (d : D) (n : Nat) : kPut s i d (some (.fro (.hd n))) = { s with st := s.st.set n (.d d) } := rfl
@[simp] theorem setAt_ap (s : Sg) (i : Nat) (d : D) : setAt s i d = kPut s i d (s.env[i]?) := rfl
def kMut3 (s : Sg) (i : Nat) (r : D × D) : RV × Sg := (.fro r.2, setAt s i r.1)
@[simp] theorem kMut3_ap (s : Sg) (i : Nat) (d r : D) : kMut3 s i (d, r) = (.fro r, setAt s i d) := rfl
def kMut2 (f : Mut1) (i : Nat) (s : Sg) (ds : List D) (d : D) : Option (RV × Sg) := (f d ds).map (kMut3 s i)
@[simp] theorem kMut2_ap (f : Mut1) (i : Nat) (s : Sg) (ds : List D) (d : D) : kMut2 f i s ds d = (f d ds).map (kMut3 s i) := rfl
def kMut1 (f : Mut1) (i : Nat) (p : List D × Sg) : Option (RV × Sg) := (ownAt p.2 i).bind (kMut2 f i p.2 p.1)
@[simp] theorem kMut1_ap (f : Mut1) (i : Nat) (x : List D) (s : Sg) : kMut1 f i (x, s) = (ownAt s i).bind (kMut2 f i s x) := rfl
def kMut (T : String) (i : Nat) (f : Mut1) (a : Ev (List D)) (s : Sg) (d0 : D) : Option (RV × Sg) := if tyD T d0 = true then (a s).bind (kMut1 f i) else none
@[simp] theorem kMut_lst (i : Nat) (f : Mut1) (a : Ev (List D)) (s : Sg) (d : List D) : kMut "list" i f a s (.lst d) = (a s).bind (kMut1 f i) := by simp [kMut, tyD]
@[simp] theorem kMut_dct (i : Nat) (f : Mut1) (a : Ev (List D)) (s : Sg) (t : Bool) (d : List (D × D)) : kMut "dict" i f a s (.dct t d) = (a s).bind (kMut1 f i) := by simp [kMut, tyD]
@[simp] theorem evMut_ap (T : String) (i : Nat) (f : Mut1) (a : Ev (List D)) (s : Sg) : evMut T i f a s = (ownAt s i).bind (kMut T i f a s) := rfl
def kSI4 (s : Sg) (i : Nat) (d : D) : Out × Sg := (.nx, setAt s i d)
@[simp] theorem kSI4_ap (s : Sg) (i : Nat) (d : D) : kSI4 s i d = (.nx, setAt s i d) := rfl
def kSI3 (i : Nat) (f : D → D → D → Option D) (v : D) (s : Sg) (di d : D) : Option (Out × Sg) := (f d di v).map (kSI4 s i)
@[simp] theorem kSI3_ap (i : Nat) (f : D → D → D → Option D) (v : D) (s : Sg) (di d : D) : kSI3 i f v s di d = (f d di v).map (kSI4 s i) := rfl
def kSI2 (i : Nat) (f : D → D → D → Option D) (v : D) (s : Sg) (di : D) : Option (Out × Sg) := (ownAt s i).bind (kSI3 i f v s di)
@[simp] theorem kSI2_ap (i : Nat) (f : D → D → D → Option D) (v : D) (s : Sg) (di : D) : kSI2 i f v s di = (ownAt s i).bind (kSI3 i f v s di) := rfl
def kSI1 (i : Nat) (f : D → D → D → Option D) (v : D) (q : Bor × Sg) : Option (Out × Sg) := (fetch q.2 q.1).bind (kSI2 i f v q.2)
@[simp] theorem kSI1_ap (i : Nat) (f : D → D → D → Option D) (v : D) (x : Bor) (s : Sg) : kSI1 i f v (x, s) = (fetch s x).bind (kSI2 i f v s) := rfl
def kSI0 (i : Nat) (f : D → D → D → Option D) (ti : Ev Bor) (v : D) (s : Sg) (z : Bor × Sg) : Option (Out × Sg) := (ti s).bind (kSI1 i f v)
@[simp] theorem kSI0_ap (i : Nat) (f : D → D → D → Option D) (ti : Ev Bor) (v : D) (s : Sg) (z : Bor × Sg) : kSI0 i f ti v s z = (ti s).bind (kSI1 i f v) := rfl
def kSI (i : Nat) (f : D → D → D → Option D) (ti : Ev Bor) (p : RV × Sg) : Option (Out × Sg) := (evSlot i p.2).bind (kSI0 i f ti p.1.d p.2)
@[simp] theorem kSI_ap (i : Nat) (f : D → D → D → Option D) (ti : Ev Bor) (x : RV) (s : Sg) : kSI i f ti (x, s) = (evSlot i s).bind (kSI0 i f ti x.d s) := rfl
@[simp] theorem evSetI_ap (i : Nat) (f : D → D → D → Option D) (ti : Ev Bor) (tv : Ev RV) (s : Sg) : evSetI i f ti tv s = (tv s).bind (kSI i f ti) := rfl
def kCh3 (f' : Op2) (s : Sg) (dy dz : D) : Option (RV × Sg) := (f' dy dz).map (kPair s)
@[simp] theorem kCh3_ap (f' : Op2) (s : Sg) (dy dz : D) : kCh3 f' s dy dz = (f' dy dz).map (kPair s) := rfl
def kCh2 (f' : Op2) (y : Bor) (r : Bor × Sg) : Option (RV × Sg) := (fetch r.2 y).bind fun dy => (fetch r.2 r.1).bind (kCh3 f' r.2 dy)
@[simp] theorem kCh2_ap (f' : Op2) (y z : Bor) (s : Sg) : kCh2 f' y (z, s) = ((fetch s y).bind fun dy => (fetch s z).bind (kCh3 f' s dy)) := rfl
def kCh1 (f' : Op2) (c : Ev Bor) (y : Bor) (s : Sg) : Option RV → Option (RV × Sg)
  | some (.fro (.bl true)) => (c s).bind (kCh2 f' y)
  | some (.fro (.bl false)) => some (.fro (.bl false), s)
  | _ => none
@[simp] theorem kCh1_t (f' : Op2) (c : Ev Bor) (y : Bor) (s : Sg) : kCh1 f' c y s (some (.fro (.bl true))) = (c s).bind (kCh2 f' y) := rfl
@[simp] theorem kCh1_f (f' : Op2) (c : Ev Bor) (y : Bor) (s : Sg) : kCh1 f' c y s (some (.fro (.bl false))) = some (.fro (.bl false), s) := rfl
def kCh0 (f f' : Op2) (c : Ev Bor) (x : Bor) (q : Bor × Sg) : Option (RV × Sg) := (fetch q.2 x).bind fun dx => (fetch q.2 q.1).bind fun dy => kCh1 f' c q.1 q.2 (f dx dy)
@[simp] theorem kCh0_ap (f f' : Op2) (c : Ev Bor) (x y : Bor) (s : Sg) : kCh0 f f' c x (y, s) = ((fetch s x).bind fun dx => (fetch s y).bind fun dy => kCh1 f' c y s (f dx dy)) := rfl
def kCh (f f' : Op2) (b c : Ev Bor) (p : Bor × Sg) : Option (RV × Sg) := (b p.2).bind (kCh0 f f' c p.1)
@[simp] theorem kCh_ap (f f' : Op2) (b c : Ev Bor) (x : Bor) (s : Sg) : kCh f f' b c (x, s) = (b s).bind (kCh0 f f' c x) := rfl
@[simp] theorem evCh_ap (f f' : Op2) (a b c : Ev Bor) (s : Sg) : evCh f f' a b c s = (a s).bind (kCh f f' b c) := rfl
def kFn (p : Out × Sg) : Option (RV × List Cell) := match p with
  | (.rt r, s) => some (r, s.st)
  | (.nx, s) => some (.fro .non, s.st)
  | _ => none
@[simp] theorem kFn_rt (r : RV) (s : Sg) : kFn (.rt r, s) = some (r, s.st) := rfl
@[simp] theorem kFn_nx (s : Sg) : kFn (.nx, s) = some (.fro .non, s.st) := rfl
@[simp] theorem fnM_ap (N P : Nat) (ev : Ev Out) (ds : List D) (st : List Cell) : fnM N P ev ds st = if ds.length = P then (ev ⟨ds.map Slot.fro ++ List.replicate (N - ds.length) Slot.non, st⟩).bind kFn else none := by
  unfold fnM
  split
  · cases ev ⟨ds.map Slot.fro ++ List.replicate (N - ds.length) Slot.non, st⟩ with
    | none => rfl
    | some p =>
      obtain ⟨o, s⟩ := p
      cases o <;> rfl
  · rfl
@[simp] theorem tgName_ap (i : Nat) (d : D) (s : Sg) : tgName i d s = some { s with env := s.env.set i (.fro d) } := rfl
def kTg (b : Tgts) (ds : List D) (s : Sg) : Option Sg := b ds s
@[simp] theorem kTg_ap (b : Tgts) (ds : List D) (s : Sg) : kTg b ds s = b ds s := rfl
@[simp] theorem tgNil_ap (s : Sg) : tgNil [] s = some s := rfl
@[simp] theorem tgCons_ap (a : Tgt) (b : Tgts) (d : D) (ds : List D) (s : Sg) : tgCons a b (d :: ds) s = (a d s).bind (kTg b ds) := rfl
@[simp] theorem tgTup_ap (n : Nat) (b : Tgts) (ds : List D) (s : Sg) : tgTup n b (.tup ds) s = if ds.length = n then b ds s else none := rfl
def kLeak (s : Sg) (i : Nat) : Option Slot → Sg
  | some (.own d) => { s with env := s.env.set i (.fro d) }
  | _ => s
@[simp] theorem kLeak_own (s : Sg) (i : Nat) (d : D) : kLeak s i (some (.own d)) = { s with env := s.env.set i (.fro d) } := rfl
@[simp] theorem kLeak_fro (s : Sg) (i : Nat) (d : D) : kLeak s i (some (.fro d)) = s := rfl
@[simp] theorem kLeak_non (s : Sg) (i : Nat) : kLeak s i (some .non) = s := rfl
@[simp] theorem leak_ap (s : Sg) (i : Nat) : leakSlot s i = kLeak s i (s.env[i]?) := rfl
@[simp] theorem deref_int (s : Sg) (i : Int) : deref s (.int i) = .int i := rfl
@[simp] theorem deref_bl (s : Sg) (i : Bool) : deref s (.bl i) = .bl i := rfl
@[simp] theorem deref_str (s : Sg) (i : Str) : deref s (.str i) = .str i := rfl
@[simp] theorem deref_non (s : Sg) : deref s .non = .non := rfl
@[simp] theorem deref_tup (s : Sg) (i : List D) : deref s (.tup i) = .tup i := rfl
@[simp] theorem deref_scr (s : Sg) (ns : List Int) : deref s (.scr ns) = .scr ns := rfl
@[simp] theorem deref_dct (s : Sg) (t : Bool) (ns : List (D × D)) : deref s (.dct t ns) = .dct t ns := rfl
@[simp] theorem deref_lst (s : Sg) (i : List D) : deref s (.lst i) = .lst i := rfl
@[simp] theorem d_fro (d : D) : (RV.fro d).d = d := rfl
@[simp] theorem d_own (d : D) : (RV.own d).d = d := rfl
@[simp] theorem slot_fro (d : D) : (RV.fro d).slot = .fro d := rfl
@[simp] theorem slot_own (d : D) : (RV.own d).slot = .own d := rfl
@[simp] theorem dSeq_lst (d : List D) : dSeq (.lst d) = some d := rfl
@[simp] theorem dSeq_tup (d : List D) : dSeq (.tup d) = some d := rfl
@[simp] theorem dLen_lst (d : List D) : dLen [.lst d] = some (.fro (.int d.length)) := rfl
@[simp] theorem dLen_tup (d : List D) : dLen [.tup d] = some (.fro (.int d.length)) := rfl
@[simp] theorem dAdd_int (a b : Int) : dAdd (.int a) (.int b) = some (.fro (.int (a + b))) := rfl
@[simp] theorem dSub_int (a b : Int) : dSub (.int a) (.int b) = some (.fro (.int (a - b))) := rfl
theorem dAdd_tup (a b : List D) : dAdd (.tup a) (.tup b) = if a.length + b.length ≤ 1000000 then some (.fro (.tup (a ++ b))) else none := rfl
theorem dAdd_lst (a b : List D) : dAdd (.lst a) (.lst b) = if a.length + b.length ≤ 1000000 then some (.own (.lst (a ++ b))) else none := rfl
@[simp] theorem dMul_int (a b : Int) : dMul (.int a) (.int b) = if smallI a || smallI b then some (.fro (.int (a * b))) else none := rfl
@[simp] theorem dMod_int (a b : Int) : dMod (.int a) (.int b) = if 0 < b then some (.fro (.int (a % b))) else none := rfl
@[simp] theorem dFdiv_int (a b : Int) : dFdiv (.int a) (.int b) = if 0 < b ∧ b < 2 ^ 64 then some (.fro (.int (a / b))) else none := rfl
@[simp] theorem dPow_int (a b : Int) : dPow (.int a) (.int b) = if smallI a && decide (0 ≤ b) && decide (b ≤ 1000) then some (.fro (.int (a ^ b.toNat))) else none := rfl
@[simp] theorem dLt_int (a b : Int) : dLt (.int a) (.int b) = some (.fro (.bl (decide (a < b)))) := rfl
@[simp] theorem dLe_int (a b : Int) : dLe (.int a) (.int b) = some (.fro (.bl (decide (a ≤ b)))) := rfl
@[simp] theorem dGt_int (a b : Int) : dGt (.int a) (.int b) = some (.fro (.bl (decide (b < a)))) := rfl
@[simp] theorem dGe_int (a b : Int) : dGe (.int a) (.int b) = some (.fro (.bl (decide (b ≤ a)))) := rfl
@[simp] theorem dIs_non : dIs .non .non = some (.fro (.bl true)) := rfl
@[simp] theorem blk_ap (vs : List Nat) (env : List Slot) : blkEnv vs env = wipeE (env.map hideSlot) vs := rfl
@[simp] theorem hide_own (d : D) : hideSlot (.own d) = .non := rfl
@[simp] theorem hide_fro (d : D) : hideSlot (.fro d) = .fro d := rfl
@[simp] theorem hide_non : hideSlot .non = .non := rfl
@[simp] theorem wipe_nil (env : List Slot) : wipeE env [] = env := rfl
@[simp] theorem wipe_cons (env : List Slot) (v : Nat) (vs : List Nat) : wipeE env (v :: vs) = (wipeE env vs).set v .non := rfl
@[simp] theorem freeze_nil (s : Sg) : freezeCap [] s = s := rfl
@[simp] theorem freeze_cons (i : Nat) (is : List Nat) (s : Sg) : freezeCap (i :: is) s = freezeCap is (leakSlot s i) := rfl
def kDeref (n : Nat) : Option Cell → D
  | some (.d x) => x
  | _ => .hd n
@[simp] theorem kDeref_ap (n : Nat) (x : D) : kDeref n (some (.d x)) = x := rfl
@[simp] theorem deref_hd (s : Sg) (n : Nat) : deref s (.hd n) = kDeref n (s.st[n]?) := by
  show (match s.st[n]? with
    | some (.d x) => x
    | _ => .hd n) = _
  cases s.st[n]? with
  | none => rfl
  | some c => cases c <;> rfl
theorem ixN_nat {n i : Nat} (h : i < n) : ixN n (i : Int) = some i := by
  unfold ixN
  rw [if_pos (by omega), if_pos (by omega), Int.toNat_natCast]
@[simp] theorem ix_l0 (a : D) (l : List D) : dIx (.lst (a :: l)) (.int 0) = some (.fro a) := dIx_lst (i := 0) rfl
@[simp] theorem ix_l1 (a b : D) (l : List D) : dIx (.lst (a :: b :: l)) (.int 1) = some (.fro b) := dIx_lst (i := 1) rfl
@[simp] theorem ix_l2 (a b c : D) (l : List D) : dIx (.lst (a :: b :: c :: l)) (.int 2) = some (.fro c) := dIx_lst (i := 2) rfl
@[simp] theorem ix_t0 (a : D) (l : List D) : dIx (.tup (a :: l)) (.int 0) = some (.fro a) := dIx_tup (i := 0) rfl
@[simp] theorem ix_t1 (a b : D) (l : List D) : dIx (.tup (a :: b :: l)) (.int 1) = some (.fro b) := dIx_tup (i := 1) rfl
@[simp] theorem ix_t2 (a b c : D) (l : List D) : dIx (.tup (a :: b :: c :: l)) (.int 2) = some (.fro c) := dIx_tup (i := 2) rfl
theorem dSet_lst {ds : List D} {i : Nat} (v : D) (h : i < ds.length) : dSet (.lst ds) (.int (i : Int)) v = some (.lst (ds.set i v)) := by
  simp only [dSet, ixN_nat h, Option.map_some]
@[simp] theorem st_l0 (a v : D) (l : List D) : dSet (.lst (a :: l)) (.int 0) v = some (.lst (v :: l)) := dSet_lst (i := 0) v (by simp)
@[simp] theorem st_l1 (a b v : D) (l : List D) : dSet (.lst (a :: b :: l)) (.int 1) v = some (.lst (a :: v :: l)) := dSet_lst (i := 1) v (by simp)
@[simp] theorem st_l2 (a b c v : D) (l : List D) : dSet (.lst (a :: b :: c :: l)) (.int 2) v = some (.lst (a :: b :: v :: l)) := dSet_lst (i := 2) v (by simp)
theorem upTo_map (lo : Nat) (n : Nat) : upTo (lo : Int) n = (List.range' lo n).map fun k : Nat => D.int (k : Int) := by
  rw [List.range'_eq_map_range]
  simp [upTo, Function.comp_def]
theorem upTo0 (n : Nat) : upTo 0 n = (List.range n).map fun k : Nat => D.int (k : Int) := by
  simp [upTo]
@[simp] theorem small62_nat {n : Nat} (h : n ≤ 1000000) : small62 (n : Int) = true := by simp [small62]; omega
theorem cut_take {α : Type} (xs : List α) (k : Nat) : cutL xs none (some (k : Int)) = xs.take k := by
  unfold cutL
  rw [HT.sIx_none, HT.sIx_nat, List.drop_zero, Nat.sub_zero, List.take_eq_take_iff]
  omega
theorem cut_drop {α : Type} (xs : List α) (k : Nat) : cutL xs (some (k : Int)) none = xs.drop k := by
  unfold cutL
  rw [HT.sIx_none, HT.sIx_nat]
  by_cases h : k ≤ xs.length
  · rw [Nat.min_eq_left h, List.take_of_length_le (by simp)]
  · rw [Nat.min_eq_right (by omega), List.drop_eq_nil_of_le (by omega), List.drop_eq_nil_of_le (by omega)]; simp
theorem insert_ok {ds : List D} {i : Nat} {x : D} (h : ds.length < 1000000) (hi : i < 1000000) : mInsert (.lst ds) [.int (i : Int), x] = some (.lst (ds.take i ++ [x] ++ ds.drop i), .non) := by
  show (if ds.length < 1000000 ∧ 0 ≤ (i : Int) ∧ (i : Int) < 1000000 then some (D.lst (ds.take (i : Int).toNat ++ [x] ++ ds.drop (i : Int).toNat), D.non) else none) = _
  rw [if_pos ⟨h, by omega, by omega⟩, Int.toNat_natCast]
theorem append_ok {ds : List D} {x : D} (h : ds.length < 1000000) : mAppend (.lst ds) [x] = some (.lst (ds ++ [x]), .non) := if_pos h
theorem extend_ok {ds es : List D} (h : ds.length + es.length ≤ 1000000) : mExtend (.lst ds) [.lst es] = some (.lst (ds ++ es), .non) := if_pos h
theorem addL_ok {a b : List D} (h : a.length + b.length ≤ 1000000) : dAdd (.lst a) (.lst b) = some (.own (.lst (a ++ b))) := if_pos h
theorem addT_ok {a b : List D} (h : a.length + b.length ≤ 1000000) : dAdd (.tup a) (.tup b) = some (.fro (.tup (a ++ b))) := if_pos h
structure Rd where
  a : Nat
  b : Nat
  lo : Nat
  hi : Nat
def rdD (r : Rd) : D := .tup [.int r.a, .int r.b, .int r.lo, .int r.hi]
structure Web where
  n : Nat
  rs : List Rd
def webD (w : Web) : D := .tup [.int w.n, .tup (w.rs.map rdD)]
structure WebOk (w : Web) (hn mx : Nat) : Prop where
  n1 : 1 ≤ w.n
  nh : w.n ≤ hn
  rm : w.rs.length ≤ mx
  ab : ∀ r ∈ w.rs, r.a < r.b ∧ r.b < w.n
  lh : ∀ r ∈ w.rs, r.lo ≤ r.hi ∧ r.hi ≤ 99
  /-- all houses are joined: by a numbering in which each but the first has a road to an earlier one -/
  cn : ∃ nm : List Nat, nm.length = w.n ∧ nm.Nodup ∧ (∀ x ∈ nm, x < w.n) ∧ ∀ h, 1 ≤ h → h < w.n → ∃ a r, a < h ∧ r ∈ w.rs ∧ ((nm[a]? = some r.a ∧ nm[h]? = some r.b) ∨ (nm[a]? = some r.b ∧ nm[h]? = some r.a))
@[simp] theorem ix_web0 (w : Web) : dIx (webD w) (.int 0) = some (.fro (.int w.n)) := rfl
@[simp] theorem ix_web1 (w : Web) : dIx (webD w) (.int 1) = some (.fro (.tup (w.rs.map rdD))) := rfl
@[simp] theorem deref_web (s : Sg) (w : Web) : deref s (webD w) = webD w := rfl
@[simp] theorem deref_rd (s : Sg) (w : Rd) : deref s (rdD w) = rdD w := rfl
@[simp] theorem sl_rd2 (r : Rd) : dSl (rdD r) none (some 2) = some (.fro (.tup [.int r.a, .int r.b])) := rfl
@[simp] theorem ix_rd0 (r : Rd) : dIx (rdD r) (.int 0) = some (.fro (.int r.a)) := rfl
@[simp] theorem ix_rd1 (r : Rd) : dIx (rdD r) (.int 1) = some (.fro (.int r.b)) := rfl
@[simp] theorem ix_rd2 (r : Rd) : dIx (rdD r) (.int 2) = some (.fro (.int r.lo)) := rfl
@[simp] theorem ix_rd3 (r : Rd) : dIx (rdD r) (.int 3) = some (.fro (.int r.hi)) := rfl
theorem ix_roads {w : Web} {i : Nat} {r : Rd} (h : w.rs[i]? = some r) : dIx (.tup (w.rs.map rdD)) (.int (i : Int)) = some (.fro (rdD r)) := dIx_tup (by simp [h])
end Pv

namespace Pv
open PySem PySem.Spec L2
@[simp] theorem isi_bool_NoneType : isiB "bool" .non = some (.fro (.bl false)) := by show (kitB "NoneType" "bool").map (fun b => RV.fro (.bl b)) = _; rw [show kitB "NoneType" "bool" = some false by decide +kernel]; rfl
@[simp] theorem isi_bool_bool (x : Bool) : isiB "bool" (.bl x) = some (.fro (.bl true)) := by show (kitB "bool" "bool").map (fun b => RV.fro (.bl b)) = _; rw [show kitB "bool" "bool" = some true by decide +kernel]; rfl
@[simp] theorem isi_bool_int (x : Int) : isiB "bool" (.int x) = some (.fro (.bl false)) := by show (kitB "int" "bool").map (fun b => RV.fro (.bl b)) = _; rw [show kitB "int" "bool" = some false by decide +kernel]; rfl
@[simp] theorem isi_bool_str (x : Str) : isiB "bool" (.str x) = some (.fro (.bl false)) := by show (kitB "str" "bool").map (fun b => RV.fro (.bl b)) = _; rw [show kitB "str" "bool" = some false by decide +kernel]; rfl
@[simp] theorem isi_bool_tuple (x : List D) : isiB "bool" (.tup x) = some (.fro (.bl false)) := by show (kitB "tuple" "bool").map (fun b => RV.fro (.bl b)) = _; rw [show kitB "tuple" "bool" = some false by decide +kernel]; rfl
@[simp] theorem isi_bool_list (x : List D) : isiB "bool" (.lst x) = some (.fro (.bl false)) := by show (kitB "list" "bool").map (fun b => RV.fro (.bl b)) = _; rw [show kitB "list" "bool" = some false by decide +kernel]; rfl
@[simp] theorem isi_bool_dict (t : Bool) (x : List (D × D)) : isiB "bool" (.dct t x) = some (.fro (.bl false)) := by cases t <;> (show (kitB "dict" "bool").map (fun b => RV.fro (.bl b)) = _; rw [show kitB "dict" "bool" = some false by decide +kernel]; rfl)
@[simp] theorem isi_int_NoneType : isiB "int" .non = some (.fro (.bl false)) := by show (kitB "NoneType" "int").map (fun b => RV.fro (.bl b)) = _; rw [show kitB "NoneType" "int" = some false by decide +kernel]; rfl
@[simp] theorem isi_int_bool (x : Bool) : isiB "int" (.bl x) = some (.fro (.bl true)) := by show (kitB "bool" "int").map (fun b => RV.fro (.bl b)) = _; rw [show kitB "bool" "int" = some true by decide +kernel]; rfl
@[simp] theorem isi_int_int (x : Int) : isiB "int" (.int x) = some (.fro (.bl true)) := by show (kitB "int" "int").map (fun b => RV.fro (.bl b)) = _; rw [show kitB "int" "int" = some true by decide +kernel]; rfl
@[simp] theorem isi_int_str (x : Str) : isiB "int" (.str x) = some (.fro (.bl false)) := by show (kitB "str" "int").map (fun b => RV.fro (.bl b)) = _; rw [show kitB "str" "int" = some false by decide +kernel]; rfl
@[simp] theorem isi_int_tuple (x : List D) : isiB "int" (.tup x) = some (.fro (.bl false)) := by show (kitB "tuple" "int").map (fun b => RV.fro (.bl b)) = _; rw [show kitB "tuple" "int" = some false by decide +kernel]; rfl
@[simp] theorem isi_int_list (x : List D) : isiB "int" (.lst x) = some (.fro (.bl false)) := by show (kitB "list" "int").map (fun b => RV.fro (.bl b)) = _; rw [show kitB "list" "int" = some false by decide +kernel]; rfl
@[simp] theorem isi_int_dict (t : Bool) (x : List (D × D)) : isiB "int" (.dct t x) = some (.fro (.bl false)) := by cases t <;> (show (kitB "dict" "int").map (fun b => RV.fro (.bl b)) = _; rw [show kitB "dict" "int" = some false by decide +kernel]; rfl)
@[simp] theorem isi_str_NoneType : isiB "str" .non = some (.fro (.bl false)) := by show (kitB "NoneType" "str").map (fun b => RV.fro (.bl b)) = _; rw [show kitB "NoneType" "str" = some false by decide +kernel]; rfl
@[simp] theorem isi_str_bool (x : Bool) : isiB "str" (.bl x) = some (.fro (.bl false)) := by show (kitB "bool" "str").map (fun b => RV.fro (.bl b)) = _; rw [show kitB "bool" "str" = some false by decide +kernel]; rfl
@[simp] theorem isi_str_int (x : Int) : isiB "str" (.int x) = some (.fro (.bl false)) := by show (kitB "int" "str").map (fun b => RV.fro (.bl b)) = _; rw [show kitB "int" "str" = some false by decide +kernel]; rfl
@[simp] theorem isi_str_str (x : Str) : isiB "str" (.str x) = some (.fro (.bl true)) := by show (kitB "str" "str").map (fun b => RV.fro (.bl b)) = _; rw [show kitB "str" "str" = some true by decide +kernel]; rfl
@[simp] theorem isi_str_tuple (x : List D) : isiB "str" (.tup x) = some (.fro (.bl false)) := by show (kitB "tuple" "str").map (fun b => RV.fro (.bl b)) = _; rw [show kitB "tuple" "str" = some false by decide +kernel]; rfl
@[simp] theorem isi_str_list (x : List D) : isiB "str" (.lst x) = some (.fro (.bl false)) := by show (kitB "list" "str").map (fun b => RV.fro (.bl b)) = _; rw [show kitB "list" "str" = some false by decide +kernel]; rfl
@[simp] theorem isi_str_dict (t : Bool) (x : List (D × D)) : isiB "str" (.dct t x) = some (.fro (.bl false)) := by cases t <;> (show (kitB "dict" "str").map (fun b => RV.fro (.bl b)) = _; rw [show kitB "dict" "str" = some false by decide +kernel]; rfl)
@[simp] theorem isi_tuple_NoneType : isiB "tuple" .non = some (.fro (.bl false)) := by show (kitB "NoneType" "tuple").map (fun b => RV.fro (.bl b)) = _; rw [show kitB "NoneType" "tuple" = some false by decide +kernel]; rfl
@[simp] theorem isi_tuple_bool (x : Bool) : isiB "tuple" (.bl x) = some (.fro (.bl false)) := by show (kitB "bool" "tuple").map (fun b => RV.fro (.bl b)) = _; rw [show kitB "bool" "tuple" = some false by decide +kernel]; rfl
@[simp] theorem isi_tuple_int (x : Int) : isiB "tuple" (.int x) = some (.fro (.bl false)) := by show (kitB "int" "tuple").map (fun b => RV.fro (.bl b)) = _; rw [show kitB "int" "tuple" = some false by decide +kernel]; rfl
@[simp] theorem isi_tuple_str (x : Str) : isiB "tuple" (.str x) = some (.fro (.bl false)) := by show (kitB "str" "tuple").map (fun b => RV.fro (.bl b)) = _; rw [show kitB "str" "tuple" = some false by decide +kernel]; rfl
@[simp] theorem isi_tuple_tuple (x : List D) : isiB "tuple" (.tup x) = some (.fro (.bl true)) := by show (kitB "tuple" "tuple").map (fun b => RV.fro (.bl b)) = _; rw [show kitB "tuple" "tuple" = some true by decide +kernel]; rfl
@[simp] theorem isi_tuple_list (x : List D) : isiB "tuple" (.lst x) = some (.fro (.bl false)) := by show (kitB "list" "tuple").map (fun b => RV.fro (.bl b)) = _; rw [show kitB "list" "tuple" = some false by decide +kernel]; rfl
@[simp] theorem isi_tuple_dict (t : Bool) (x : List (D × D)) : isiB "tuple" (.dct t x) = some (.fro (.bl false)) := by cases t <;> (show (kitB "dict" "tuple").map (fun b => RV.fro (.bl b)) = _; rw [show kitB "dict" "tuple" = some false by decide +kernel]; rfl)
@[simp] theorem isi_list_NoneType : isiB "list" .non = some (.fro (.bl false)) := by show (kitB "NoneType" "list").map (fun b => RV.fro (.bl b)) = _; rw [show kitB "NoneType" "list" = some false by decide +kernel]; rfl
@[simp] theorem isi_list_bool (x : Bool) : isiB "list" (.bl x) = some (.fro (.bl false)) := by show (kitB "bool" "list").map (fun b => RV.fro (.bl b)) = _; rw [show kitB "bool" "list" = some false by decide +kernel]; rfl
@[simp] theorem isi_list_int (x : Int) : isiB "list" (.int x) = some (.fro (.bl false)) := by show (kitB "int" "list").map (fun b => RV.fro (.bl b)) = _; rw [show kitB "int" "list" = some false by decide +kernel]; rfl
@[simp] theorem isi_list_str (x : Str) : isiB "list" (.str x) = some (.fro (.bl false)) := by show (kitB "str" "list").map (fun b => RV.fro (.bl b)) = _; rw [show kitB "str" "list" = some false by decide +kernel]; rfl
@[simp] theorem isi_list_tuple (x : List D) : isiB "list" (.tup x) = some (.fro (.bl false)) := by show (kitB "tuple" "list").map (fun b => RV.fro (.bl b)) = _; rw [show kitB "tuple" "list" = some false by decide +kernel]; rfl
@[simp] theorem isi_list_list (x : List D) : isiB "list" (.lst x) = some (.fro (.bl true)) := by show (kitB "list" "list").map (fun b => RV.fro (.bl b)) = _; rw [show kitB "list" "list" = some true by decide +kernel]; rfl
@[simp] theorem isi_list_dict (t : Bool) (x : List (D × D)) : isiB "list" (.dct t x) = some (.fro (.bl false)) := by cases t <;> (show (kitB "dict" "list").map (fun b => RV.fro (.bl b)) = _; rw [show kitB "dict" "list" = some false by decide +kernel]; rfl)
@[simp] theorem isi_dict_NoneType : isiB "dict" .non = some (.fro (.bl false)) := by show (kitB "NoneType" "dict").map (fun b => RV.fro (.bl b)) = _; rw [show kitB "NoneType" "dict" = some false by decide +kernel]; rfl
@[simp] theorem isi_dict_bool (x : Bool) : isiB "dict" (.bl x) = some (.fro (.bl false)) := by show (kitB "bool" "dict").map (fun b => RV.fro (.bl b)) = _; rw [show kitB "bool" "dict" = some false by decide +kernel]; rfl
@[simp] theorem isi_dict_int (x : Int) : isiB "dict" (.int x) = some (.fro (.bl false)) := by show (kitB "int" "dict").map (fun b => RV.fro (.bl b)) = _; rw [show kitB "int" "dict" = some false by decide +kernel]; rfl
@[simp] theorem isi_dict_str (x : Str) : isiB "dict" (.str x) = some (.fro (.bl false)) := by show (kitB "str" "dict").map (fun b => RV.fro (.bl b)) = _; rw [show kitB "str" "dict" = some false by decide +kernel]; rfl
@[simp] theorem isi_dict_tuple (x : List D) : isiB "dict" (.tup x) = some (.fro (.bl false)) := by show (kitB "tuple" "dict").map (fun b => RV.fro (.bl b)) = _; rw [show kitB "tuple" "dict" = some false by decide +kernel]; rfl
@[simp] theorem isi_dict_list (x : List D) : isiB "dict" (.lst x) = some (.fro (.bl false)) := by show (kitB "list" "dict").map (fun b => RV.fro (.bl b)) = _; rw [show kitB "list" "dict" = some false by decide +kernel]; rfl
@[simp] theorem isi_dict_dict (t : Bool) (x : List (D × D)) : isiB "dict" (.dct t x) = some (.fro (.bl true)) := by cases t <;> (show (kitB "dict" "dict").map (fun b => RV.fro (.bl b)) = _; rw [show kitB "dict" "dict" = some true by decide +kernel]; rfl)
@[simp] theorem isis_int_str_NoneType : isiBs ["int", "str"] .non = some (.fro (.bl false)) := by (show (isiAny ["int", "str"] "NoneType").map (fun b => RV.fro (.bl b)) = _; rw [show isiAny ["int", "str"] "NoneType" = some false by decide +kernel]; rfl)
@[simp] theorem isis_int_str_bool (x : Bool) : isiBs ["int", "str"] (.bl x) = some (.fro (.bl true)) := by (show (isiAny ["int", "str"] "bool").map (fun b => RV.fro (.bl b)) = _; rw [show isiAny ["int", "str"] "bool" = some true by decide +kernel]; rfl)
@[simp] theorem isis_int_str_int (x : Int) : isiBs ["int", "str"] (.int x) = some (.fro (.bl true)) := by (show (isiAny ["int", "str"] "int").map (fun b => RV.fro (.bl b)) = _; rw [show isiAny ["int", "str"] "int" = some true by decide +kernel]; rfl)
@[simp] theorem isis_int_str_str (x : Str) : isiBs ["int", "str"] (.str x) = some (.fro (.bl true)) := by (show (isiAny ["int", "str"] "str").map (fun b => RV.fro (.bl b)) = _; rw [show isiAny ["int", "str"] "str" = some true by decide +kernel]; rfl)
@[simp] theorem isis_int_str_tuple (x : List D) : isiBs ["int", "str"] (.tup x) = some (.fro (.bl false)) := by (show (isiAny ["int", "str"] "tuple").map (fun b => RV.fro (.bl b)) = _; rw [show isiAny ["int", "str"] "tuple" = some false by decide +kernel]; rfl)
@[simp] theorem isis_int_str_list (x : List D) : isiBs ["int", "str"] (.lst x) = some (.fro (.bl false)) := by (show (isiAny ["int", "str"] "list").map (fun b => RV.fro (.bl b)) = _; rw [show isiAny ["int", "str"] "list" = some false by decide +kernel]; rfl)
@[simp] theorem isis_int_str_dict (t : Bool) (x : List (D × D)) : isiBs ["int", "str"] (.dct t x) = some (.fro (.bl false)) := by cases t <;> (show (isiAny ["int", "str"] "dict").map (fun b => RV.fro (.bl b)) = _; rw [show isiAny ["int", "str"] "dict" = some false by decide +kernel]; rfl)
@[simp] theorem isis_tuple_list_NoneType : isiBs ["tuple", "list"] .non = some (.fro (.bl false)) := by (show (isiAny ["tuple", "list"] "NoneType").map (fun b => RV.fro (.bl b)) = _; rw [show isiAny ["tuple", "list"] "NoneType" = some false by decide +kernel]; rfl)
@[simp] theorem isis_tuple_list_bool (x : Bool) : isiBs ["tuple", "list"] (.bl x) = some (.fro (.bl false)) := by (show (isiAny ["tuple", "list"] "bool").map (fun b => RV.fro (.bl b)) = _; rw [show isiAny ["tuple", "list"] "bool" = some false by decide +kernel]; rfl)
@[simp] theorem isis_tuple_list_int (x : Int) : isiBs ["tuple", "list"] (.int x) = some (.fro (.bl false)) := by (show (isiAny ["tuple", "list"] "int").map (fun b => RV.fro (.bl b)) = _; rw [show isiAny ["tuple", "list"] "int" = some false by decide +kernel]; rfl)
@[simp] theorem isis_tuple_list_str (x : Str) : isiBs ["tuple", "list"] (.str x) = some (.fro (.bl false)) := by (show (isiAny ["tuple", "list"] "str").map (fun b => RV.fro (.bl b)) = _; rw [show isiAny ["tuple", "list"] "str" = some false by decide +kernel]; rfl)
@[simp] theorem isis_tuple_list_tuple (x : List D) : isiBs ["tuple", "list"] (.tup x) = some (.fro (.bl true)) := by (show (isiAny ["tuple", "list"] "tuple").map (fun b => RV.fro (.bl b)) = _; rw [show isiAny ["tuple", "list"] "tuple" = some true by decide +kernel]; rfl)
@[simp] theorem isis_tuple_list_list (x : List D) : isiBs ["tuple", "list"] (.lst x) = some (.fro (.bl true)) := by (show (isiAny ["tuple", "list"] "list").map (fun b => RV.fro (.bl b)) = _; rw [show isiAny ["tuple", "list"] "list" = some true by decide +kernel]; rfl)
@[simp] theorem isis_tuple_list_dict (t : Bool) (x : List (D × D)) : isiBs ["tuple", "list"] (.dct t x) = some (.fro (.bl false)) := by cases t <;> (show (isiAny ["tuple", "list"] "dict").map (fun b => RV.fro (.bl b)) = _; rw [show isiAny ["tuple", "list"] "dict" = some false by decide +kernel]; rfl)
@[simp] theorem isis_list_tuple_NoneType : isiBs ["list", "tuple"] .non = some (.fro (.bl false)) := by (show (isiAny ["list", "tuple"] "NoneType").map (fun b => RV.fro (.bl b)) = _; rw [show isiAny ["list", "tuple"] "NoneType" = some false by decide +kernel]; rfl)
@[simp] theorem isis_list_tuple_bool (x : Bool) : isiBs ["list", "tuple"] (.bl x) = some (.fro (.bl false)) := by (show (isiAny ["list", "tuple"] "bool").map (fun b => RV.fro (.bl b)) = _; rw [show isiAny ["list", "tuple"] "bool" = some false by decide +kernel]; rfl)
@[simp] theorem isis_list_tuple_int (x : Int) : isiBs ["list", "tuple"] (.int x) = some (.fro (.bl false)) := by (show (isiAny ["list", "tuple"] "int").map (fun b => RV.fro (.bl b)) = _; rw [show isiAny ["list", "tuple"] "int" = some false by decide +kernel]; rfl)
@[simp] theorem isis_list_tuple_str (x : Str) : isiBs ["list", "tuple"] (.str x) = some (.fro (.bl false)) := by (show (isiAny ["list", "tuple"] "str").map (fun b => RV.fro (.bl b)) = _; rw [show isiAny ["list", "tuple"] "str" = some false by decide +kernel]; rfl)
@[simp] theorem isis_list_tuple_tuple (x : List D) : isiBs ["list", "tuple"] (.tup x) = some (.fro (.bl true)) := by (show (isiAny ["list", "tuple"] "tuple").map (fun b => RV.fro (.bl b)) = _; rw [show isiAny ["list", "tuple"] "tuple" = some true by decide +kernel]; rfl)
@[simp] theorem isis_list_tuple_list (x : List D) : isiBs ["list", "tuple"] (.lst x) = some (.fro (.bl true)) := by (show (isiAny ["list", "tuple"] "list").map (fun b => RV.fro (.bl b)) = _; rw [show isiAny ["list", "tuple"] "list" = some true by decide +kernel]; rfl)
@[simp] theorem isis_list_tuple_dict (t : Bool) (x : List (D × D)) : isiBs ["list", "tuple"] (.dct t x) = some (.fro (.bl false)) := by cases t <;> (show (isiAny ["list", "tuple"] "dict").map (fun b => RV.fro (.bl b)) = _; rw [show isiAny ["list", "tuple"] "dict" = some false by decide +kernel]; rfl)
@[simp] theorem isis_int_bool_NoneType : isiBs ["int", "bool"] .non = some (.fro (.bl false)) := by (show (isiAny ["int", "bool"] "NoneType").map (fun b => RV.fro (.bl b)) = _; rw [show isiAny ["int", "bool"] "NoneType" = some false by decide +kernel]; rfl)
@[simp] theorem isis_int_bool_bool (x : Bool) : isiBs ["int", "bool"] (.bl x) = some (.fro (.bl true)) := by (show (isiAny ["int", "bool"] "bool").map (fun b => RV.fro (.bl b)) = _; rw [show isiAny ["int", "bool"] "bool" = some true by decide +kernel]; rfl)
@[simp] theorem isis_int_bool_int (x : Int) : isiBs ["int", "bool"] (.int x) = some (.fro (.bl true)) := by (show (isiAny ["int", "bool"] "int").map (fun b => RV.fro (.bl b)) = _; rw [show isiAny ["int", "bool"] "int" = some true by decide +kernel]; rfl)
@[simp] theorem isis_int_bool_str (x : Str) : isiBs ["int", "bool"] (.str x) = some (.fro (.bl false)) := by (show (isiAny ["int", "bool"] "str").map (fun b => RV.fro (.bl b)) = _; rw [show isiAny ["int", "bool"] "str" = some false by decide +kernel]; rfl)
@[simp] theorem isis_int_bool_tuple (x : List D) : isiBs ["int", "bool"] (.tup x) = some (.fro (.bl false)) := by (show (isiAny ["int", "bool"] "tuple").map (fun b => RV.fro (.bl b)) = _; rw [show isiAny ["int", "bool"] "tuple" = some false by decide +kernel]; rfl)
@[simp] theorem isis_int_bool_list (x : List D) : isiBs ["int", "bool"] (.lst x) = some (.fro (.bl false)) := by (show (isiAny ["int", "bool"] "list").map (fun b => RV.fro (.bl b)) = _; rw [show isiAny ["int", "bool"] "list" = some false by decide +kernel]; rfl)
@[simp] theorem isis_int_bool_dict (t : Bool) (x : List (D × D)) : isiBs ["int", "bool"] (.dct t x) = some (.fro (.bl false)) := by cases t <;> (show (isiAny ["int", "bool"] "dict").map (fun b => RV.fro (.bl b)) = _; rw [show isiAny ["int", "bool"] "dict" = some false by decide +kernel]; rfl)
@[simp] theorem isis_bool_int_NoneType : isiBs ["bool", "int"] .non = some (.fro (.bl false)) := by (show (isiAny ["bool", "int"] "NoneType").map (fun b => RV.fro (.bl b)) = _; rw [show isiAny ["bool", "int"] "NoneType" = some false by decide +kernel]; rfl)
@[simp] theorem isis_bool_int_bool (x : Bool) : isiBs ["bool", "int"] (.bl x) = some (.fro (.bl true)) := by (show (isiAny ["bool", "int"] "bool").map (fun b => RV.fro (.bl b)) = _; rw [show isiAny ["bool", "int"] "bool" = some true by decide +kernel]; rfl)
@[simp] theorem isis_bool_int_int (x : Int) : isiBs ["bool", "int"] (.int x) = some (.fro (.bl true)) := by (show (isiAny ["bool", "int"] "int").map (fun b => RV.fro (.bl b)) = _; rw [show isiAny ["bool", "int"] "int" = some true by decide +kernel]; rfl)
@[simp] theorem isis_bool_int_str (x : Str) : isiBs ["bool", "int"] (.str x) = some (.fro (.bl false)) := by (show (isiAny ["bool", "int"] "str").map (fun b => RV.fro (.bl b)) = _; rw [show isiAny ["bool", "int"] "str" = some false by decide +kernel]; rfl)
@[simp] theorem isis_bool_int_tuple (x : List D) : isiBs ["bool", "int"] (.tup x) = some (.fro (.bl false)) := by (show (isiAny ["bool", "int"] "tuple").map (fun b => RV.fro (.bl b)) = _; rw [show isiAny ["bool", "int"] "tuple" = some false by decide +kernel]; rfl)
@[simp] theorem isis_bool_int_list (x : List D) : isiBs ["bool", "int"] (.lst x) = some (.fro (.bl false)) := by (show (isiAny ["bool", "int"] "list").map (fun b => RV.fro (.bl b)) = _; rw [show isiAny ["bool", "int"] "list" = some false by decide +kernel]; rfl)
@[simp] theorem isis_bool_int_dict (t : Bool) (x : List (D × D)) : isiBs ["bool", "int"] (.dct t x) = some (.fro (.bl false)) := by cases t <;> (show (isiAny ["bool", "int"] "dict").map (fun b => RV.fro (.bl b)) = _; rw [show isiAny ["bool", "int"] "dict" = some false by decide +kernel]; rfl)
@[simp] theorem is_non_bool (x : Bool) : dIs (.bl x) .non = some (.fro (.bl false)) := rfl
@[simp] theorem isnot_non_bool (x : Bool) : dIsNot (.bl x) .non = some (.fro (.bl true)) := rfl
@[simp] theorem is_non_int (x : Int) : dIs (.int x) .non = some (.fro (.bl false)) := rfl
@[simp] theorem isnot_non_int (x : Int) : dIsNot (.int x) .non = some (.fro (.bl true)) := rfl
@[simp] theorem is_non_str (x : Str) : dIs (.str x) .non = some (.fro (.bl false)) := rfl
@[simp] theorem isnot_non_str (x : Str) : dIsNot (.str x) .non = some (.fro (.bl true)) := rfl
@[simp] theorem is_non_tuple (x : List D) : dIs (.tup x) .non = some (.fro (.bl false)) := rfl
@[simp] theorem isnot_non_tuple (x : List D) : dIsNot (.tup x) .non = some (.fro (.bl true)) := rfl
@[simp] theorem is_non_list (x : List D) : dIs (.lst x) .non = some (.fro (.bl false)) := rfl
@[simp] theorem isnot_non_list (x : List D) : dIsNot (.lst x) .non = some (.fro (.bl true)) := rfl
@[simp] theorem is_non_dict (t : Bool) (x : List (D × D)) : dIs (.dct t x) .non = some (.fro (.bl false)) := rfl
@[simp] theorem isnot_non_dict (t : Bool) (x : List (D × D)) : dIsNot (.dct t x) .non = some (.fro (.bl true)) := rfl
@[simp] theorem isnot_non : dIsNot .non .non = some (.fro (.bl false)) := rfl
@[simp] theorem tru_bl (b : Bool) : tru (.bl b) = some b := rfl
@[simp] theorem tru_int (i : Int) : tru (.int i) = some (i != 0) := rfl
@[simp] theorem tru_lst (i : List D) : tru (.lst i) = some (!i.isEmpty) := rfl
@[simp] theorem tru_tup (i : List D) : tru (.tup i) = some (!i.isEmpty) := rfl
/-- numbers -/
def nD (k : Nat) : D := .int (k : Int)
theorem upToN (n : Nat) : upTo 0 n = (List.range n).map nD := upTo0 n
def tU (xs : List Nat) : D := .tup (xs.map nD)
theorem nD_ints (xs : List Nat) : xs.map nD = (xs.map fun k : Nat => (k : Int)).map D.int := by
  rw [List.map_map]; rfl
theorem mem_cast {x : Nat} {xs : List Nat} : ((x : Int) ∈ xs.map fun k : Nat => (k : Int)) ↔ x ∈ xs := by
  rw [List.mem_map]
  constructor
  · rintro ⟨y, h, e⟩
    have : y = x := by omega
    rwa [← this]
  · exact fun h => ⟨x, h, rfl⟩
theorem dIn_nat (x : Nat) (ys : List Nat) : dIn (.int (x : Int)) (.tup (ys.map nD)) = some (.fro (.bl (decide (x ∈ ys)))) := by
  rw [nD_ints, dIn_ints]; simp only [mem_cast]
theorem dIn_natL (x : Nat) (ys : List Nat) : dIn (.int (x : Int)) (.lst (ys.map nD)) = some (.fro (.bl (decide (x ∈ ys)))) := by
  rw [nD_ints, dIn_intsL]; simp only [mem_cast]
theorem dNotIn_nat (x : Nat) (ys : List Nat) : dNotIn (.int (x : Int)) (.tup (ys.map nD)) = some (.fro (.bl (!decide (x ∈ ys)))) := by
  rw [nD_ints, dNotIn_ints]; simp only [mem_cast]
theorem dNotIn_natL (x : Nat) (ys : List Nat) : dNotIn (.int (x : Int)) (.lst (ys.map nD)) = some (.fro (.bl (!decide (x ∈ ys)))) := by
  rw [nD_ints, dNotIn_intsL]; simp only [mem_cast]
@[simp] theorem deref_tU (s : Sg) (xs : List Nat) : deref s (tU xs) = tU xs := rfl
@[simp] theorem deref_nD (s : Sg) (k : Nat) : deref s (nD k) = nD k := rfl
theorem sort_tU {xs ys : List (List Nat)} (h : xs.Perm ys) : (xs.map tU).mergeSort dle = (ys.map tU).mergeSort dle := by
  have e : tU = fun xs : List Nat => tN (xs.map fun k : Nat => (k : Int)) := by
    funext xs
    rw [tU, tN, nD_ints]
  have e2 : ∀ zs : List (List Nat), zs.map tU = (zs.map fun xs => xs.map fun k : Nat => (k : Int)).map tN := fun zs => by rw [e, List.map_map]; rfl
  rw [e2, e2]
  exact sort_eq (h.map _)
theorem dSorted_tU {xs : List (List Nat)} (hl : xs.length ≤ 1000000) (h : ∀ x ∈ xs, x ≠ []) : dSorted [.lst (xs.map tU)] = some (.own (.lst ((xs.map tU).mergeSort dle))) := by
  have e : tU = fun xs : List Nat => tN (xs.map fun k : Nat => (k : Int)) := by
    funext xs
    rw [tU, tN, nD_ints]
  have e2 : xs.map tU = (xs.map fun xs => xs.map fun k : Nat => (k : Int)).map tN := by rw [e, List.map_map]; rfl
  rw [e2]
  refine dSorted_tN (by rw [List.length_map]; exact hl) fun x hx => ?_
  obtain ⟨y, hy, rfl⟩ := List.mem_map.mp hx
  exact fun z => h y hy (List.map_eq_nil_iff.mp z)
theorem rng_len {w : Web} (h : w.rs.length ≤ 1000000) : small62 (w.rs.length : Int) = true := small62_nat h
end Pv

namespace Pv
open PySem PySem.Spec L2
mutual
/-- no cell within -/
def hdFree : D → Bool
  | .hd _ => false
  | .tup xs => hdFreeAll xs
  | .lst xs => hdFreeAll xs
  | .dct _ kvs => hdFreeKv kvs
  | _ => true
def hdFreeAll : List D → Bool
  | [] => true
  | x :: xs => hdFree x && hdFreeAll xs
def hdFreeKv : List (D × D) → Bool
  | [] => true
  | (_, x) :: xs => hdFree x && hdFreeKv xs
end
section
variable {K : PySem.W.Frag} {φ : List Addr} {G : Hp}
mutual
theorem Rep.noHd : ∀ {v : V} {d : D}, hdFree d = true → Rep K φ G v d → Rep K [] G v d
  | _, _, _, .non => .non
  | _, _, _, .bl b => .bl b
  | _, _, _, .int b => .int b
  | _, _, _, .str b => .str b
  | _, _, h, .tup s a => .tup s (RepA.noHd (by rw [hdFree] at h; exact h) a)
  | _, _, h, .lst s a => .lst s (RepA.noHd (by rw [hdFree] at h; exact h) a)
  | _, _, h, .dK s a => .dK s (RepK.noHd (by rw [hdFree] at h; exact h) a)
  | _, _, h, .dT s a => .dT s (RepT.noHd (by rw [hdFree] at h; exact h) a)
  | _, _, h, .hd e => by rw [hdFree] at h; cases h
  | _, _, _, .scr e => .scr e
theorem RepA.noHd : ∀ {v : List V} {d : List D}, hdFreeAll d = true → RepA K φ G v d → RepA K [] G v d
  | _, _, _, .nil => .nil
  | _, _, h, .cons a b => by
    rw [hdFreeAll, Bool.and_eq_true] at h
    exact .cons (Rep.noHd h.1 a) (RepA.noHd h.2 b)
theorem RepK.noHd : ∀ {v : List (Key × V)} {d : List (D × D)}, hdFreeKv d = true → RepK K φ G v d → RepK K [] G v d
  | _, _, _, .nil => .nil
  | _, _, h, .cons a b => by
    rw [hdFreeKv, Bool.and_eq_true] at h
    exact .cons (Rep.noHd h.1 a) (RepK.noHd h.2 b)
theorem RepT.noHd : ∀ {v : List (List Key × V)} {d : List (D × D)}, hdFreeKv d = true → RepT K φ G v d → RepT K [] G v d
  | _, _, _, .nil => .nil
  | _, _, h, .cons a b => by
    rw [hdFreeKv, Bool.and_eq_true] at h
    exact .cons (Rep.noHd h.1 a) (RepT.noHd h.2 b)
end
theorem Own.noHd {o : HO} {d : D} (h : hdFree d = true) (w : Own K φ G o d) : Own K [] G o d := by
  cases w with
  | lst r => exact .lst (RepA.noHd (by rw [hdFree] at h; exact h) r)
  | dK r => exact .dK (RepK.noHd (by rw [hdFree] at h; exact h) r)
  | dT r => exact .dT (RepT.noHd (by rw [hdFree] at h; exact h) r)
end
def quietSlot : Slot → Slot
  | .own d => if hdFree d then .fro d else .non
  | .fro d => if hdFree d then .fro d else .non
  | .non => .non
def scalarD : D → Bool
  | .non => true
  | .bl _ => true
  | .int _ => true
  | .str _ => true
  | _ => false
theorem scalar_any {K : PySem.W.Frag} {φ φ' : List Addr} {G G' : Hp} {v : V} {d : D} (h : scalarD d = true) (r : Rep K φ G v d) : Rep K φ' G' v d := by
  cases r with
  | non => exact .non
  | bl b => exact .bl b
  | int b => exact .int b
  | str b => exact .str b
  | _ => cases h
def kQuiet (s : Sg) (p : RV × Sg) : Option (RV × Sg) := match p.1 with
  | .fro d => if scalarD d then some (.fro d, s) else none
  | .own _ => none
def evQuiet (ev : Ev RV) : Ev RV := fun s => (ev ⟨s.env.map quietSlot, []⟩).bind (kQuiet s)
theorem quietSlot_fro {sl : Slot} {d : D} (h : quietSlot sl = .fro d) : (sl = .fro d ∨ sl = .own d) ∧ hdFree d = true := by
  cases sl with
  | non => cases h
  | fro x =>
    by_cases hf : hdFree x = true
    · have e : quietSlot (.fro x) = .fro x := if_pos hf
      rw [e] at h; cases h
      exact ⟨.inl rfl, hf⟩
    · have e : quietSlot (.fro x) = .non := if_neg hf
      rw [e] at h; cases h
  | own x =>
    by_cases hf : hdFree x = true
    · have e : quietSlot (.own x) = .fro x := if_pos hf
      rw [e] at h; cases h
      exact ⟨.inr rfl, hf⟩
    · have e : quietSlot (.own x) = .non := if_neg hf
      rw [e] at h; cases h
theorem quietSlot_own {sl : Slot} {d : D} (h : quietSlot sl = .own d) : False := by
  cases sl with
  | non => cases h
  | fro x =>
    by_cases hf : hdFree x = true
    · have e : quietSlot (.fro x) = .fro x := if_pos hf
      rw [e] at h; cases h
    · have e : quietSlot (.fro x) = .non := if_neg hf
      rw [e] at h; cases h
  | own x =>
    by_cases hf : hdFree x = true
    · have e : quietSlot (.own x) = .fro x := if_pos hf
      rw [e] at h; cases h
    · have e : quietSlot (.own x) = .non := if_neg hf
      rw [e] at h; cases h
theorem quiet_rel {g : Gh} {G : Hp} {φ : List Addr} {s : Sg} {σ : St} {H : Hp} (R : Rel g G φ s σ H) :
    Rel ⟨g.K, H, fun a => H a ≠ none, fun _ => False, over (ownW s.env σ H) G, []⟩ (over (ownW s.env σ H) G) [] ⟨s.env.map quietSlot, []⟩ σ H := by
  have sm : Same G (over (ownW s.env σ H) G) := fun a o e => by
    unfold over
    cases e2 : ownW s.env σ H a with
    | none => exact e
    | some x =>
      have h1 := (ownW_some e2).1
      have h2 := R.sub a o e
      rw [h1] at h2
      exact h2
  have sh : Same (over (ownW s.env σ H) G) H := fun a o e => by
    rcases over_some e with e | ⟨_, e⟩
    · exact (ownW_some e).1
    · exact R.sub a o e
  refine ⟨sh, Same.refl _, fun a o e => .inl e, Same.refl _, fun a u => u, fun a z => z.elim, List.prefix_refl _, by simpa using R.len, fun i d e => ?_, fun i d e => ?_, fun i j d e p _ h => ?_, rfl, fun n a c e => by simp at e, List.nodup_nil⟩
  · rw [List.getElem?_map] at e
    obtain ⟨sl, e1, e2⟩ := map_some_iff e
    obtain ⟨h | h, hf⟩ := quietSlot_fro e2
    · subst h
      obtain ⟨v, h1, h2⟩ := R.fro i _ e1
      exact ⟨v, h1, Rep.noHd hf (h2.mono sm (List.prefix_refl _))⟩
    · subst h
      obtain ⟨p, o, h1, h2, h3, h4, _⟩ := R.own i _ e1
      refine ⟨.ref p, h1, ?_⟩
      have hw : over (ownW s.env σ H) G p = some o := by
        have : ownW s.env σ H p = some o := by
          unfold ownW
          rw [if_pos ⟨i, _, e1, h1⟩]
          exact h2
        unfold over
        rw [this]
      exact Own.rep sm hw (Own.noHd hf h3)
  · rw [List.getElem?_map] at e
    obtain ⟨sl, e1, e2⟩ := map_some_iff e
    exact (quietSlot_own e2).elim
  · rw [List.getElem?_map] at h
    obtain ⟨sl, e1, e2⟩ := map_some_iff h
    exact (quietSlot_own e2).elim
theorem sr_quiet {X : Cx} {e : Expr} {ev : Ev RV} (h : SR X e ev) : SR X e (evQuiet ev) := pe_imp h fun σ H Q ⟨g, G, φ, s, r, s', hK, R, he, q⟩ => by
  obtain ⟨⟨r1, s1⟩, e1, he⟩ := bind_some_iff he
  cases r1 with
  | own d => cases he
  | fro d =>
    have he : (if scalarD d then some (RV.fro d, s) else none) = some (r, s') := he
    split at he
    · rename_i hs
      cases he
      refine ⟨⟨g.K, H, fun a => H a ≠ none, fun _ => False, over (ownW s.env σ H) G, []⟩, over (ownW s.env σ H) G, [], ⟨s.env.map quietSlot, []⟩, .fro d, s1, hK, quiet_rel R, e1, fun G' φ' H' v R' h1 h2 x => ?_⟩
      have gr : Grow G H G H' := ⟨R'.old, Same.refl _, R.sub.trans R'.old, fun _ _ e => .inl e⟩
      refine q G φ H' v (R.grow gr) (Same.refl _) (List.prefix_refl _) (.fro ?_)
      cases x with
      | fro rp => exact scalar_any hs rp
    · cases he
@[simp] theorem kQuiet_bl (s s1 : Sg) (b : Bool) : kQuiet s (.fro (.bl b), s1) = some (.fro (.bl b), s) := rfl
@[simp] theorem evQuiet_ap (ev : Ev RV) (s : Sg) : evQuiet ev s = (ev ⟨s.env.map quietSlot, []⟩).bind (kQuiet s) := rfl
end Pv

namespace G
open PySem PySem.Spec L2 Pv
def topS (i : Nat) : Stmt := PySem.Challenge.pw_roughroads_k03_ways_listed.main.body.getD i (.Pass ⟨0, 0, 0, 0⟩)
abbrev s_other_roads : Stmt := topS 1
abbrev N_other_roads : List Str := ["web", "some", "road"]
theorem sc_other_roads : FnScope N_other_roads ["web", "some"] (defScope s_other_roads) := ⟨rfl, rfl, rfl, by decide +kernel, rfl, by decide +kernel, by decide +kernel⟩
noncomputable def ev_other_roads : Ev Out := evRet (evLc (evRng1 (evCons (evN dLen (evConsB (evV (ev2 dIx (evSlot 0) (evV (evC (.int 1))))) (evNilB))) (evNil))) [1] [2] (tgName 2) (evB (ev2 dNotIn (evSlot 2) (evSlot 1))) (evName 2))
noncomputable def m_other_roads : Fm := fnM 3 2 ev_other_roads
abbrev s_ends_of : Stmt := topS 3
abbrev N_ends_of : List Str := ["web", "road"]
theorem sc_ends_of : FnScope N_ends_of ["web", "road"] (defScope s_ends_of) := ⟨rfl, rfl, rfl, by decide +kernel, rfl, by decide +kernel, by decide +kernel⟩
noncomputable def ev_ends_of : Ev Out := evRet (evSl dSl (evV (ev2 dIx (evV (ev2 dIx (evSlot 0) (evV (evC (.int 1))))) (evSlot 1))) (evNo) (evPt (evV (evC (.int 2)))))
noncomputable def m_ends_of : Fm := fnM 2 2 ev_ends_of
abbrev s_beyond : Stmt := topS 4
abbrev N_beyond : List Str := ["web", "road", "house", "a", "b"]
theorem sc_beyond : FnScope N_beyond ["web", "road", "house"] (defScope s_beyond) := ⟨rfl, rfl, rfl, by decide +kernel, rfl, by decide +kernel, by decide +kernel⟩
noncomputable def ev_beyond : Ev Out := evSeq (evAsg (tgTup 2 (tgCons (tgName 3) (tgCons (tgName 4) (tgNil)))) (evCall m_ends_of (evCons (evName 0) (evCons (evName 1) (evNil))))) (evSeq (evIf (evB (ev2 dEq (evSlot 2) (evSlot 3))) (evRetOwn 4) (evPass)) (evRet (evIte (evB (ev2 dEq (evSlot 2) (evSlot 4))) (evName 3) (evC .non))))
noncomputable def m_beyond : Fm := fnM 5 3 ev_beyond
abbrev s_ways_on : Stmt := topS 5
abbrev N_ways_on : List Str := ["web", "some", "here", "goal", "seen", "found", "road", "there", "way"]
theorem sc_ways_on : FnScope N_ways_on ["web", "some", "here", "goal", "seen"] (defScope s_ways_on) := ⟨rfl, rfl, rfl, by decide +kernel, rfl, by decide +kernel, by decide +kernel⟩
noncomputable def ev_ways_on (m_ways_on : Fm) : Ev Out := evSeq (evIf (evB (ev2 dEq (evSlot 2) (evSlot 3))) (evRet (evLst (evCons (evTup (evNil)) (evNil)))) (evPass)) (evSeq (evSet 5 (evLst (evNil))) (evSeq (evForS (evItS (evName 1)) (tgName 6) (evSeq (evSet 7 (evCall m_beyond (evCons (evName 0) (evCons (evName 6) (evCons (evName 2) (evNil)))))) (evIf (evAnd (evB (ev2 dIsNot (evSlot 7) (evV (evC .non)))) (evB (ev2 dNotIn (evSlot 7) (evSlot 4)))) (evDrop (evMut "list" 5 mExtend (evCons (evLc (evItS (evCall (m_ways_on) (evCons (evName 0) (evCons (evName 1) (evCons (evName 7) (evCons (evName 3) (evCons (ev2 dAdd (evSlot 4) (evV (evLst (evCons (evName 7) (evNil))))) (evNil)))))))) [6] [8] (tgName 8) (evYes) (ev2 dAdd (evV (evTup (evCons (evName 6) (evNil)))) (evSlot 8))) (evNil)))) (evPass)))) (evRetOwn 5)))
noncomputable def m_ways_on : Nat → Fm
  | 0 => fun _ _ => none
  | k + 1 => fnM 9 5 (ev_ways_on (m_ways_on k))
theorem len_ways_on : ∀ (k : Nat) (ds : List D) (st : List Cell) (r : RV × List Cell), m_ways_on k ds st = some r → ds.length = 5
  | 0, _, _, _, h => by cases h
  | k + 1, _, _, _, h => fnM_len h
abbrev s_detours_by : Stmt := topS 6
abbrev N_detours_by : List Str := ["web", "road", "some", "a", "b", "one"]
theorem sc_detours_by : FnScope N_detours_by ["web", "road", "some"] (defScope s_detours_by) := ⟨rfl, rfl, rfl, by decide +kernel, rfl, by decide +kernel, by decide +kernel⟩
noncomputable def ev_detours_by : Ev Out := evSeq (evAsg (tgTup 2 (tgCons (tgName 3) (tgCons (tgName 4) (tgNil)))) (evCall m_ends_of (evCons (evName 0) (evCons (evName 1) (evNil))))) (evRet (evN dSorted (evConsB (evV (evCall (m_ways_on 7) (evCons (evName 0) (evCons (evLc (evItS (evName 2)) [1] [5] (tgName 5) (evB (ev2 dNe (evSlot 5) (evSlot 1))) (evName 5)) (evCons (evName 3) (evCons (evName 4) (evCons (evLst (evCons (evName 3) (evNil))) (evNil)))))))) (evNilB))))
noncomputable def m_detours_by : Fm := fnM 6 3 ev_detours_by
abbrev s_detours : Stmt := topS 7
abbrev N_detours : List Str := ["web", "road"]
theorem sc_detours : FnScope N_detours ["web", "road"] (defScope s_detours) := ⟨rfl, rfl, rfl, by decide +kernel, rfl, by decide +kernel, by decide +kernel⟩
noncomputable def ev_detours : Ev Out := evRet (evCall m_detours_by (evCons (evName 0) (evCons (evName 1) (evCons (evCall m_other_roads (evCons (evName 0) (evCons (evLst (evCons (evName 1) (evNil))) (evNil)))) (evNil)))))
noncomputable def m_detours : Fm := fnM 2 2 ev_detours
abbrev s_sides : Stmt := topS 8
abbrev N_sides : List Str := ["web", "road", "a", "b", "found", "house", "side"]
theorem sc_sides : FnScope N_sides ["web", "road"] (defScope s_sides) := ⟨rfl, rfl, rfl, by decide +kernel, rfl, by decide +kernel, by decide +kernel⟩
noncomputable def ev_sides : Ev Out := evSeq (evAsg (tgTup 2 (tgCons (tgName 2) (tgCons (tgName 3) (tgNil)))) (evCall m_ends_of (evCons (evName 0) (evCons (evName 1) (evNil))))) (evSeq (evSet 4 (evLst (evCons (evTup (evNil)) (evNil)))) (evSeq (evForS (evRng1 (evCons (ev2 dIx (evSlot 0) (evV (evC (.int 0)))) (evNil))) (tgName 5) (evIf (evB (ev2 dEq (evSlot 5) (evSlot 2))) (evSet 4 (evLc (evItS (evName 4)) [5] [6] (tgName 6) (evYes) (ev2 dAdd (evSlot 6) (evV (evTup (evCons (evName 5) (evNil))))))) (evIf (evB (ev2 dNe (evSlot 5) (evSlot 3))) (evSet 4 (ev2 dAdd (evSlot 4) (evV (evLc (evItS (evName 4)) [5] [6] (tgName 6) (evYes) (ev2 dAdd (evSlot 6) (evV (evTup (evCons (evName 5) (evNil))))))))) (evPass)))) (evRet (evN dSorted (evConsB (evSlot 4) (evNilB))))))
noncomputable def m_sides : Fm := fnM 7 2 ev_sides
abbrev s_crossing : Stmt := topS 9
abbrev N_crossing : List Str := ["web", "side", "found", "road", "a", "b"]
theorem sc_crossing : FnScope N_crossing ["web", "side"] (defScope s_crossing) := ⟨rfl, rfl, rfl, by decide +kernel, rfl, by decide +kernel, by decide +kernel⟩
noncomputable def ev_crossing : Ev Out := evSeq (evSet 2 (evLst (evNil))) (evSeq (evForS (evRng1 (evCons (evN dLen (evConsB (evV (ev2 dIx (evSlot 0) (evV (evC (.int 1))))) (evNilB))) (evNil))) (tgName 3) (evSeq (evAsg (tgTup 2 (tgCons (tgName 4) (tgCons (tgName 5) (tgNil)))) (evCall m_ends_of (evCons (evName 0) (evCons (evName 3) (evNil))))) (evIf (evB (ev2 dNe (evV (ev2 dIn (evSlot 4) (evSlot 1))) (evV (ev2 dIn (evSlot 5) (evSlot 1))))) (evDrop (evMut "list" 2 mAppend (evCons (evName 3) (evNil)))) (evPass)))) (evRetOwn 2))
noncomputable def m_crossing : Fm := fnM 6 2 ev_crossing
abbrev s__law_open : Stmt := topS 11
abbrev N__law_open : List Str := ["script", "cells", "k", "cell"]
theorem sc__law_open : FnScope N__law_open ["script"] (defScope s__law_open) := ⟨rfl, rfl, rfl, by decide +kernel, rfl, by decide +kernel, by decide +kernel⟩
noncomputable def ev__law_open : Ev Out := evSeq (evSet 1 (evN dList (evConsB (evV (evSl dSl (evSlot 0) (evNo) (evPt (evV (evC (.int 12)))))) (evNilB)))) (evSeq (evForS (evArgs dEnum (evCons (evSl dSl (evSlot 0) (evPt (evV (evC (.int 12)))) (evPt (evV (evC (.int 63))))) (evNil))) (tgTup 2 (tgCons (tgName 2) (tgCons (tgName 3) (tgNil)))) (evSetI 1 dSet (evV (ev2 dMod (evSlot 2) (evV (evC (.int 12))))) (ev2 dAdd (evV (ev2 dIx (evSlot 1) (evV (ev2 dMod (evSlot 2) (evV (evC (.int 12))))))) (evSlot 3)))) (evRet (evLst (evCons (evName 1) (evCons (evC (.int 0)) (evCons (evC (.int 0)) (evNil)))))))
noncomputable def m__law_open : Fm := fnM 4 1 ev__law_open
abbrev s__law_spread : Stmt := topS 12
abbrev N__law_spread : List Str := ["cell", "at", "primes", "one", "two", "three"]
theorem sc__law_spread : FnScope N__law_spread ["cell", "at"] (defScope s__law_spread) := ⟨rfl, rfl, rfl, by decide +kernel, rfl, by decide +kernel, by decide +kernel⟩
noncomputable def ev__law_spread : Ev Out := evSeq (evIf (evB (ev2 dGe (evSlot 0) (evV (ev2 dPow (evV (evC (.int 10))) (evV (evC (.int 18))))))) (evRetOwn 0) (evPass)) (evSeq (evSet 2 (evLst (evCons (evC (.int 2147483629)) (evCons (evC (.int 2147483587)) (evCons (evC (.int 2147483579)) (evCons (evC (.int 2147483563)) (evCons (evC (.int 2147483549)) (evCons (evC (.int 2147483543)) (evCons (evC (.int 2147483497)) (evCons (evC (.int 2147483489)) (evNil))))))))))) (evSeq (evSet 2 (ev2 dAdd (evSlot 2) (evV (evLst (evCons (evC (.int 2147483477)) (evCons (evC (.int 2147483423)) (evCons (evC (.int 2147483399)) (evCons (evC (.int 2147483353)) (evCons (evC (.int 2147483323)) (evNil)))))))))) (evSeq (evSet 3 (ev2 dMod (evV (ev2 dPow (evV (ev2 dAdd (evV (ev2 dAdd (evV (ev2 dMul (evV (ev2 dMod (evSlot 0) (evV (evC (.int 1000000007))))) (evV (ev2 dAdd (evV (ev2 dMul (evV (evC (.int 2))) (evSlot 1))) (evV (evC (.int 69069))))))) (evV (ev2 dMul (evSlot 1) (evV (evC (.int 40503))))))) (evV (evC (.int 977))))) (evV (evC (.int 3))))) (evV (ev2 dIx (evSlot 2) (evV (ev2 dMod (evSlot 1) (evV (evC (.int 13))))))))) (evSeq (evSet 4 (ev2 dMod (evV (ev2 dPow (evV (ev2 dAdd (evV (ev2 dAdd (evV (ev2 dMul (evSlot 3) (evV (ev2 dAdd (evSlot 1) (evV (evC (.int 3))))))) (evV (ev2 dMod (evSlot 0) (evV (evC (.int 65537))))))) (evV (evC (.int 5))))) (evV (evC (.int 5))))) (evV (ev2 dIx (evSlot 2) (evV (ev2 dMod (evV (ev2 dAdd (evSlot 1) (evV (evC (.int 5))))) (evV (evC (.int 13))))))))) (evSeq (evSet 5 (ev2 dMod (evV (ev2 dPow (evV (ev2 dAdd (evV (ev2 dAdd (evSlot 4) (evV (ev2 dMod (evSlot 3) (evV (evC (.int 1009))))))) (evSlot 1))) (evV (evC (.int 3))))) (evV (ev2 dIx (evSlot 2) (evV (ev2 dMod (evV (ev2 dAdd (evSlot 1) (evV (evC (.int 7))))) (evV (evC (.int 13))))))))) (evRet (ev2 dAdd (evV (ev2 dMul (evV (ev2 dAdd (evV (ev2 dMul (evSlot 3) (evV (evC (.int 2147483647))))) (evSlot 4))) (evV (evC (.int 2147483647))))) (evSlot 5))))))))
noncomputable def m__law_spread : Fm := fnM 6 2 ev__law_spread
abbrev s__law_take : Stmt := topS 13
abbrev N__law_take : List Str := ["pen", "amount", "at", "cell", "found"]
theorem sc__law_take : FnScope N__law_take ["pen", "amount"] (defScope s__law_take) := ⟨rfl, rfl, rfl, by decide +kernel, rfl, by decide +kernel, by decide +kernel⟩
noncomputable def ev__law_take : Ev Out := evSeq (evIf (evB (ev2 dLt (evV (ev2 dIx (evSlot 0) (evV (evC (.int 2))))) (evSlot 1))) (evSeq (evSet 2 (ev2 dIx (evSlot 0) (evV (evC (.int 1))))) (evSeq (evSet 3 (evC (.int 0))) (evSeq (evIf (evB (ev2 dLt (evSlot 2) (evV (evN dLen (evConsB (evV (ev2 dIx (evSlot 0) (evV (evC (.int 0))))) (evNilB)))))) (evSet 3 (ev2 dIx (evV (ev2 dIx (evSlot 0) (evV (evC (.int 0))))) (evSlot 2))) (evIf (evB (ev2 dGt (evV (evN dLen (evConsB (evV (ev2 dIx (evSlot 0) (evV (evC (.int 0))))) (evNilB)))) (evV (evC (.int 0))))) (evSet 3 (ev2 dMod (evV (ev2 dIx (evV (ev2 dIx (evSlot 0) (evV (evC (.int 0))))) (evV (ev2 dMod (evV (ev2 dAdd (evV (ev2 dMul (evSlot 2) (evV (evC (.int 5))))) (evV (evC (.int 3))))) (evV (evN dLen (evConsB (evV (ev2 dIx (evSlot 0) (evV (evC (.int 0))))) (evNilB)))))))) (evV (ev2 dAdd (evV (ev2 dPow (evV (evC (.int 10))) (evV (evC (.int 17))))) (evSlot 2))))) (evPass))) (evSeq (evSetI 0 dSet (evV (evC (.int 1))) (ev2 dAdd (evSlot 2) (evV (evC (.int 1))))) (evSetI 0 dSet (evV (evC (.int 2))) (evCall m__law_spread (evCons (evName 3) (evCons (evName 2) (evNil))))))))) (evPass)) (evSeq (evSet 4 (ev2 dMod (evV (ev2 dIx (evSlot 0) (evV (evC (.int 2))))) (evSlot 1))) (evSeq (evSetI 0 dSet (evV (evC (.int 2))) (ev2 dFdiv (evV (ev2 dIx (evSlot 0) (evV (evC (.int 2))))) (evSlot 1))) (evRetOwn 4)))
noncomputable def m__law_take : Fm := fnM 5 2 ev__law_take
abbrev s__law_same : Stmt := topS 14
abbrev N__law_same : List Str := ["found", "due", "one", "other"]
theorem sc__law_same : FnScope N__law_same ["found", "due"] (defScope s__law_same) := ⟨rfl, rfl, rfl, by decide +kernel, rfl, by decide +kernel, by decide +kernel⟩
noncomputable def ev__law_same (m__law_same : Fm) : Ev Out := evSeq (evIf (evOr (evB (ev2 dIs (evSlot 1) (evV (evC .non)))) (evB (ev2 dIs (evSlot 0) (evV (evC .non))))) (evRet (evVand (ev2 dIs (evSlot 1) (evV (evC .non))) (ev2 dIs (evSlot 0) (evV (evC .non))))) (evPass)) (evSeq (evIf (evOr (evTru (evV (evIsi "bool" (evSlot 1)))) (evTru (evV (evIsi "bool" (evSlot 0))))) (evRet (evVand (evIsi "bool" (evSlot 1)) (evVand (evIsi "bool" (evSlot 0)) (ev2 dEq (evSlot 0) (evSlot 1))))) (evPass)) (evSeq (evIf (evTru (evV (evIsis ["int", "str"] (evSlot 1)))) (evSeq (evIf (evB (ev2 dNe (evV (evIsi "int" (evSlot 0))) (evV (evIsi "int" (evSlot 1))))) (evRet (evC (.bl false))) (evPass)) (evRet (evVand (evIsis ["int", "str"] (evSlot 0)) (ev2 dEq (evSlot 0) (evSlot 1))))) (evPass)) (evSeq (evIf (evOr (evB (ev2 dNe (evV (evIsi "tuple" (evSlot 1))) (evV (evIsi "tuple" (evSlot 0))))) (evB (ev2 dNe (evV (evIsi "list" (evSlot 1))) (evV (evIsi "list" (evSlot 0)))))) (evRet (evC (.bl false))) (evPass)) (evSeq (evIf (evB (ev2 dNe (evV (evN dLen (evConsB (evSlot 0) (evNilB)))) (evV (evN dLen (evConsB (evSlot 1) (evNilB)))))) (evRet (evC (.bl false))) (evPass)) (evRet (ev2 dNotIn (evV (evC (.bl false))) (evV (evLc (evArgs dZip (evCons (evName 0) (evCons (evName 1) (evNil)))) [] [2, 3] (tgTup 2 (tgCons (tgName 2) (tgCons (tgName 3) (tgNil)))) (evYes) (evCall (m__law_same) (evCons (evName 2) (evCons (evName 3) (evNil))))))))))))
noncomputable def m__law_same : Nat → Fm
  | 0 => fun _ _ => none
  | k + 1 => fnM 4 2 (ev__law_same (m__law_same k))
theorem len__law_same : ∀ (k : Nat) (ds : List D) (st : List Cell) (r : RV × List Cell), m__law_same k ds st = some r → ds.length = 2
  | 0, _, _, _, h => by cases h
  | k + 1, _, _, _, h => fnM_len h
abbrev s__law_one_of : Stmt := topS 15
abbrev N__law_one_of : List Str := ["pen", "some"]
theorem sc__law_one_of : FnScope N__law_one_of ["pen", "some"] (defScope s__law_one_of) := ⟨rfl, rfl, rfl, by decide +kernel, rfl, by decide +kernel, by decide +kernel⟩
noncomputable def ev__law_one_of : Ev Out := evRet (ev2 dIx (evSlot 1) (evV (evCall m__law_take (evCons (evName 0) (evCons (evN dLen (evConsB (evSlot 1) (evNilB))) (evNil))))))
noncomputable def m__law_one_of : Fm := fnM 2 2 ev__law_one_of
abbrev s__law_draw_road : Stmt := topS 16
abbrev N__law_draw_road : List Str := ["pen", "a", "b", "width", "low"]
theorem sc__law_draw_road : FnScope N__law_draw_road ["pen", "a", "b", "width"] (defScope s__law_draw_road) := ⟨rfl, rfl, rfl, by decide +kernel, rfl, by decide +kernel, by decide +kernel⟩
noncomputable def ev__law_draw_road : Ev Out := evSeq (evSet 4 (evCall m__law_one_of (evCons (evName 0) (evCons (evLst (evCons (evC (.int 0)) (evCons (evC (.int 1)) (evCons (evC (.int 2)) (evCons (evC (.int 3)) (evCons (evCall m__law_take (evCons (evName 0) (evCons (evC (.int 8)) (evNil)))) (evCons (evCall m__law_take (evCons (evName 0) (evCons (evC (.int 100)) (evNil)))) (evNil)))))))) (evNil))))) (evRet (evTup (evCons (evName 1) (evCons (evName 2) (evCons (evName 4) (evCons (evN dMin (evConsB (evV (evC (.int 99))) (evConsB (evV (ev2 dAdd (evSlot 4) (evV (evCall m__law_one_of (evCons (evName 0) (evCons (evLst (evCons (evC (.int 0)) (evCons (evC (.int 0)) (evCons (evC (.int 1)) (evCons (evC (.int 2)) (evCons (evCall m__law_take (evCons (evName 0) (evCons (evC (.int 6)) (evNil)))) (evCons (evCall m__law_take (evCons (evName 0) (evCons (ev2 dAdd (evSlot 3) (evV (evC (.int 1)))) (evNil)))) (evNil)))))))) (evNil))))))) (evNilB)))) (evNil)))))))
noncomputable def m__law_draw_road : Fm := fnM 5 4 ev__law_draw_road
abbrev s__law_draw_web : Stmt := topS 17
abbrev N__law_draw_web : List Str := ["pen", "houses", "most", "width", "size", "pairs", "again", "a", "names", "house", "b"]
theorem sc__law_draw_web : FnScope N__law_draw_web ["pen", "houses", "most", "width"] (defScope s__law_draw_web) := ⟨rfl, rfl, rfl, by decide +kernel, rfl, by decide +kernel, by decide +kernel⟩
noncomputable def ev__law_draw_web : Ev Out := evSeq (evSet 4 (ev2 dAdd (evV (evC (.int 1))) (evV (evCall m__law_take (evCons (evName 0) (evCons (evName 1) (evNil))))))) (evSeq (evSet 5 (evLc (evRng2 (evCons (evC (.int 1)) (evCons (evName 4) (evNil)))) [0] [9] (tgName 9) (evYes) (evTup (evCons (evCall m__law_take (evCons (evName 0) (evCons (evName 9) (evNil)))) (evCons (evName 9) (evNil)))))) (evSeq (evForS (evRng1 (evCons (ev2 dMul (evV (evCall m__law_take (evCons (evName 0) (evCons (evN dMax (evConsB (evV (evC (.int 1))) (evConsB (evV (ev2 dAdd (evV (ev2 dSub (evSlot 2) (evV (evN dLen (evConsB (evSlot 5) (evNilB)))))) (evV (evC (.int 1))))) (evNilB)))) (evNil))))) (evV (evN dInt (evConsB (evV (ev2 dGt (evSlot 4) (evV (evC (.int 1))))) (evNilB))))) (evNil))) (tgName 6) (evSeq (evSet 7 (evCall m__law_take (evCons (evName 0) (evCons (ev2 dSub (evSlot 4) (evV (evC (.int 1)))) (evNil))))) (evDrop (evMut "list" 5 mInsert (evCons (evCall m__law_take (evCons (evName 0) (evCons (ev2 dAdd (evV (evN dLen (evConsB (evSlot 5) (evNilB)))) (evV (evC (.int 1)))) (evNil)))) (evCons (evTup (evCons (evName 7) (evCons (ev2 dAdd (evV (ev2 dAdd (evSlot 7) (evV (evC (.int 1))))) (evV (evCall m__law_take (evCons (evName 0) (evCons (ev2 dSub (evV (ev2 dSub (evSlot 4) (evV (evC (.int 1))))) (evSlot 7)) (evNil)))))) (evNil)))) (evNil))))))) (evSeq (evSet 8 (evLst (evNil))) (evSeq (evForS (evRng1 (evCons (evName 4) (evNil))) (tgName 9) (evDrop (evMut "list" 8 mInsert (evCons (evCall m__law_take (evCons (evName 0) (evCons (ev2 dAdd (evSlot 9) (evV (evC (.int 1)))) (evNil)))) (evCons (evName 9) (evNil)))))) (evSeq (evSet 5 (evLc (evItS (evName 5)) [8] [7, 10] (tgTup 2 (tgCons (tgName 7) (tgCons (tgName 10) (tgNil)))) (evYes) (evTup (evCons (evN dMin (evConsB (evV (ev2 dIx (evSlot 8) (evSlot 7))) (evConsB (evV (ev2 dIx (evSlot 8) (evSlot 10))) (evNilB)))) (evCons (evN dMax (evConsB (evV (ev2 dIx (evSlot 8) (evSlot 7))) (evConsB (evV (ev2 dIx (evSlot 8) (evSlot 10))) (evNilB)))) (evNil)))))) (evRet (evTup (evCons (evName 4) (evCons (evN dTuple (evConsB (evV (evLc (evItS (evName 5)) [0, 3] [7, 10] (tgTup 2 (tgCons (tgName 7) (tgCons (tgName 10) (tgNil)))) (evYes) (evCall m__law_draw_road (evCons (evName 0) (evCons (evName 7) (evCons (evName 10) (evCons (evName 3) (evNil)))))))) (evNilB))) (evNil))))))))))
noncomputable def m__law_draw_web : Fm := fnM 11 4 ev__law_draw_web
abbrev s__law_subsets : Stmt := topS 18
abbrev N__law_subsets : List Str := ["some", "count", "found", "k", "rest"]
theorem sc__law_subsets : FnScope N__law_subsets ["some", "count"] (defScope s__law_subsets) := ⟨rfl, rfl, rfl, by decide +kernel, rfl, by decide +kernel, by decide +kernel⟩
noncomputable def ev__law_subsets (m__law_subsets : Fm) : Ev Out := evSeq (evIf (evB (ev2 dEq (evSlot 1) (evV (evC (.int 0))))) (evRet (evLst (evCons (evTup (evNil)) (evNil)))) (evPass)) (evSeq (evSet 2 (evLst (evNil))) (evSeq (evForS (evRng1 (evCons (ev2 dAdd (evV (ev2 dSub (evV (evN dLen (evConsB (evSlot 0) (evNilB)))) (evSlot 1))) (evV (evC (.int 1)))) (evNil))) (tgName 3) (evSet 2 (ev2 dAdd (evSlot 2) (evV (evLc (evItS (evCall (m__law_subsets) (evCons (evSl dSl (evSlot 0) (evPt (evV (ev2 dAdd (evSlot 3) (evV (evC (.int 1)))))) (evNo)) (evCons (ev2 dSub (evSlot 1) (evV (evC (.int 1)))) (evNil))))) [0, 3] [4] (tgName 4) (evYes) (ev2 dAdd (evV (evTup (evCons (ev2 dIx (evSlot 0) (evSlot 3)) (evNil)))) (evSlot 4))))))) (evRetOwn 2)))
noncomputable def m__law_subsets : Nat → Fm
  | 0 => fun _ _ => none
  | k + 1 => fnM 5 2 (ev__law_subsets (m__law_subsets k))
theorem len__law_subsets : ∀ (k : Nat) (ds : List D) (st : List Cell) (r : RV × List Cell), m__law_subsets k ds st = some r → ds.length = 2
  | 0, _, _, _, h => by cases h
  | k + 1, _, _, _, h => fnM_len h
abbrev s__law_all_sides : Stmt := topS 19
abbrev N__law_all_sides : List Str := ["web", "road", "a", "b", "rest", "found", "count", "house", "more"]
theorem sc__law_all_sides : FnScope N__law_all_sides ["web", "road"] (defScope s__law_all_sides) := ⟨rfl, rfl, rfl, by decide +kernel, rfl, by decide +kernel, by decide +kernel⟩
noncomputable def ev__law_all_sides : Ev Out := evSeq (evAsg (tgTup 2 (tgCons (tgName 2) (tgCons (tgName 3) (tgNil)))) (evSl dSl (evV (ev2 dIx (evV (ev2 dIx (evSlot 0) (evV (evC (.int 1))))) (evSlot 1))) (evNo) (evPt (evV (evC (.int 2)))))) (evSeq (evPar 4 5 (evLc (evRng1 (evCons (ev2 dIx (evSlot 0) (evV (evC (.int 0)))) (evNil))) [2, 3] [7] (tgName 7) (evB (ev2 dNotIn (evSlot 7) (evV (evTup (evCons (evName 2) (evCons (evName 3) (evNil))))))) (evName 7)) (evLst (evNil))) (evSeq (evForS (evRng1 (evCons (ev2 dAdd (evV (evN dLen (evConsB (evSlot 4) (evNilB)))) (evV (evC (.int 1)))) (evNil))) (tgName 6) (evSet 5 (ev2 dAdd (evSlot 5) (evV (evLc (evItS (evCall (m__law_subsets 6) (evCons (evName 4) (evCons (evName 6) (evNil))))) [2] [8] (tgName 8) (evYes) (evN dTuple (evConsB (evV (evN dSorted (evConsB (evV (ev2 dAdd (evV (evTup (evCons (evName 2) (evNil)))) (evSlot 8))) (evNilB)))) (evNilB)))))))) (evRet (evN dSorted (evConsB (evSlot 5) (evNilB))))))
noncomputable def m__law_all_sides : Fm := fnM 9 2 ev__law_all_sides
abbrev s__law_all_detours : Stmt := topS 20
abbrev N__law_all_detours : List Str := ["web", "road", "a", "b", "found", "waiting", "way", "house", "seen", "other", "c", "d", "there"]
theorem sc__law_all_detours : FnScope N__law_all_detours ["web", "road"] (defScope s__law_all_detours) := ⟨rfl, rfl, rfl, by decide +kernel, rfl, by decide +kernel, by decide +kernel⟩
noncomputable def ev__law_all_detours : Ev Out := evSeq (evAsg (tgTup 2 (tgCons (tgName 2) (tgCons (tgName 3) (tgNil)))) (evSl dSl (evV (ev2 dIx (evV (ev2 dIx (evSlot 0) (evV (evC (.int 1))))) (evSlot 1))) (evNo) (evPt (evV (evC (.int 2)))))) (evSeq (evPar 4 5 (evLst (evNil)) (evLst (evCons (evTup (evCons (evTup (evNil)) (evCons (evName 2) (evCons (evTup (evCons (evName 2) (evNil))) (evNil))))) (evNil)))) (evSeq (evWh (evB (ev2 dNe (evSlot 5) (evV (evLst (evNil))))) (evSeq (evAsg (tgTup 3 (tgCons (tgName 6) (tgCons (tgName 7) (tgCons (tgName 8) (tgNil))))) (evMut "list" 5 mPop evNil)) (evForS (evRng1 (evCons (evN dLen (evConsB (evV (ev2 dIx (evSlot 0) (evV (evC (.int 1))))) (evNilB))) (evNil))) (tgName 9) (evSeq (evAsg (tgTup 2 (tgCons (tgName 10) (tgCons (tgName 11) (tgNil)))) (evSl dSl (evV (ev2 dIx (evV (ev2 dIx (evSlot 0) (evV (evC (.int 1))))) (evSlot 9))) (evNo) (evPt (evV (evC (.int 2)))))) (evIf (evAnd (evB (ev2 dNe (evSlot 9) (evSlot 1))) (evB (ev2 dIn (evSlot 7) (evV (evTup (evCons (evName 10) (evCons (evName 11) (evNil)))))))) (evSeq (evSet 12 (ev2 dSub (evV (ev2 dAdd (evSlot 10) (evSlot 11))) (evSlot 7))) (evIf (evB (ev2 dEq (evSlot 12) (evSlot 3))) (evDrop (evMut "list" 4 mAppend (evCons (ev2 dAdd (evSlot 6) (evV (evTup (evCons (evName 9) (evNil))))) (evNil)))) (evIf (evB (ev2 dNotIn (evSlot 12) (evSlot 8))) (evDrop (evMut "list" 5 mAppend (evCons (evTup (evCons (ev2 dAdd (evSlot 6) (evV (evTup (evCons (evName 9) (evNil))))) (evCons (evName 12) (evCons (ev2 dAdd (evSlot 8) (evV (evTup (evCons (evName 12) (evNil))))) (evNil))))) (evNil)))) (evPass)))) (evPass)))))) (evRet (evN dSorted (evConsB (evSlot 4) (evNilB))))))
noncomputable def m__law_all_detours : Fm := fnM 13 2 ev__law_all_detours
abbrev s__law_cross : Stmt := topS 21
abbrev N__law_cross : List Str := ["web", "side", "road"]
theorem sc__law_cross : FnScope N__law_cross ["web", "side"] (defScope s__law_cross) := ⟨rfl, rfl, rfl, by decide +kernel, rfl, by decide +kernel, by decide +kernel⟩
noncomputable def ev__law_cross : Ev Out := evRet (evLc (evRng1 (evCons (evN dLen (evConsB (evV (ev2 dIx (evSlot 0) (evV (evC (.int 1))))) (evNilB))) (evNil))) [1, 0] [2] (tgName 2) (evB (ev2 dNe (evV (ev2 dIn (evV (ev2 dIx (evV (ev2 dIx (evV (ev2 dIx (evSlot 0) (evV (evC (.int 1))))) (evSlot 2))) (evV (evC (.int 0))))) (evSlot 1))) (evV (ev2 dIn (evV (ev2 dIx (evV (ev2 dIx (evV (ev2 dIx (evSlot 0) (evV (evC (.int 1))))) (evSlot 2))) (evV (evC (.int 1))))) (evSlot 1))))) (evName 2))
noncomputable def m__law_cross : Fm := fnM 3 2 ev__law_cross
abbrev s_law : Stmt := topS 22
abbrev N_law : List Str := ["script", "pen", "turn", "web", "seen", "road", "mine", "theirs", "again", "one", "other", "side", "told"]
theorem sc_law : FnScope N_law ["script"] (defScope s_law) := ⟨rfl, rfl, rfl, by decide +kernel, rfl, by decide +kernel, by decide +kernel⟩
noncomputable def ev_law : Ev Out := evSeq (evSetC 1 (evCall m__law_open (evCons (evName 0) (evNil)))) (evSeq (evForS (evRng1 (evCons (evC (.int 6)) (evNil))) (tgName 2) (evSeq (evSet 3 (evCall m__law_draw_web (evCons (evName 1) (evCons (evC (.int 6)) (evCons (evC (.int 10)) (evCons (evC (.int 9)) (evNil))))))) (evSeq (evSet 4 (evN dRepr (evConsB (evSlot 3) (evNilB)))) (evSeq (evForS (evRng1 (evCons (evN dLen (evConsB (evV (ev2 dIx (evSlot 3) (evV (evC (.int 1))))) (evNilB))) (evNil))) (tgName 5) (evSeq (evPar 6 7 (evCall m__law_all_detours (evCons (evName 3) (evCons (evName 5) (evNil)))) (evCall m__law_all_sides (evCons (evName 3) (evCons (evName 5) (evNil))))) (evSeq (evForS (evRng1 (evCons (evC (.int 2)) (evNil))) (tgName 8) (evSeq (evPar 9 10 (evCall m_detours (evCons (evName 3) (evCons (evName 5) (evNil)))) (evCall m_sides (evCons (evName 3) (evCons (evName 5) (evNil))))) (evSeq (evIf (evNot (evTru (evV (evQuiet (evCall (m__law_same 5) (evCons (evLst (evCons (evName 9) (evCons (evName 10) (evNil)))) (evCons (evLst (evCons (evName 6) (evCons (evName 7) (evNil)))) (evNil)))))))) (evRet (evC (.bl false))) (evPass)) (evSeq (evDrop (evMut "list" 9 mAppend (evCons (evC .non) (evNil)))) (evDrop (evMut "list" 10 mAppend (evCons (evC .non) (evNil)))))))) (evForS (evItS (evName 7)) (tgName 11) (evSeq (evSet 12 (evCall m_crossing (evCons (evName 3) (evCons (evName 11) (evNil))))) (evSeq (evIf (evNot (evTru (evV (evQuiet (evCall (m__law_same 5) (evCons (evName 12) (evCons (evCall m__law_cross (evCons (evName 3) (evCons (evName 11) (evNil)))) (evNil)))))))) (evRet (evC (.bl false))) (evPass)) (evSeq (evDrop (evMut "list" 12 mAppend (evCons (evC .non) (evNil)))) (evIf (evB (ev2 dNe (evV (evCall m_crossing (evCons (evName 3) (evCons (evName 11) (evNil))))) (evV (evCall m__law_cross (evCons (evName 3) (evCons (evName 11) (evNil))))))) (evRet (evC (.bl false))) (evPass))))))))) (evIf (evB (ev2 dNe (evV (evN dRepr (evConsB (evSlot 3) (evNilB)))) (evSlot 4))) (evRet (evC (.bl false))) (evPass)))))) (evRet (evC (.bl true))))
noncomputable def m_law : Fm := fnM 13 1 ev_law
structure Tx (K : PySem.W.Frag) (mg : Str → Option Value) where
  f_other_roads : Addr
  fd_other_roads : FuncData
  F_other_roads : Fun K "other_roads" "other_roads" s_other_roads f_other_roads fd_other_roads
  b_other_roads : Binds K fd_other_roads ["web", "some"] []
  g_other_roads : mg "other_roads" = some (.ref f_other_roads)
  f_ends_of : Addr
  fd_ends_of : FuncData
  F_ends_of : Fun K "ends_of" "ends_of" s_ends_of f_ends_of fd_ends_of
  b_ends_of : Binds K fd_ends_of ["web", "road"] []
  g_ends_of : mg "ends_of" = some (.ref f_ends_of)
  f_beyond : Addr
  fd_beyond : FuncData
  F_beyond : Fun K "beyond" "beyond" s_beyond f_beyond fd_beyond
  b_beyond : Binds K fd_beyond ["web", "road", "house"] []
  g_beyond : mg "beyond" = some (.ref f_beyond)
  f_ways_on : Addr
  fd_ways_on : FuncData
  F_ways_on : Fun K "ways_on" "ways_on" s_ways_on f_ways_on fd_ways_on
  b_ways_on : Binds K fd_ways_on ["web", "some", "here", "goal", "seen"] []
  g_ways_on : mg "ways_on" = some (.ref f_ways_on)
  f_detours_by : Addr
  fd_detours_by : FuncData
  F_detours_by : Fun K "detours_by" "detours_by" s_detours_by f_detours_by fd_detours_by
  b_detours_by : Binds K fd_detours_by ["web", "road", "some"] []
  g_detours_by : mg "detours_by" = some (.ref f_detours_by)
  f_detours : Addr
  fd_detours : FuncData
  F_detours : Fun K "detours" "detours" s_detours f_detours fd_detours
  b_detours : Binds K fd_detours ["web", "road"] []
  g_detours : mg "detours" = some (.ref f_detours)
  f_sides : Addr
  fd_sides : FuncData
  F_sides : Fun K "sides" "sides" s_sides f_sides fd_sides
  b_sides : Binds K fd_sides ["web", "road"] []
  g_sides : mg "sides" = some (.ref f_sides)
  f_crossing : Addr
  fd_crossing : FuncData
  F_crossing : Fun K "crossing" "crossing" s_crossing f_crossing fd_crossing
  b_crossing : Binds K fd_crossing ["web", "side"] []
  g_crossing : mg "crossing" = some (.ref f_crossing)
  f__law_open : Addr
  fd__law_open : FuncData
  F__law_open : Fun K "_law_open" "_law_open" s__law_open f__law_open fd__law_open
  b__law_open : Binds K fd__law_open ["script"] []
  g__law_open : mg "_law_open" = some (.ref f__law_open)
  f__law_spread : Addr
  fd__law_spread : FuncData
  F__law_spread : Fun K "_law_spread" "_law_spread" s__law_spread f__law_spread fd__law_spread
  b__law_spread : Binds K fd__law_spread ["cell", "at"] []
  g__law_spread : mg "_law_spread" = some (.ref f__law_spread)
  f__law_take : Addr
  fd__law_take : FuncData
  F__law_take : Fun K "_law_take" "_law_take" s__law_take f__law_take fd__law_take
  b__law_take : Binds K fd__law_take ["pen", "amount"] []
  g__law_take : mg "_law_take" = some (.ref f__law_take)
  f__law_same : Addr
  fd__law_same : FuncData
  F__law_same : Fun K "_law_same" "_law_same" s__law_same f__law_same fd__law_same
  b__law_same : Binds K fd__law_same ["found", "due"] []
  g__law_same : mg "_law_same" = some (.ref f__law_same)
  f__law_one_of : Addr
  fd__law_one_of : FuncData
  F__law_one_of : Fun K "_law_one_of" "_law_one_of" s__law_one_of f__law_one_of fd__law_one_of
  b__law_one_of : Binds K fd__law_one_of ["pen", "some"] []
  g__law_one_of : mg "_law_one_of" = some (.ref f__law_one_of)
  f__law_draw_road : Addr
  fd__law_draw_road : FuncData
  F__law_draw_road : Fun K "_law_draw_road" "_law_draw_road" s__law_draw_road f__law_draw_road fd__law_draw_road
  b__law_draw_road : Binds K fd__law_draw_road ["pen", "a", "b", "width"] []
  g__law_draw_road : mg "_law_draw_road" = some (.ref f__law_draw_road)
  f__law_draw_web : Addr
  fd__law_draw_web : FuncData
  F__law_draw_web : Fun K "_law_draw_web" "_law_draw_web" s__law_draw_web f__law_draw_web fd__law_draw_web
  b__law_draw_web : Binds K fd__law_draw_web ["pen", "houses", "most", "width"] []
  g__law_draw_web : mg "_law_draw_web" = some (.ref f__law_draw_web)
  f__law_subsets : Addr
  fd__law_subsets : FuncData
  F__law_subsets : Fun K "_law_subsets" "_law_subsets" s__law_subsets f__law_subsets fd__law_subsets
  b__law_subsets : Binds K fd__law_subsets ["some", "count"] []
  g__law_subsets : mg "_law_subsets" = some (.ref f__law_subsets)
  f__law_all_sides : Addr
  fd__law_all_sides : FuncData
  F__law_all_sides : Fun K "_law_all_sides" "_law_all_sides" s__law_all_sides f__law_all_sides fd__law_all_sides
  b__law_all_sides : Binds K fd__law_all_sides ["web", "road"] []
  g__law_all_sides : mg "_law_all_sides" = some (.ref f__law_all_sides)
  f__law_all_detours : Addr
  fd__law_all_detours : FuncData
  F__law_all_detours : Fun K "_law_all_detours" "_law_all_detours" s__law_all_detours f__law_all_detours fd__law_all_detours
  b__law_all_detours : Binds K fd__law_all_detours ["web", "road"] []
  g__law_all_detours : mg "_law_all_detours" = some (.ref f__law_all_detours)
  f__law_cross : Addr
  fd__law_cross : FuncData
  F__law_cross : Fun K "_law_cross" "_law_cross" s__law_cross f__law_cross fd__law_cross
  b__law_cross : Binds K fd__law_cross ["web", "side"] []
  g__law_cross : mg "_law_cross" = some (.ref f__law_cross)
  f_law : Addr
  fd_law : FuncData
  F_law : Fun K "law" "law" s_law f_law fd_law
  b_law : Binds K fd_law ["script"] []
  g_law : mg "law" = some (.ref f_law)
  n_bool : mg "bool" = none
  n_enumerate : mg "enumerate" = none
  n_int : mg "int" = none
  n_isinstance : mg "isinstance" = none
  n_len : mg "len" = none
  n_list : mg "list" = none
  n_max : mg "max" = none
  n_min : mg "min" = none
  n_range : mg "range" = none
  n_repr : mg "repr" = none
  n_sorted : mg "sorted" = none
  n_str : mg "str" = none
  n_tuple : mg "tuple" = none
  n_zip : mg "zip" = none
theorem ok_other_roads {P : Program} {w : World} {K : PySem.W.Frag} {mg : Str → Option Value} {base : Heap} (T : Tx K mg) : FnG P w K mg base CX0 1 T.f_other_roads T.fd_other_roads ["web", "some"] (spF K 2 m_other_roads) := fn_ok T.F_other_roads sc_other_roads fun cdv A outer s H E hr => by
    have hu := hr.hu
    have hgd := hr.gd
    have nd := sc_other_roads.nd
    exact (ss_one (ss_ret (sr_lc [1] [("road", 2)] rfl nd (si_range1 (by rfl) T.n_range (sa_cons (sr_callB dcall_len (by rfl) T.n_len bb_len (sbs_cons (sb_of (sr_ix (dix hu) (sb_name 0) (sb_of sr_int) fun _ _ => rfl)) sbs_nil)) sa_nil)) (blkOk_by (N := N_other_roads) (sc := defScope s_other_roads) (by decide +kernel)) (fun _ _ _ _ _ => (sg_name 2 nd)) (fun _ _ _ _ _ => (sts_one (st_cmp (dop_notin hu) (sb_name 2) (sb_name 1) rfl))) (fun _ _ _ _ _ => (sr_name 2)))))
theorem ok_ends_of {P : Program} {w : World} {K : PySem.W.Frag} {mg : Str → Option Value} {base : Heap} (T : Tx K mg) : FnG P w K mg base CX0 1 T.f_ends_of T.fd_ends_of ["web", "road"] (spF K 2 m_ends_of) := fn_ok T.F_ends_of sc_ends_of fun cdv A outer s H E hr => by
    have hu := hr.hu
    have hgd := hr.gd
    have nd := sc_ends_of.nd
    exact (ss_one (ss_ret (sr_slice (sb_of (sr_ix (dix hu) (sb_of (sr_ix (dix hu) (sb_name 0) (sb_of sr_int) fun _ _ => rfl)) (sb_name 1) fun _ _ => rfl)) sp_none (sp_some (sb_of sr_int)))))
theorem ok_beyond {P : Program} {w : World} {K : PySem.W.Frag} {mg : Str → Option Value} {base : Heap} (T : Tx K mg) : FnG P w K mg base CX0 2 T.f_beyond T.fd_beyond ["web", "road", "house"] (spF K 3 m_beyond) := fn_ok T.F_beyond sc_beyond fun cdv A outer s H E hr => by
    have hu := hr.hu
    have hgd := hr.gd
    have nd := sc_beyond.nd
    exact (ss_cons (ss_asg (vs := [3, 4]) (sr_call (ok_ends_of T) (hr.mono (by omega)) (by rfl) T.g_ends_of T.F_ends_of.kp T.b_ends_of (fun ds st r h => fnM_len h) (sa_cons (sr_name 0) (sa_cons (sr_name 1) sa_nil))) (sg_tup rfl (sgs_cons (sg_name 3 nd) (sgs_cons (sg_name 4 nd) sgs_nil))))
    (ss_cons (ss_if (st_cmp (dop_eq hu) (sb_name 2) (sb_name 3) (nomark _)) (ss_one (ss_retOwn 4)) ss_nil)
    (ss_one (ss_ret (sr_ite (st_cmp (dop_eq hu) (sb_name 2) (sb_name 4) (nomark _)) (sr_name 3) sr_non)))))
theorem ok_ways_on {P : Program} {w : World} {K : PySem.W.Frag} {mg : Str → Option Value} {base : Heap} (T : Tx K mg) : ∀ k : Nat, FnG P w K mg base CX0 (k + 3) T.f_ways_on T.fd_ways_on ["web", "some", "here", "goal", "seen"] (spF K 5 (m_ways_on k))
  | 0 => fn_void
  | k + 1 => fn_ok T.F_ways_on sc_ways_on fun cdv A outer s H E hr => by
    have hu := hr.hu
    have hgd := hr.gd
    have nd := sc_ways_on.nd
    have hrec := ok_ways_on (P := P) (w := w) (base := base) T k
    have hlen := len_ways_on k
    exact (ss_cons (ss_if (st_cmp (dop_eq hu) (sb_name 2) (sb_name 3) (nomark _)) (ss_one (ss_ret (sr_lst (sa_cons (sr_tup sa_nil) sa_nil)))) ss_nil)
    (ss_cons (ss_set (i := 5) nd (sr_lst sa_nil))
    (ss_cons (ss_for (vs := [6]) PassesOwn.never rfl (si_seq (sr_name 1)) (sg_name 6 nd) (ss_cons (ss_set (i := 7) nd (sr_call (ok_beyond T) (hr.mono (by omega)) (by rfl) T.g_beyond T.F_beyond.kp T.b_beyond (fun ds st r h => fnM_len h) (sa_cons (sr_name 0) (sa_cons (sr_name 6) (sa_cons (sr_name 2) sa_nil)))))
    (ss_one (ss_if (sw_st (sw_and (st_cmp dop_isnot (sb_name 7) (sb_of sr_non) (nomark _)) (sw_and1 (st_cmp (dop_notin hu) (sb_name 7) (sb_name 4) rfl)))) (ss_one (ss_expr (sr_mut (i := 5) PySem.F.plainAttrs_list PySem.F.slot_list_extend PySem.F.type_list_extend dm_extend (sa_cons (sr_lc [6] [("way", 8)] rfl nd (si_seq (sr_call hrec (hr.mono (by omega)) (by rfl) T.g_ways_on T.F_ways_on.kp T.b_ways_on (fun ds st r h => hlen ds st r h) (sa_cons (sr_name 0) (sa_cons (sr_name 1) (sa_cons (sr_name 7) (sa_cons (sr_name 3) (sa_cons (sr_bin dop_add (sb_name 4) (sb_of (sr_lst (sa_cons (sr_name 7) sa_nil)))) sa_nil))))))) (blkOk_by (N := N_ways_on) (sc := defScope s_ways_on) (by decide +kernel)) (fun _ _ _ _ _ => (sg_name 8 nd)) (fun _ _ _ _ _ => sts_nil) (fun _ _ _ _ _ => (sr_bin dop_add (sb_of (sr_tup (sa_cons (sr_name 6) sa_nil))) (sb_name 8)))) sa_nil)))) ss_nil))))
    (ss_one (ss_retOwn 5)))))
theorem ok_detours_by {P : Program} {w : World} {K : PySem.W.Frag} {mg : Str → Option Value} {base : Heap} (T : Tx K mg) : FnG P w K mg base CX0 11 T.f_detours_by T.fd_detours_by ["web", "road", "some"] (spF K 3 m_detours_by) := fn_ok T.F_detours_by sc_detours_by fun cdv A outer s H E hr => by
    have hu := hr.hu
    have hgd := hr.gd
    have nd := sc_detours_by.nd
    exact (ss_cons (ss_asg (vs := [3, 4]) (sr_call (ok_ends_of T) (hr.mono (by omega)) (by rfl) T.g_ends_of T.F_ends_of.kp T.b_ends_of (fun ds st r h => fnM_len h) (sa_cons (sr_name 0) (sa_cons (sr_name 1) sa_nil))) (sg_tup rfl (sgs_cons (sg_name 3 nd) (sgs_cons (sg_name 4 nd) sgs_nil))))
    (ss_one (ss_ret (sr_callB (dcall_sorted hu) (by rfl) T.n_sorted bb_sorted (sbs_cons (sb_of (sr_call (ok_ways_on T 7) (hr.mono (by omega)) (by rfl) T.g_ways_on T.F_ways_on.kp T.b_ways_on (fun ds st r h => len_ways_on 7 ds st r h) (sa_cons (sr_name 0) (sa_cons (sr_lc [1] [("one", 5)] rfl nd (si_seq (sr_name 2)) (blkOk_by (N := N_detours_by) (sc := defScope s_detours_by) (by decide +kernel)) (fun _ _ _ _ _ => (sg_name 5 nd)) (fun _ _ _ _ _ => (sts_one (st_cmp (dop_ne hu) (sb_name 5) (sb_name 1) (nomark _)))) (fun _ _ _ _ _ => (sr_name 5))) (sa_cons (sr_name 3) (sa_cons (sr_name 4) (sa_cons (sr_lst (sa_cons (sr_name 3) sa_nil)) sa_nil))))))) sbs_nil)))))
theorem ok_detours {P : Program} {w : World} {K : PySem.W.Frag} {mg : Str → Option Value} {base : Heap} (T : Tx K mg) : FnG P w K mg base CX0 12 T.f_detours T.fd_detours ["web", "road"] (spF K 2 m_detours) := fn_ok T.F_detours sc_detours fun cdv A outer s H E hr => by
    have hu := hr.hu
    have hgd := hr.gd
    have nd := sc_detours.nd
    exact (ss_one (ss_ret (sr_call (ok_detours_by T) (hr.mono (by omega)) (by rfl) T.g_detours_by T.F_detours_by.kp T.b_detours_by (fun ds st r h => fnM_len h) (sa_cons (sr_name 0) (sa_cons (sr_name 1) (sa_cons (sr_call (ok_other_roads T) (hr.mono (by omega)) (by rfl) T.g_other_roads T.F_other_roads.kp T.b_other_roads (fun ds st r h => fnM_len h) (sa_cons (sr_name 0) (sa_cons (sr_lst (sa_cons (sr_name 1) sa_nil)) sa_nil))) sa_nil))))))
theorem ok_sides {P : Program} {w : World} {K : PySem.W.Frag} {mg : Str → Option Value} {base : Heap} (T : Tx K mg) : FnG P w K mg base CX0 2 T.f_sides T.fd_sides ["web", "road"] (spF K 2 m_sides) := fn_ok T.F_sides sc_sides fun cdv A outer s H E hr => by
    have hu := hr.hu
    have hgd := hr.gd
    have nd := sc_sides.nd
    exact (ss_cons (ss_asg (vs := [2, 3]) (sr_call (ok_ends_of T) (hr.mono (by omega)) (by rfl) T.g_ends_of T.F_ends_of.kp T.b_ends_of (fun ds st r h => fnM_len h) (sa_cons (sr_name 0) (sa_cons (sr_name 1) sa_nil))) (sg_tup rfl (sgs_cons (sg_name 2 nd) (sgs_cons (sg_name 3 nd) sgs_nil))))
    (ss_cons (ss_set (i := 4) nd (sr_lst (sa_cons (sr_tup sa_nil) sa_nil)))
    (ss_cons (ss_for (vs := [5]) PassesOwn.never rfl (si_range1 (by rfl) T.n_range (sa_cons (sr_ix (dix hu) (sb_name 0) (sb_of sr_int) fun _ _ => rfl) sa_nil)) (sg_name 5 nd) (ss_one (ss_if (st_cmp (dop_eq hu) (sb_name 5) (sb_name 2) (nomark _)) (ss_one (ss_setLc (i := 4) [5] [("side", 6)] rfl nd (sw_true rfl rfl rfl (by decide +kernel)) (si_seq (sr_name 4)) (blkOk_by (N := N_sides) (sc := defScope s_sides) (by decide +kernel)) (fun _ _ _ _ _ => (sg_name 6 nd)) (fun _ _ _ _ _ => sts_nil) (fun _ _ _ _ _ => (sr_bin dop_add (sb_name 6) (sb_of (sr_tup (sa_cons (sr_name 5) sa_nil))))))) (ss_one (ss_if (st_cmp (dop_ne hu) (sb_name 5) (sb_name 3) (nomark _)) (ss_one (ss_set (i := 4) nd (sr_bin dop_add (sb_name 4) (sb_of (sr_lc [5] [("side", 6)] rfl nd (si_seq (sr_name 4)) (blkOk_by (N := N_sides) (sc := defScope s_sides) (by decide +kernel)) (fun _ _ _ _ _ => (sg_name 6 nd)) (fun _ _ _ _ _ => sts_nil) (fun _ _ _ _ _ => (sr_bin dop_add (sb_name 6) (sb_of (sr_tup (sa_cons (sr_name 5) sa_nil)))))))))) ss_nil)))))
    (ss_one (ss_ret (sr_callB (dcall_sorted hu) (by rfl) T.n_sorted bb_sorted (sbs_cons (sb_name 4) sbs_nil)))))))
theorem ok_crossing {P : Program} {w : World} {K : PySem.W.Frag} {mg : Str → Option Value} {base : Heap} (T : Tx K mg) : FnG P w K mg base CX0 2 T.f_crossing T.fd_crossing ["web", "side"] (spF K 2 m_crossing) := fn_ok T.F_crossing sc_crossing fun cdv A outer s H E hr => by
    have hu := hr.hu
    have hgd := hr.gd
    have nd := sc_crossing.nd
    exact (ss_cons (ss_set (i := 2) nd (sr_lst sa_nil))
    (ss_cons (ss_for (vs := [3]) PassesOwn.never rfl (si_range1 (by rfl) T.n_range (sa_cons (sr_callB dcall_len (by rfl) T.n_len bb_len (sbs_cons (sb_of (sr_ix (dix hu) (sb_name 0) (sb_of sr_int) fun _ _ => rfl)) sbs_nil)) sa_nil)) (sg_name 3 nd) (ss_cons (ss_asg (vs := [4, 5]) (sr_call (ok_ends_of T) (hr.mono (by omega)) (by rfl) T.g_ends_of T.F_ends_of.kp T.b_ends_of (fun ds st r h => fnM_len h) (sa_cons (sr_name 0) (sa_cons (sr_name 3) sa_nil))) (sg_tup rfl (sgs_cons (sg_name 4 nd) (sgs_cons (sg_name 5 nd) sgs_nil))))
    (ss_one (ss_if (st_cmp (dop_ne hu) (sb_of (sr_cmp (dop_in hu) (sb_name 4) (sb_name 1) rfl)) (sb_of (sr_cmp (dop_in hu) (sb_name 5) (sb_name 1) rfl)) (nomark _)) (ss_one (ss_expr (sr_mut (i := 2) PySem.F.plainAttrs_list PySem.F.slot_list_append PySem.F.type_list_append dm_append (sa_cons (sr_name 3) sa_nil)))) ss_nil))))
    (ss_one (ss_retOwn 2))))
theorem ok__law_open {P : Program} {w : World} {K : PySem.W.Frag} {mg : Str → Option Value} {base : Heap} (T : Tx K mg) : FnG P w K mg base CX0 1 T.f__law_open T.fd__law_open ["script"] (spF K 1 m__law_open) := fn_ok T.F__law_open sc__law_open fun cdv A outer s H E hr => by
    have hu := hr.hu
    have hgd := hr.gd
    have nd := sc__law_open.nd
    exact (ss_cons (ss_set (i := 1) nd (sr_callTy dcall_list (by rfl) T.n_list bb_list (sbs_cons (sb_of (sr_slice (sb_name 0) sp_none (sp_some (sb_of sr_int)))) sbs_nil)))
    (ss_cons (ss_for (vs := [2, 3]) PassesOwn.never rfl (si_enum (by rfl) T.n_enumerate (sa_cons (sr_slice (sb_name 0) (sp_some (sb_of sr_int)) (sp_some (sb_of sr_int))) sa_nil)) (sg_tup rfl (sgs_cons (sg_name 2 nd) (sgs_cons (sg_name 3 nd) sgs_nil))) (ss_one (ss_setI (i := 1) (dset hu) (sb_of (sr_bin dop_mod (sb_name 2) (sb_of sr_int))) (sr_bin dop_add (sb_of (sr_ix (dix hu) (sb_name 1) (sb_of (sr_bin dop_mod (sb_name 2) (sb_of sr_int))) fun _ _ => rfl)) (sb_name 3)))))
    (ss_one (ss_ret (sr_lst (sa_cons (sr_name 1) (sa_cons sr_int (sa_cons sr_int sa_nil))))))))
theorem ok__law_spread {P : Program} {w : World} {K : PySem.W.Frag} {mg : Str → Option Value} {base : Heap} (T : Tx K mg) : FnG P w K mg base CX0 1 T.f__law_spread T.fd__law_spread ["cell", "at"] (spF K 2 m__law_spread) := fn_ok T.F__law_spread sc__law_spread fun cdv A outer s H E hr => by
    have hu := hr.hu
    have hgd := hr.gd
    have nd := sc__law_spread.nd
    exact (ss_cons (ss_if (st_cmp dop_ge (sb_name 0) (sb_of (sr_bin dop_pow (sb_of sr_int) (sb_of sr_int))) (nomark _)) (ss_one (ss_retOwn 0)) ss_nil)
    (ss_cons (ss_set (i := 2) nd (sr_lst (sa_cons sr_int (sa_cons sr_int (sa_cons sr_int (sa_cons sr_int (sa_cons sr_int (sa_cons sr_int (sa_cons sr_int (sa_cons sr_int sa_nil))))))))))
    (ss_cons (ss_set (i := 2) nd (sr_bin dop_add (sb_name 2) (sb_of (sr_lst (sa_cons sr_int (sa_cons sr_int (sa_cons sr_int (sa_cons sr_int (sa_cons sr_int sa_nil)))))))))
    (ss_cons (ss_set (i := 3) nd (sr_bin dop_mod (sb_of (sr_bin dop_pow (sb_of (sr_bin dop_add (sb_of (sr_bin dop_add (sb_of (sr_bin dop_mul (sb_of (sr_bin dop_mod (sb_name 0) (sb_of sr_int))) (sb_of (sr_bin dop_add (sb_of (sr_bin dop_mul (sb_of sr_int) (sb_name 1))) (sb_of sr_int))))) (sb_of (sr_bin dop_mul (sb_name 1) (sb_of sr_int))))) (sb_of sr_int))) (sb_of sr_int))) (sb_of (sr_ix (dix hu) (sb_name 2) (sb_of (sr_bin dop_mod (sb_name 1) (sb_of sr_int))) fun _ _ => rfl))))
    (ss_cons (ss_set (i := 4) nd (sr_bin dop_mod (sb_of (sr_bin dop_pow (sb_of (sr_bin dop_add (sb_of (sr_bin dop_add (sb_of (sr_bin dop_mul (sb_name 3) (sb_of (sr_bin dop_add (sb_name 1) (sb_of sr_int))))) (sb_of (sr_bin dop_mod (sb_name 0) (sb_of sr_int))))) (sb_of sr_int))) (sb_of sr_int))) (sb_of (sr_ix (dix hu) (sb_name 2) (sb_of (sr_bin dop_mod (sb_of (sr_bin dop_add (sb_name 1) (sb_of sr_int))) (sb_of sr_int))) fun _ _ => rfl))))
    (ss_cons (ss_set (i := 5) nd (sr_bin dop_mod (sb_of (sr_bin dop_pow (sb_of (sr_bin dop_add (sb_of (sr_bin dop_add (sb_name 4) (sb_of (sr_bin dop_mod (sb_name 3) (sb_of sr_int))))) (sb_name 1))) (sb_of sr_int))) (sb_of (sr_ix (dix hu) (sb_name 2) (sb_of (sr_bin dop_mod (sb_of (sr_bin dop_add (sb_name 1) (sb_of sr_int))) (sb_of sr_int))) fun _ _ => rfl))))
    (ss_one (ss_ret (sr_bin dop_add (sb_of (sr_bin dop_mul (sb_of (sr_bin dop_add (sb_of (sr_bin dop_mul (sb_name 3) (sb_of sr_int))) (sb_name 4))) (sb_of sr_int))) (sb_name 5))))))))))
theorem ok__law_take {P : Program} {w : World} {K : PySem.W.Frag} {mg : Str → Option Value} {base : Heap} (T : Tx K mg) : FnG P w K mg base CX0 2 T.f__law_take T.fd__law_take ["pen", "amount"] (spF K 2 m__law_take) := fn_ok T.F__law_take sc__law_take fun cdv A outer s H E hr => by
    have hu := hr.hu
    have hgd := hr.gd
    have nd := sc__law_take.nd
    exact (ss_cons (ss_if (st_cmp (dop_lt hu) (sb_of (sr_ix (dix hu) (sb_name 0) (sb_of sr_int) fun _ _ => rfl)) (sb_name 1) (nomark _)) (ss_cons (ss_set (i := 2) nd (sr_ix (dix hu) (sb_name 0) (sb_of sr_int) fun _ _ => rfl))
    (ss_cons (ss_set (i := 3) nd sr_int)
    (ss_cons (ss_if (st_cmp (dop_lt hu) (sb_name 2) (sb_of (sr_callB dcall_len (by rfl) T.n_len bb_len (sbs_cons (sb_of (sr_ix (dix hu) (sb_name 0) (sb_of sr_int) fun _ _ => rfl)) sbs_nil))) (nomark _)) (ss_one (ss_set (i := 3) nd (sr_ix (dix hu) (sb_of (sr_ix (dix hu) (sb_name 0) (sb_of sr_int) fun _ _ => rfl)) (sb_name 2) fun _ _ => rfl))) (ss_one (ss_if (st_cmp dop_gt (sb_of (sr_callB dcall_len (by rfl) T.n_len bb_len (sbs_cons (sb_of (sr_ix (dix hu) (sb_name 0) (sb_of sr_int) fun _ _ => rfl)) sbs_nil))) (sb_of sr_int) (nomark _)) (ss_one (ss_set (i := 3) nd (sr_bin dop_mod (sb_of (sr_ix (dix hu) (sb_of (sr_ix (dix hu) (sb_name 0) (sb_of sr_int) fun _ _ => rfl)) (sb_of (sr_bin dop_mod (sb_of (sr_bin dop_add (sb_of (sr_bin dop_mul (sb_name 2) (sb_of sr_int))) (sb_of sr_int))) (sb_of (sr_callB dcall_len (by rfl) T.n_len bb_len (sbs_cons (sb_of (sr_ix (dix hu) (sb_name 0) (sb_of sr_int) fun _ _ => rfl)) sbs_nil))))) fun _ _ => rfl)) (sb_of (sr_bin dop_add (sb_of (sr_bin dop_pow (sb_of sr_int) (sb_of sr_int))) (sb_name 2)))))) ss_nil)))
    (ss_cons (ss_setI (i := 0) (dset hu) (sb_of sr_int) (sr_bin dop_add (sb_name 2) (sb_of sr_int)))
    (ss_one (ss_setI (i := 0) (dset hu) (sb_of sr_int) (sr_call (ok__law_spread T) (hr.mono (by omega)) (by rfl) T.g__law_spread T.F__law_spread.kp T.b__law_spread (fun ds st r h => fnM_len h) (sa_cons (sr_name 3) (sa_cons (sr_name 2) sa_nil))))))))) ss_nil)
    (ss_cons (ss_set (i := 4) nd (sr_bin dop_mod (sb_of (sr_ix (dix hu) (sb_name 0) (sb_of sr_int) fun _ _ => rfl)) (sb_name 1)))
    (ss_cons (ss_setI (i := 0) (dset hu) (sb_of sr_int) (sr_bin dop_fdiv (sb_of (sr_ix (dix hu) (sb_name 0) (sb_of sr_int) fun _ _ => rfl)) (sb_name 1)))
    (ss_one (ss_retOwn 4)))))
theorem ok__law_same {P : Program} {w : World} {K : PySem.W.Frag} {mg : Str → Option Value} {base : Heap} (T : Tx K mg) : ∀ k : Nat, FnG P w K mg base CX0 (k + 1) T.f__law_same T.fd__law_same ["found", "due"] (spF K 2 (m__law_same k))
  | 0 => fn_void
  | k + 1 => fn_ok T.F__law_same sc__law_same fun cdv A outer s H E hr => by
    have hu := hr.hu
    have hgd := hr.gd
    have nd := sc__law_same.nd
    have hrec := ok__law_same (P := P) (w := w) (base := base) T k
    have hlen := len__law_same k
    exact (ss_cons (ss_if (sw_st (sw_or (st_cmp dop_is (sb_name 1) (sb_of sr_non) (nomark _)) (sw_or1 (st_cmp dop_is (sb_name 0) (sb_of sr_non) (nomark _))))) (ss_one (ss_ret (sr_and (sr_cmp dop_is (sb_name 1) (sb_of sr_non) (nomark _)) (sr_one (sr_cmp dop_is (sb_name 0) (sb_of sr_non) (nomark _)))))) ss_nil)
    (ss_cons (ss_if (sw_st (sw_or (st_tru (sb_of (sr_isi (by rfl) T.n_isinstance (by rfl) T.n_bool bb_bool (sb_name 1)))) (sw_or1 (st_tru (sb_of (sr_isi (by rfl) T.n_isinstance (by rfl) T.n_bool bb_bool (sb_name 0))))))) (ss_one (ss_ret (sr_and (sr_isi (by rfl) T.n_isinstance (by rfl) T.n_bool bb_bool (sb_name 1)) (sr_and (sr_isi (by rfl) T.n_isinstance (by rfl) T.n_bool bb_bool (sb_name 0)) (sr_one (sr_cmp (dop_eq hu) (sb_name 0) (sb_name 1) (nomark _))))))) ss_nil)
    (ss_cons (ss_if (st_tru (sb_of (sr_isi2 (by rfl) T.n_isinstance (by rfl) T.n_int bb_int (by rfl) T.n_str bb_str (sb_name 1)))) (ss_cons (ss_if (st_cmp (dop_ne hu) (sb_of (sr_isi (by rfl) T.n_isinstance (by rfl) T.n_int bb_int (sb_name 0))) (sb_of (sr_isi (by rfl) T.n_isinstance (by rfl) T.n_int bb_int (sb_name 1))) (nomark _)) (ss_one (ss_ret sr_bl)) ss_nil)
    (ss_one (ss_ret (sr_and (sr_isi2 (by rfl) T.n_isinstance (by rfl) T.n_int bb_int (by rfl) T.n_str bb_str (sb_name 0)) (sr_one (sr_cmp (dop_eq hu) (sb_name 0) (sb_name 1) (nomark _))))))) ss_nil)
    (ss_cons (ss_if (sw_st (sw_or (st_cmp (dop_ne hu) (sb_of (sr_isi (by rfl) T.n_isinstance (by rfl) T.n_tuple bb_tuple (sb_name 1))) (sb_of (sr_isi (by rfl) T.n_isinstance (by rfl) T.n_tuple bb_tuple (sb_name 0))) (nomark _)) (sw_or1 (st_cmp (dop_ne hu) (sb_of (sr_isi (by rfl) T.n_isinstance (by rfl) T.n_list bb_list (sb_name 1))) (sb_of (sr_isi (by rfl) T.n_isinstance (by rfl) T.n_list bb_list (sb_name 0))) (nomark _))))) (ss_one (ss_ret sr_bl)) ss_nil)
    (ss_cons (ss_if (st_cmp (dop_ne hu) (sb_of (sr_callB dcall_len (by rfl) T.n_len bb_len (sbs_cons (sb_name 0) sbs_nil))) (sb_of (sr_callB dcall_len (by rfl) T.n_len bb_len (sbs_cons (sb_name 1) sbs_nil))) (nomark _)) (ss_one (ss_ret sr_bl)) ss_nil)
    (ss_one (ss_ret (sr_cmp (dop_notin hu) (sb_of sr_bl) (sb_of (sr_lc [] [("one", 2), ("other", 3)] rfl nd (si_zip (by rfl) T.n_zip (sa_cons (sr_name 0) (sa_cons (sr_name 1) sa_nil))) (blkOk_by (N := N__law_same) (sc := defScope s__law_same) (by decide +kernel)) (fun _ _ _ _ _ => (sg_tup rfl (sgs_cons (sg_name 2 nd) (sgs_cons (sg_name 3 nd) sgs_nil)))) (fun _ _ _ _ _ => sts_nil) (fun _ _ _ _ _ => (sr_call hrec (hr.mono (by omega)) (by rfl) T.g__law_same T.F__law_same.kp T.b__law_same (fun ds st r h => hlen ds st r h) (sa_cons (sr_name 2) (sa_cons (sr_name 3) sa_nil)))))) rfl))))))))
theorem ok__law_one_of {P : Program} {w : World} {K : PySem.W.Frag} {mg : Str → Option Value} {base : Heap} (T : Tx K mg) : FnG P w K mg base CX0 3 T.f__law_one_of T.fd__law_one_of ["pen", "some"] (spF K 2 m__law_one_of) := fn_ok T.F__law_one_of sc__law_one_of fun cdv A outer s H E hr => by
    have hu := hr.hu
    have hgd := hr.gd
    have nd := sc__law_one_of.nd
    exact (ss_one (ss_ret (sr_ix (dix hu) (sb_name 1) (sb_of (sr_call (ok__law_take T) (hr.mono (by omega)) (by rfl) T.g__law_take T.F__law_take.kp T.b__law_take (fun ds st r h => fnM_len h) (sa_cons (sr_name 0) (sa_cons (sr_callB dcall_len (by rfl) T.n_len bb_len (sbs_cons (sb_name 1) sbs_nil)) sa_nil)))) fun _ _ => rfl)))
theorem ok__law_draw_road {P : Program} {w : World} {K : PySem.W.Frag} {mg : Str → Option Value} {base : Heap} (T : Tx K mg) : FnG P w K mg base CX0 4 T.f__law_draw_road T.fd__law_draw_road ["pen", "a", "b", "width"] (spF K 4 m__law_draw_road) := fn_ok T.F__law_draw_road sc__law_draw_road fun cdv A outer s H E hr => by
    have hu := hr.hu
    have hgd := hr.gd
    have nd := sc__law_draw_road.nd
    exact (ss_cons (ss_set (i := 4) nd (sr_call (ok__law_one_of T) (hr.mono (by omega)) (by rfl) T.g__law_one_of T.F__law_one_of.kp T.b__law_one_of (fun ds st r h => fnM_len h) (sa_cons (sr_name 0) (sa_cons (sr_lst (sa_cons sr_int (sa_cons sr_int (sa_cons sr_int (sa_cons sr_int (sa_cons (sr_call (ok__law_take T) (hr.mono (by omega)) (by rfl) T.g__law_take T.F__law_take.kp T.b__law_take (fun ds st r h => fnM_len h) (sa_cons (sr_name 0) (sa_cons sr_int sa_nil))) (sa_cons (sr_call (ok__law_take T) (hr.mono (by omega)) (by rfl) T.g__law_take T.F__law_take.kp T.b__law_take (fun ds st r h => fnM_len h) (sa_cons (sr_name 0) (sa_cons sr_int sa_nil))) sa_nil))))))) sa_nil))))
    (ss_one (ss_ret (sr_tup (sa_cons (sr_name 1) (sa_cons (sr_name 2) (sa_cons (sr_name 4) (sa_cons (sr_callB (dcall_min rfl) (by rfl) T.n_min bb_min (sbs_cons (sb_of sr_int) (sbs_cons (sb_of (sr_bin dop_add (sb_name 4) (sb_of (sr_call (ok__law_one_of T) (hr.mono (by omega)) (by rfl) T.g__law_one_of T.F__law_one_of.kp T.b__law_one_of (fun ds st r h => fnM_len h) (sa_cons (sr_name 0) (sa_cons (sr_lst (sa_cons sr_int (sa_cons sr_int (sa_cons sr_int (sa_cons sr_int (sa_cons (sr_call (ok__law_take T) (hr.mono (by omega)) (by rfl) T.g__law_take T.F__law_take.kp T.b__law_take (fun ds st r h => fnM_len h) (sa_cons (sr_name 0) (sa_cons sr_int sa_nil))) (sa_cons (sr_call (ok__law_take T) (hr.mono (by omega)) (by rfl) T.g__law_take T.F__law_take.kp T.b__law_take (fun ds st r h => fnM_len h) (sa_cons (sr_name 0) (sa_cons (sr_bin dop_add (sb_name 3) (sb_of sr_int)) sa_nil))) sa_nil))))))) sa_nil)))))) sbs_nil))) sa_nil))))))))
theorem ok__law_draw_web {P : Program} {w : World} {K : PySem.W.Frag} {mg : Str → Option Value} {base : Heap} (T : Tx K mg) : FnG P w K mg base CX0 5 T.f__law_draw_web T.fd__law_draw_web ["pen", "houses", "most", "width"] (spF K 4 m__law_draw_web) := fn_ok T.F__law_draw_web sc__law_draw_web fun cdv A outer s H E hr => by
    have hu := hr.hu
    have hgd := hr.gd
    have nd := sc__law_draw_web.nd
    exact (ss_cons (ss_set (i := 4) nd (sr_bin dop_add (sb_of sr_int) (sb_of (sr_call (ok__law_take T) (hr.mono (by omega)) (by rfl) T.g__law_take T.F__law_take.kp T.b__law_take (fun ds st r h => fnM_len h) (sa_cons (sr_name 0) (sa_cons (sr_name 1) sa_nil))))))
    (ss_cons (ss_setLc (i := 5) [0] [("house", 9)] rfl nd (sw_true rfl rfl rfl (by decide +kernel)) (si_range2 (by rfl) T.n_range (sa_cons sr_int (sa_cons (sr_name 4) sa_nil))) (blkOk_by (N := N__law_draw_web) (sc := defScope s__law_draw_web) (by decide +kernel)) (fun _ _ _ _ _ => (sg_name 9 nd)) (fun _ _ _ _ _ => sts_nil) (fun _ _ _ _ _ => (sr_tup (sa_cons (sr_call (ok__law_take T) (hr.mono (by omega)) (by rfl) T.g__law_take T.F__law_take.kp T.b__law_take (fun ds st r h => fnM_len h) (sa_cons (sr_name 0) (sa_cons (sr_name 9) sa_nil))) (sa_cons (sr_name 9) sa_nil)))))
    (ss_cons (ss_for (vs := [6]) PassesOwn.never rfl (si_range1 (by rfl) T.n_range (sa_cons (sr_bin dop_mul (sb_of (sr_call (ok__law_take T) (hr.mono (by omega)) (by rfl) T.g__law_take T.F__law_take.kp T.b__law_take (fun ds st r h => fnM_len h) (sa_cons (sr_name 0) (sa_cons (sr_callB (dcall_max rfl) (by rfl) T.n_max bb_max (sbs_cons (sb_of sr_int) (sbs_cons (sb_of (sr_bin dop_add (sb_of (sr_bin dop_sub (sb_name 2) (sb_of (sr_callB dcall_len (by rfl) T.n_len bb_len (sbs_cons (sb_name 5) sbs_nil))))) (sb_of sr_int))) sbs_nil))) sa_nil)))) (sb_of (sr_callTy dcall_int (by rfl) T.n_int bb_int (sbs_cons (sb_of (sr_cmp dop_gt (sb_name 4) (sb_of sr_int) (nomark _))) sbs_nil)))) sa_nil)) (sg_name 6 nd) (ss_cons (ss_set (i := 7) nd (sr_call (ok__law_take T) (hr.mono (by omega)) (by rfl) T.g__law_take T.F__law_take.kp T.b__law_take (fun ds st r h => fnM_len h) (sa_cons (sr_name 0) (sa_cons (sr_bin dop_sub (sb_name 4) (sb_of sr_int)) sa_nil))))
    (ss_one (ss_expr (sr_mut (i := 5) PySem.F.plainAttrs_list PySem.F.slot_list_insert PySem.F.type_list_insert dm_insert (sa_cons (sr_call (ok__law_take T) (hr.mono (by omega)) (by rfl) T.g__law_take T.F__law_take.kp T.b__law_take (fun ds st r h => fnM_len h) (sa_cons (sr_name 0) (sa_cons (sr_bin dop_add (sb_of (sr_callB dcall_len (by rfl) T.n_len bb_len (sbs_cons (sb_name 5) sbs_nil))) (sb_of sr_int)) sa_nil))) (sa_cons (sr_tup (sa_cons (sr_name 7) (sa_cons (sr_bin dop_add (sb_of (sr_bin dop_add (sb_name 7) (sb_of sr_int))) (sb_of (sr_call (ok__law_take T) (hr.mono (by omega)) (by rfl) T.g__law_take T.F__law_take.kp T.b__law_take (fun ds st r h => fnM_len h) (sa_cons (sr_name 0) (sa_cons (sr_bin dop_sub (sb_of (sr_bin dop_sub (sb_name 4) (sb_of sr_int))) (sb_name 7)) sa_nil))))) sa_nil))) sa_nil)))))))
    (ss_cons (ss_set (i := 8) nd (sr_lst sa_nil))
    (ss_cons (ss_for (vs := [9]) PassesOwn.never rfl (si_range1 (by rfl) T.n_range (sa_cons (sr_name 4) sa_nil)) (sg_name 9 nd) (ss_one (ss_expr (sr_mut (i := 8) PySem.F.plainAttrs_list PySem.F.slot_list_insert PySem.F.type_list_insert dm_insert (sa_cons (sr_call (ok__law_take T) (hr.mono (by omega)) (by rfl) T.g__law_take T.F__law_take.kp T.b__law_take (fun ds st r h => fnM_len h) (sa_cons (sr_name 0) (sa_cons (sr_bin dop_add (sb_name 9) (sb_of sr_int)) sa_nil))) (sa_cons (sr_name 9) sa_nil))))))
    (ss_cons (ss_setLc (i := 5) [8] [("a", 7), ("b", 10)] rfl nd (sw_true rfl rfl rfl (by decide +kernel)) (si_seq (sr_name 5)) (blkOk_by (N := N__law_draw_web) (sc := defScope s__law_draw_web) (by decide +kernel)) (fun _ _ _ _ _ => (sg_tup rfl (sgs_cons (sg_name 7 nd) (sgs_cons (sg_name 10 nd) sgs_nil)))) (fun _ _ _ _ _ => sts_nil) (fun _ _ _ _ _ => (sr_tup (sa_cons (sr_callB (dcall_min rfl) (by rfl) T.n_min bb_min (sbs_cons (sb_of (sr_ix (dix hu) (sb_name 8) (sb_name 7) fun _ _ => rfl)) (sbs_cons (sb_of (sr_ix (dix hu) (sb_name 8) (sb_name 10) fun _ _ => rfl)) sbs_nil))) (sa_cons (sr_callB (dcall_max rfl) (by rfl) T.n_max bb_max (sbs_cons (sb_of (sr_ix (dix hu) (sb_name 8) (sb_name 7) fun _ _ => rfl)) (sbs_cons (sb_of (sr_ix (dix hu) (sb_name 8) (sb_name 10) fun _ _ => rfl)) sbs_nil))) sa_nil)))))
    (ss_one (ss_ret (sr_tup (sa_cons (sr_name 4) (sa_cons (sr_callTy dcall_tuple (by rfl) T.n_tuple bb_tuple (sbs_cons (sb_of (sr_lc [0, 3] [("a", 7), ("b", 10)] rfl nd (si_seq (sr_name 5)) (blkOk_by (N := N__law_draw_web) (sc := defScope s__law_draw_web) (by decide +kernel)) (fun _ _ _ _ _ => (sg_tup rfl (sgs_cons (sg_name 7 nd) (sgs_cons (sg_name 10 nd) sgs_nil)))) (fun _ _ _ _ _ => sts_nil) (fun _ _ _ _ _ => (sr_call (ok__law_draw_road T) (hr.mono (by omega)) (by rfl) T.g__law_draw_road T.F__law_draw_road.kp T.b__law_draw_road (fun ds st r h => fnM_len h) (sa_cons (sr_name 0) (sa_cons (sr_name 7) (sa_cons (sr_name 10) (sa_cons (sr_name 3) sa_nil)))))))) sbs_nil)) sa_nil)))))))))))
theorem ok__law_subsets {P : Program} {w : World} {K : PySem.W.Frag} {mg : Str → Option Value} {base : Heap} (T : Tx K mg) : ∀ k : Nat, FnG P w K mg base CX0 (k + 1) T.f__law_subsets T.fd__law_subsets ["some", "count"] (spF K 2 (m__law_subsets k))
  | 0 => fn_void
  | k + 1 => fn_ok T.F__law_subsets sc__law_subsets fun cdv A outer s H E hr => by
    have hu := hr.hu
    have hgd := hr.gd
    have nd := sc__law_subsets.nd
    have hrec := ok__law_subsets (P := P) (w := w) (base := base) T k
    have hlen := len__law_subsets k
    exact (ss_cons (ss_if (st_cmp (dop_eq hu) (sb_name 1) (sb_of sr_int) (nomark _)) (ss_one (ss_ret (sr_lst (sa_cons (sr_tup sa_nil) sa_nil)))) ss_nil)
    (ss_cons (ss_set (i := 2) nd (sr_lst sa_nil))
    (ss_cons (ss_for (vs := [3]) PassesOwn.never rfl (si_range1 (by rfl) T.n_range (sa_cons (sr_bin dop_add (sb_of (sr_bin dop_sub (sb_of (sr_callB dcall_len (by rfl) T.n_len bb_len (sbs_cons (sb_name 0) sbs_nil))) (sb_name 1))) (sb_of sr_int)) sa_nil)) (sg_name 3 nd) (ss_one (ss_set (i := 2) nd (sr_bin dop_add (sb_name 2) (sb_of (sr_lc [0, 3] [("rest", 4)] rfl nd (si_seq (sr_call hrec (hr.mono (by omega)) (by rfl) T.g__law_subsets T.F__law_subsets.kp T.b__law_subsets (fun ds st r h => hlen ds st r h) (sa_cons (sr_slice (sb_name 0) (sp_some (sb_of (sr_bin dop_add (sb_name 3) (sb_of sr_int)))) sp_none) (sa_cons (sr_bin dop_sub (sb_name 1) (sb_of sr_int)) sa_nil)))) (blkOk_by (N := N__law_subsets) (sc := defScope s__law_subsets) (by decide +kernel)) (fun _ _ _ _ _ => (sg_name 4 nd)) (fun _ _ _ _ _ => sts_nil) (fun _ _ _ _ _ => (sr_bin dop_add (sb_of (sr_tup (sa_cons (sr_ix (dix hu) (sb_name 0) (sb_name 3) fun _ _ => rfl) sa_nil))) (sb_name 4)))))))))
    (ss_one (ss_retOwn 2)))))
theorem ok__law_all_sides {P : Program} {w : World} {K : PySem.W.Frag} {mg : Str → Option Value} {base : Heap} (T : Tx K mg) : FnG P w K mg base CX0 8 T.f__law_all_sides T.fd__law_all_sides ["web", "road"] (spF K 2 m__law_all_sides) := fn_ok T.F__law_all_sides sc__law_all_sides fun cdv A outer s H E hr => by
    have hu := hr.hu
    have hgd := hr.gd
    have nd := sc__law_all_sides.nd
    exact (ss_cons (ss_asg (vs := [2, 3]) (sr_slice (sb_of (sr_ix (dix hu) (sb_of (sr_ix (dix hu) (sb_name 0) (sb_of sr_int) fun _ _ => rfl)) (sb_name 1) fun _ _ => rfl)) sp_none (sp_some (sb_of sr_int))) (sg_tup rfl (sgs_cons (sg_name 2 nd) (sgs_cons (sg_name 3 nd) sgs_nil))))
    (ss_cons (ss_par (i := 4) (j := 5) rfl nd (sr_lc [2, 3] [("house", 7)] rfl nd (si_range1 (by rfl) T.n_range (sa_cons (sr_ix (dix hu) (sb_name 0) (sb_of sr_int) fun _ _ => rfl) sa_nil)) (blkOk_by (N := N__law_all_sides) (sc := defScope s__law_all_sides) (by decide +kernel)) (fun _ _ _ _ _ => (sg_name 7 nd)) (fun _ _ _ _ _ => (sts_one (st_cmp (dop_notin hu) (sb_name 7) (sb_of (sr_tup (sa_cons (sr_name 2) (sa_cons (sr_name 3) sa_nil)))) rfl))) (fun _ _ _ _ _ => (sr_name 7))) (sr_lst sa_nil))
    (ss_cons (ss_for (vs := [6]) PassesOwn.never rfl (si_range1 (by rfl) T.n_range (sa_cons (sr_bin dop_add (sb_of (sr_callB dcall_len (by rfl) T.n_len bb_len (sbs_cons (sb_name 4) sbs_nil))) (sb_of sr_int)) sa_nil)) (sg_name 6 nd) (ss_one (ss_set (i := 5) nd (sr_bin dop_add (sb_name 5) (sb_of (sr_lc [2] [("more", 8)] rfl nd (si_seq (sr_call (ok__law_subsets T 6) (hr.mono (by omega)) (by rfl) T.g__law_subsets T.F__law_subsets.kp T.b__law_subsets (fun ds st r h => len__law_subsets 6 ds st r h) (sa_cons (sr_name 4) (sa_cons (sr_name 6) sa_nil)))) (blkOk_by (N := N__law_all_sides) (sc := defScope s__law_all_sides) (by decide +kernel)) (fun _ _ _ _ _ => (sg_name 8 nd)) (fun _ _ _ _ _ => sts_nil) (fun _ _ _ _ _ => (sr_callTy dcall_tuple (by rfl) T.n_tuple bb_tuple (sbs_cons (sb_of (sr_callB (dcall_sorted hu) (by rfl) T.n_sorted bb_sorted (sbs_cons (sb_of (sr_bin dop_add (sb_of (sr_tup (sa_cons (sr_name 2) sa_nil))) (sb_name 8))) sbs_nil))) sbs_nil)))))))))
    (ss_one (ss_ret (sr_callB (dcall_sorted hu) (by rfl) T.n_sorted bb_sorted (sbs_cons (sb_name 5) sbs_nil)))))))
theorem ok__law_all_detours {P : Program} {w : World} {K : PySem.W.Frag} {mg : Str → Option Value} {base : Heap} (T : Tx K mg) : FnG P w K mg base CX0 1 T.f__law_all_detours T.fd__law_all_detours ["web", "road"] (spF K 2 m__law_all_detours) := fn_ok T.F__law_all_detours sc__law_all_detours fun cdv A outer s H E hr => by
    have hu := hr.hu
    have hgd := hr.gd
    have nd := sc__law_all_detours.nd
    exact (ss_cons (ss_asg (vs := [2, 3]) (sr_slice (sb_of (sr_ix (dix hu) (sb_of (sr_ix (dix hu) (sb_name 0) (sb_of sr_int) fun _ _ => rfl)) (sb_name 1) fun _ _ => rfl)) sp_none (sp_some (sb_of sr_int))) (sg_tup rfl (sgs_cons (sg_name 2 nd) (sgs_cons (sg_name 3 nd) sgs_nil))))
    (ss_cons (ss_par (i := 4) (j := 5) rfl nd (sr_lst sa_nil) (sr_lst (sa_cons (sr_tup (sa_cons (sr_tup sa_nil) (sa_cons (sr_name 2) (sa_cons (sr_tup (sa_cons (sr_name 2) sa_nil)) sa_nil)))) sa_nil)))
    (ss_cons (ss_while PassesOwn.never (st_cmp (dop_ne hu) (sb_name 5) (sb_of (sr_lst sa_nil)) (nomark _)) (ss_cons (ss_asg (vs := [6, 7, 8]) (sr_mut0 (i := 5) PySem.F.plainAttrs_list PySem.F.slot_list_pop PySem.F.type_list_pop dm_pop) (sg_tup rfl (sgs_cons (sg_name 6 nd) (sgs_cons (sg_name 7 nd) (sgs_cons (sg_name 8 nd) sgs_nil)))))
    (ss_one (ss_for (vs := [9]) PassesOwn.never rfl (si_range1 (by rfl) T.n_range (sa_cons (sr_callB dcall_len (by rfl) T.n_len bb_len (sbs_cons (sb_of (sr_ix (dix hu) (sb_name 0) (sb_of sr_int) fun _ _ => rfl)) sbs_nil)) sa_nil)) (sg_name 9 nd) (ss_cons (ss_asg (vs := [10, 11]) (sr_slice (sb_of (sr_ix (dix hu) (sb_of (sr_ix (dix hu) (sb_name 0) (sb_of sr_int) fun _ _ => rfl)) (sb_name 9) fun _ _ => rfl)) sp_none (sp_some (sb_of sr_int))) (sg_tup rfl (sgs_cons (sg_name 10 nd) (sgs_cons (sg_name 11 nd) sgs_nil))))
    (ss_one (ss_if (sw_st (sw_and (st_cmp (dop_ne hu) (sb_name 9) (sb_name 1) (nomark _)) (sw_and1 (st_cmp (dop_in hu) (sb_name 7) (sb_of (sr_tup (sa_cons (sr_name 10) (sa_cons (sr_name 11) sa_nil)))) rfl)))) (ss_cons (ss_set (i := 12) nd (sr_bin dop_sub (sb_of (sr_bin dop_add (sb_name 10) (sb_name 11))) (sb_name 7)))
    (ss_one (ss_if (st_cmp (dop_eq hu) (sb_name 12) (sb_name 3) (nomark _)) (ss_one (ss_expr (sr_mut (i := 4) PySem.F.plainAttrs_list PySem.F.slot_list_append PySem.F.type_list_append dm_append (sa_cons (sr_bin dop_add (sb_name 6) (sb_of (sr_tup (sa_cons (sr_name 9) sa_nil)))) sa_nil)))) (ss_one (ss_if (st_cmp (dop_notin hu) (sb_name 12) (sb_name 8) rfl) (ss_one (ss_expr (sr_mut (i := 5) PySem.F.plainAttrs_list PySem.F.slot_list_append PySem.F.type_list_append dm_append (sa_cons (sr_tup (sa_cons (sr_bin dop_add (sb_name 6) (sb_of (sr_tup (sa_cons (sr_name 9) sa_nil)))) (sa_cons (sr_name 12) (sa_cons (sr_bin dop_add (sb_name 8) (sb_of (sr_tup (sa_cons (sr_name 12) sa_nil)))) sa_nil)))) sa_nil)))) ss_nil))))) ss_nil)))))))
    (ss_one (ss_ret (sr_callB (dcall_sorted hu) (by rfl) T.n_sorted bb_sorted (sbs_cons (sb_name 4) sbs_nil)))))))
theorem ok__law_cross {P : Program} {w : World} {K : PySem.W.Frag} {mg : Str → Option Value} {base : Heap} (T : Tx K mg) : FnG P w K mg base CX0 1 T.f__law_cross T.fd__law_cross ["web", "side"] (spF K 2 m__law_cross) := fn_ok T.F__law_cross sc__law_cross fun cdv A outer s H E hr => by
    have hu := hr.hu
    have hgd := hr.gd
    have nd := sc__law_cross.nd
    exact (ss_one (ss_ret (sr_lc [1, 0] [("road", 2)] rfl nd (si_range1 (by rfl) T.n_range (sa_cons (sr_callB dcall_len (by rfl) T.n_len bb_len (sbs_cons (sb_of (sr_ix (dix hu) (sb_name 0) (sb_of sr_int) fun _ _ => rfl)) sbs_nil)) sa_nil)) (blkOk_by (N := N__law_cross) (sc := defScope s__law_cross) (by decide +kernel)) (fun _ _ _ _ _ => (sg_name 2 nd)) (fun _ _ _ _ _ => (sts_one (st_cmp (dop_ne hu) (sb_of (sr_cmp (dop_in hu) (sb_of (sr_ix (dix hu) (sb_of (sr_ix (dix hu) (sb_of (sr_ix (dix hu) (sb_name 0) (sb_of sr_int) fun _ _ => rfl)) (sb_name 2) fun _ _ => rfl)) (sb_of sr_int) fun _ _ => rfl)) (sb_name 1) rfl)) (sb_of (sr_cmp (dop_in hu) (sb_of (sr_ix (dix hu) (sb_of (sr_ix (dix hu) (sb_of (sr_ix (dix hu) (sb_name 0) (sb_of sr_int) fun _ _ => rfl)) (sb_name 2) fun _ _ => rfl)) (sb_of sr_int) fun _ _ => rfl)) (sb_name 1) rfl)) (nomark _)))) (fun _ _ _ _ _ => (sr_name 2)))))
theorem ok_law {P : Program} {w : World} {K : PySem.W.Frag} {mg : Str → Option Value} {base : Heap} (T : Tx K mg) : FnG P w K mg base CX0 13 T.f_law T.fd_law ["script"] (spF K 1 m_law) := fn_ok T.F_law sc_law fun cdv A outer s H E hr => by
    have hu := hr.hu
    have hgd := hr.gd
    have nd := sc_law.nd
    exact (ss_cons (ss_setC (i := 1) nd (sr_call (ok__law_open T) (hr.mono (by omega)) (by rfl) T.g__law_open T.F__law_open.kp T.b__law_open (fun ds st r h => fnM_len h) (sa_cons (sr_name 0) sa_nil)))
    (ss_cons (ss_for (vs := [2]) PassesOwn.never rfl (si_range1 (by rfl) T.n_range (sa_cons sr_int sa_nil)) (sg_name 2 nd) (ss_cons (ss_set (i := 3) nd (sr_call (ok__law_draw_web T) (hr.mono (by omega)) (by rfl) T.g__law_draw_web T.F__law_draw_web.kp T.b__law_draw_web (fun ds st r h => fnM_len h) (sa_cons (sr_name 1) (sa_cons sr_int (sa_cons sr_int (sa_cons sr_int sa_nil))))))
    (ss_cons (ss_set (i := 4) nd (sr_callB (dcall_repr hu hgd) (by rfl) T.n_repr bb_repr (sbs_cons (sb_name 3) sbs_nil)))
    (ss_cons (ss_for (vs := [5]) PassesOwn.never rfl (si_range1 (by rfl) T.n_range (sa_cons (sr_callB dcall_len (by rfl) T.n_len bb_len (sbs_cons (sb_of (sr_ix (dix hu) (sb_name 3) (sb_of sr_int) fun _ _ => rfl)) sbs_nil)) sa_nil)) (sg_name 5 nd) (ss_cons (ss_par (i := 6) (j := 7) rfl nd (sr_call (ok__law_all_detours T) (hr.mono (by omega)) (by rfl) T.g__law_all_detours T.F__law_all_detours.kp T.b__law_all_detours (fun ds st r h => fnM_len h) (sa_cons (sr_name 3) (sa_cons (sr_name 5) sa_nil))) (sr_call (ok__law_all_sides T) (hr.mono (by omega)) (by rfl) T.g__law_all_sides T.F__law_all_sides.kp T.b__law_all_sides (fun ds st r h => fnM_len h) (sa_cons (sr_name 3) (sa_cons (sr_name 5) sa_nil))))
    (ss_cons (ss_for (vs := [8]) PassesOwn.never rfl (si_range1 (by rfl) T.n_range (sa_cons sr_int sa_nil)) (sg_name 8 nd) (ss_cons (ss_par (i := 9) (j := 10) rfl nd (sr_call (ok_detours T) (hr.mono (by omega)) (by rfl) T.g_detours T.F_detours.kp T.b_detours (fun ds st r h => fnM_len h) (sa_cons (sr_name 3) (sa_cons (sr_name 5) sa_nil))) (sr_call (ok_sides T) (hr.mono (by omega)) (by rfl) T.g_sides T.F_sides.kp T.b_sides (fun ds st r h => fnM_len h) (sa_cons (sr_name 3) (sa_cons (sr_name 5) sa_nil))))
    (ss_cons (ss_if (st_not (st_tru (sb_of (sr_quiet (sr_call (ok__law_same T 5) (hr.mono (by omega)) (by rfl) T.g__law_same T.F__law_same.kp T.b__law_same (fun ds st r h => len__law_same 5 ds st r h) (sa_cons (sr_lst (sa_cons (sr_name 9) (sa_cons (sr_name 10) sa_nil))) (sa_cons (sr_lst (sa_cons (sr_name 6) (sa_cons (sr_name 7) sa_nil))) sa_nil))))))) (ss_one (ss_ret sr_bl)) ss_nil)
    (ss_cons (ss_expr (sr_mut (i := 9) PySem.F.plainAttrs_list PySem.F.slot_list_append PySem.F.type_list_append dm_append (sa_cons sr_non sa_nil)))
    (ss_one (ss_expr (sr_mut (i := 10) PySem.F.plainAttrs_list PySem.F.slot_list_append PySem.F.type_list_append dm_append (sa_cons sr_non sa_nil))))))))
    (ss_one (ss_for (vs := [11]) PassesOwn.never rfl (si_seq (sr_name 7)) (sg_name 11 nd) (ss_cons (ss_set (i := 12) nd (sr_call (ok_crossing T) (hr.mono (by omega)) (by rfl) T.g_crossing T.F_crossing.kp T.b_crossing (fun ds st r h => fnM_len h) (sa_cons (sr_name 3) (sa_cons (sr_name 11) sa_nil))))
    (ss_cons (ss_if (st_not (st_tru (sb_of (sr_quiet (sr_call (ok__law_same T 5) (hr.mono (by omega)) (by rfl) T.g__law_same T.F__law_same.kp T.b__law_same (fun ds st r h => len__law_same 5 ds st r h) (sa_cons (sr_name 12) (sa_cons (sr_call (ok__law_cross T) (hr.mono (by omega)) (by rfl) T.g__law_cross T.F__law_cross.kp T.b__law_cross (fun ds st r h => fnM_len h) (sa_cons (sr_name 3) (sa_cons (sr_name 11) sa_nil))) sa_nil))))))) (ss_one (ss_ret sr_bl)) ss_nil)
    (ss_cons (ss_expr (sr_mut (i := 12) PySem.F.plainAttrs_list PySem.F.slot_list_append PySem.F.type_list_append dm_append (sa_cons sr_non sa_nil)))
    (ss_one (ss_if (st_cmp (dop_ne hu) (sb_of (sr_call (ok_crossing T) (hr.mono (by omega)) (by rfl) T.g_crossing T.F_crossing.kp T.b_crossing (fun ds st r h => fnM_len h) (sa_cons (sr_name 3) (sa_cons (sr_name 11) sa_nil)))) (sb_of (sr_call (ok__law_cross T) (hr.mono (by omega)) (by rfl) T.g__law_cross T.F__law_cross.kp T.b__law_cross (fun ds st r h => fnM_len h) (sa_cons (sr_name 3) (sa_cons (sr_name 11) sa_nil)))) (nomark _)) (ss_one (ss_ret sr_bl)) ss_nil))))))))))
    (ss_one (ss_if (st_cmp (dop_ne hu) (sb_of (sr_callB (dcall_repr hu hgd) (by rfl) T.n_repr bb_repr (sbs_cons (sb_name 3) sbs_nil))) (sb_name 4) (nomark _)) (ss_one (ss_ret sr_bl)) ss_nil))))))
    (ss_one (ss_ret sr_bl))))
theorem all_mk {l : PySem.W.OpenLaw} {w : World} {K : PySem.W.Frag} {h : Heap} {mg : Str → Option Value} {fa : Addr} (X : K.In h) (G : h.Ns mainGlobals mg) (hfa : mg "law" = some (.ref fa))
    {f0 : Addr} {od0 an0 : Option Addr} {sl0 : Array (Option Value)} {oc0 kV0 dc0 pm0 cd0 ct0 : Value}
    {f1 : Addr} {od1 an1 : Option Addr} {sl1 : Array (Option Value)} {oc1 kV1 dc1 pm1 cd1 ct1 : Value}
    {f2 : Addr} {od2 an2 : Option Addr} {sl2 : Array (Option Value)} {oc2 kV2 dc2 pm2 cd2 ct2 : Value}
    {f3 : Addr} {od3 an3 : Option Addr} {sl3 : Array (Option Value)} {oc3 kV3 dc3 pm3 cd3 ct3 : Value}
    {f4 : Addr} {od4 an4 : Option Addr} {sl4 : Array (Option Value)} {oc4 kV4 dc4 pm4 cd4 ct4 : Value}
    {f5 : Addr} {od5 an5 : Option Addr} {sl5 : Array (Option Value)} {oc5 kV5 dc5 pm5 cd5 ct5 : Value}
    {f6 : Addr} {od6 an6 : Option Addr} {sl6 : Array (Option Value)} {oc6 kV6 dc6 pm6 cd6 ct6 : Value}
    {f7 : Addr} {od7 an7 : Option Addr} {sl7 : Array (Option Value)} {oc7 kV7 dc7 pm7 cd7 ct7 : Value}
    {f8 : Addr} {od8 an8 : Option Addr} {sl8 : Array (Option Value)} {oc8 kV8 dc8 pm8 cd8 ct8 : Value}
    {f9 : Addr} {od9 an9 : Option Addr} {sl9 : Array (Option Value)} {oc9 kV9 dc9 pm9 cd9 ct9 : Value}
    {f10 : Addr} {od10 an10 : Option Addr} {sl10 : Array (Option Value)} {oc10 kV10 dc10 pm10 cd10 ct10 : Value}
    {f11 : Addr} {od11 an11 : Option Addr} {sl11 : Array (Option Value)} {oc11 kV11 dc11 pm11 cd11 ct11 : Value}
    {f12 : Addr} {od12 an12 : Option Addr} {sl12 : Array (Option Value)} {oc12 kV12 dc12 pm12 cd12 ct12 : Value}
    {f13 : Addr} {od13 an13 : Option Addr} {sl13 : Array (Option Value)} {oc13 kV13 dc13 pm13 cd13 ct13 : Value}
    {f14 : Addr} {od14 an14 : Option Addr} {sl14 : Array (Option Value)} {oc14 kV14 dc14 pm14 cd14 ct14 : Value}
    {f15 : Addr} {od15 an15 : Option Addr} {sl15 : Array (Option Value)} {oc15 kV15 dc15 pm15 cd15 ct15 : Value}
    {f16 : Addr} {od16 an16 : Option Addr} {sl16 : Array (Option Value)} {oc16 kV16 dc16 pm16 cd16 ct16 : Value}
    {f17 : Addr} {od17 an17 : Option Addr} {sl17 : Array (Option Value)} {oc17 kV17 dc17 pm17 cd17 ct17 : Value}
    {f18 : Addr} {od18 an18 : Option Addr} {sl18 : Array (Option Value)} {oc18 kV18 dc18 pm18 cd18 ct18 : Value}
    {f19 : Addr} {od19 an19 : Option Addr} {sl19 : Array (Option Value)} {oc19 kV19 dc19 pm19 cd19 ct19 : Value}
    (a0 : PySem.W.nsIn K mainGlobals "other_roads" = some (some (.ref f0))) (l0 : K.lookup f0 = some ⟨oc0, od0, .func (PySem.W.fnOf "other_roads" "other_roads" (defArgs s_other_roads) (defBody s_other_roads) (defScope s_other_roads) .none kV0 dc0 pm0 an0 cd0 ct0), sl0⟩) (c0 : PySem.W.codeIn K cd0 "other_roads" = true) (k0 : PySem.W.keepIn K (.ref f0) = true)
    (a1 : PySem.W.nsIn K mainGlobals "ends_of" = some (some (.ref f1))) (l1 : K.lookup f1 = some ⟨oc1, od1, .func (PySem.W.fnOf "ends_of" "ends_of" (defArgs s_ends_of) (defBody s_ends_of) (defScope s_ends_of) .none kV1 dc1 pm1 an1 cd1 ct1), sl1⟩) (c1 : PySem.W.codeIn K cd1 "ends_of" = true) (k1 : PySem.W.keepIn K (.ref f1) = true)
    (a2 : PySem.W.nsIn K mainGlobals "beyond" = some (some (.ref f2))) (l2 : K.lookup f2 = some ⟨oc2, od2, .func (PySem.W.fnOf "beyond" "beyond" (defArgs s_beyond) (defBody s_beyond) (defScope s_beyond) .none kV2 dc2 pm2 an2 cd2 ct2), sl2⟩) (c2 : PySem.W.codeIn K cd2 "beyond" = true) (k2 : PySem.W.keepIn K (.ref f2) = true)
    (a3 : PySem.W.nsIn K mainGlobals "ways_on" = some (some (.ref f3))) (l3 : K.lookup f3 = some ⟨oc3, od3, .func (PySem.W.fnOf "ways_on" "ways_on" (defArgs s_ways_on) (defBody s_ways_on) (defScope s_ways_on) .none kV3 dc3 pm3 an3 cd3 ct3), sl3⟩) (c3 : PySem.W.codeIn K cd3 "ways_on" = true) (k3 : PySem.W.keepIn K (.ref f3) = true)
    (a4 : PySem.W.nsIn K mainGlobals "detours_by" = some (some (.ref f4))) (l4 : K.lookup f4 = some ⟨oc4, od4, .func (PySem.W.fnOf "detours_by" "detours_by" (defArgs s_detours_by) (defBody s_detours_by) (defScope s_detours_by) .none kV4 dc4 pm4 an4 cd4 ct4), sl4⟩) (c4 : PySem.W.codeIn K cd4 "detours_by" = true) (k4 : PySem.W.keepIn K (.ref f4) = true)
    (a5 : PySem.W.nsIn K mainGlobals "detours" = some (some (.ref f5))) (l5 : K.lookup f5 = some ⟨oc5, od5, .func (PySem.W.fnOf "detours" "detours" (defArgs s_detours) (defBody s_detours) (defScope s_detours) .none kV5 dc5 pm5 an5 cd5 ct5), sl5⟩) (c5 : PySem.W.codeIn K cd5 "detours" = true) (k5 : PySem.W.keepIn K (.ref f5) = true)
    (a6 : PySem.W.nsIn K mainGlobals "sides" = some (some (.ref f6))) (l6 : K.lookup f6 = some ⟨oc6, od6, .func (PySem.W.fnOf "sides" "sides" (defArgs s_sides) (defBody s_sides) (defScope s_sides) .none kV6 dc6 pm6 an6 cd6 ct6), sl6⟩) (c6 : PySem.W.codeIn K cd6 "sides" = true) (k6 : PySem.W.keepIn K (.ref f6) = true)
    (a7 : PySem.W.nsIn K mainGlobals "crossing" = some (some (.ref f7))) (l7 : K.lookup f7 = some ⟨oc7, od7, .func (PySem.W.fnOf "crossing" "crossing" (defArgs s_crossing) (defBody s_crossing) (defScope s_crossing) .none kV7 dc7 pm7 an7 cd7 ct7), sl7⟩) (c7 : PySem.W.codeIn K cd7 "crossing" = true) (k7 : PySem.W.keepIn K (.ref f7) = true)
    (a8 : PySem.W.nsIn K mainGlobals "_law_open" = some (some (.ref f8))) (l8 : K.lookup f8 = some ⟨oc8, od8, .func (PySem.W.fnOf "_law_open" "_law_open" (defArgs s__law_open) (defBody s__law_open) (defScope s__law_open) .none kV8 dc8 pm8 an8 cd8 ct8), sl8⟩) (c8 : PySem.W.codeIn K cd8 "_law_open" = true) (k8 : PySem.W.keepIn K (.ref f8) = true)
    (a9 : PySem.W.nsIn K mainGlobals "_law_spread" = some (some (.ref f9))) (l9 : K.lookup f9 = some ⟨oc9, od9, .func (PySem.W.fnOf "_law_spread" "_law_spread" (defArgs s__law_spread) (defBody s__law_spread) (defScope s__law_spread) .none kV9 dc9 pm9 an9 cd9 ct9), sl9⟩) (c9 : PySem.W.codeIn K cd9 "_law_spread" = true) (k9 : PySem.W.keepIn K (.ref f9) = true)
    (a10 : PySem.W.nsIn K mainGlobals "_law_take" = some (some (.ref f10))) (l10 : K.lookup f10 = some ⟨oc10, od10, .func (PySem.W.fnOf "_law_take" "_law_take" (defArgs s__law_take) (defBody s__law_take) (defScope s__law_take) .none kV10 dc10 pm10 an10 cd10 ct10), sl10⟩) (c10 : PySem.W.codeIn K cd10 "_law_take" = true) (k10 : PySem.W.keepIn K (.ref f10) = true)
    (a11 : PySem.W.nsIn K mainGlobals "_law_same" = some (some (.ref f11))) (l11 : K.lookup f11 = some ⟨oc11, od11, .func (PySem.W.fnOf "_law_same" "_law_same" (defArgs s__law_same) (defBody s__law_same) (defScope s__law_same) .none kV11 dc11 pm11 an11 cd11 ct11), sl11⟩) (c11 : PySem.W.codeIn K cd11 "_law_same" = true) (k11 : PySem.W.keepIn K (.ref f11) = true)
    (a12 : PySem.W.nsIn K mainGlobals "_law_one_of" = some (some (.ref f12))) (l12 : K.lookup f12 = some ⟨oc12, od12, .func (PySem.W.fnOf "_law_one_of" "_law_one_of" (defArgs s__law_one_of) (defBody s__law_one_of) (defScope s__law_one_of) .none kV12 dc12 pm12 an12 cd12 ct12), sl12⟩) (c12 : PySem.W.codeIn K cd12 "_law_one_of" = true) (k12 : PySem.W.keepIn K (.ref f12) = true)
    (a13 : PySem.W.nsIn K mainGlobals "_law_draw_road" = some (some (.ref f13))) (l13 : K.lookup f13 = some ⟨oc13, od13, .func (PySem.W.fnOf "_law_draw_road" "_law_draw_road" (defArgs s__law_draw_road) (defBody s__law_draw_road) (defScope s__law_draw_road) .none kV13 dc13 pm13 an13 cd13 ct13), sl13⟩) (c13 : PySem.W.codeIn K cd13 "_law_draw_road" = true) (k13 : PySem.W.keepIn K (.ref f13) = true)
    (a14 : PySem.W.nsIn K mainGlobals "_law_draw_web" = some (some (.ref f14))) (l14 : K.lookup f14 = some ⟨oc14, od14, .func (PySem.W.fnOf "_law_draw_web" "_law_draw_web" (defArgs s__law_draw_web) (defBody s__law_draw_web) (defScope s__law_draw_web) .none kV14 dc14 pm14 an14 cd14 ct14), sl14⟩) (c14 : PySem.W.codeIn K cd14 "_law_draw_web" = true) (k14 : PySem.W.keepIn K (.ref f14) = true)
    (a15 : PySem.W.nsIn K mainGlobals "_law_subsets" = some (some (.ref f15))) (l15 : K.lookup f15 = some ⟨oc15, od15, .func (PySem.W.fnOf "_law_subsets" "_law_subsets" (defArgs s__law_subsets) (defBody s__law_subsets) (defScope s__law_subsets) .none kV15 dc15 pm15 an15 cd15 ct15), sl15⟩) (c15 : PySem.W.codeIn K cd15 "_law_subsets" = true) (k15 : PySem.W.keepIn K (.ref f15) = true)
    (a16 : PySem.W.nsIn K mainGlobals "_law_all_sides" = some (some (.ref f16))) (l16 : K.lookup f16 = some ⟨oc16, od16, .func (PySem.W.fnOf "_law_all_sides" "_law_all_sides" (defArgs s__law_all_sides) (defBody s__law_all_sides) (defScope s__law_all_sides) .none kV16 dc16 pm16 an16 cd16 ct16), sl16⟩) (c16 : PySem.W.codeIn K cd16 "_law_all_sides" = true) (k16 : PySem.W.keepIn K (.ref f16) = true)
    (a17 : PySem.W.nsIn K mainGlobals "_law_all_detours" = some (some (.ref f17))) (l17 : K.lookup f17 = some ⟨oc17, od17, .func (PySem.W.fnOf "_law_all_detours" "_law_all_detours" (defArgs s__law_all_detours) (defBody s__law_all_detours) (defScope s__law_all_detours) .none kV17 dc17 pm17 an17 cd17 ct17), sl17⟩) (c17 : PySem.W.codeIn K cd17 "_law_all_detours" = true) (k17 : PySem.W.keepIn K (.ref f17) = true)
    (a18 : PySem.W.nsIn K mainGlobals "_law_cross" = some (some (.ref f18))) (l18 : K.lookup f18 = some ⟨oc18, od18, .func (PySem.W.fnOf "_law_cross" "_law_cross" (defArgs s__law_cross) (defBody s__law_cross) (defScope s__law_cross) .none kV18 dc18 pm18 an18 cd18 ct18), sl18⟩) (c18 : PySem.W.codeIn K cd18 "_law_cross" = true) (k18 : PySem.W.keepIn K (.ref f18) = true)
    (a19 : PySem.W.nsIn K mainGlobals "law" = some (some (.ref f19))) (l19 : K.lookup f19 = some ⟨oc19, od19, .func (PySem.W.fnOf "law" "law" (defArgs s_law) (defBody s_law) (defScope s_law) .none kV19 dc19 pm19 an19 cd19 ct19), sl19⟩) (c19 : PySem.W.codeIn K cd19 "law" = true) (k19 : PySem.W.keepIn K (.ref f19) = true)
    (z_bool : PySem.W.nsIn K mainGlobals "bool" = some none)
    (z_enumerate : PySem.W.nsIn K mainGlobals "enumerate" = some none)
    (z_int : PySem.W.nsIn K mainGlobals "int" = some none)
    (z_isinstance : PySem.W.nsIn K mainGlobals "isinstance" = some none)
    (z_len : PySem.W.nsIn K mainGlobals "len" = some none)
    (z_list : PySem.W.nsIn K mainGlobals "list" = some none)
    (z_max : PySem.W.nsIn K mainGlobals "max" = some none)
    (z_min : PySem.W.nsIn K mainGlobals "min" = some none)
    (z_range : PySem.W.nsIn K mainGlobals "range" = some none)
    (z_repr : PySem.W.nsIn K mainGlobals "repr" = some none)
    (z_sorted : PySem.W.nsIn K mainGlobals "sorted" = some none)
    (z_str : PySem.W.nsIn K mainGlobals "str" = some none)
    (z_tuple : PySem.W.nsIn K mainGlobals "tuple" = some none)
    (z_zip : PySem.W.nsIn K mainGlobals "zip" = some none) :
    ∃ fd : FuncData, (∀ (s : Shared) (v : Value), BindsTo s fd ⟨[v], []⟩ [("script", v)]) ∧ ∀ base : Heap, FnG l.prog w K mg base CX0 13 fa fd ["script"] (spF K 1 m_law) := by
  have e := hfa.symm.trans (PySem.W.mg_of X G a19)
  cases e
  exact ⟨PySem.W.fnOf "law" "law" (defArgs s_law) (defBody s_law) (defScope s_law) .none kV19 dc19 pm19 an19 cd19 ct19, fun s v => .of_eq rfl, fun base => ok_law (T :=
    { f_other_roads := f0, fd_other_roads := _, F_other_roads := fun_mk (st := s_other_roads) l0 c0 k0, b_other_roads := (fun_mk (st := s_other_roads) l0 c0 k0).binds fun _ _ _ _ _ _ us hl => match us, hl with | [_, _], _ => rfl, g_other_roads := PySem.W.mg_of X G a0,
      f_ends_of := f1, fd_ends_of := _, F_ends_of := fun_mk (st := s_ends_of) l1 c1 k1, b_ends_of := (fun_mk (st := s_ends_of) l1 c1 k1).binds fun _ _ _ _ _ _ us hl => match us, hl with | [_, _], _ => rfl, g_ends_of := PySem.W.mg_of X G a1,
      f_beyond := f2, fd_beyond := _, F_beyond := fun_mk (st := s_beyond) l2 c2 k2, b_beyond := (fun_mk (st := s_beyond) l2 c2 k2).binds fun _ _ _ _ _ _ us hl => match us, hl with | [_, _, _], _ => rfl, g_beyond := PySem.W.mg_of X G a2,
      f_ways_on := f3, fd_ways_on := _, F_ways_on := fun_mk (st := s_ways_on) l3 c3 k3, b_ways_on := (fun_mk (st := s_ways_on) l3 c3 k3).binds fun _ _ _ _ _ _ us hl => match us, hl with | [_, _, _, _, _], _ => rfl, g_ways_on := PySem.W.mg_of X G a3,
      f_detours_by := f4, fd_detours_by := _, F_detours_by := fun_mk (st := s_detours_by) l4 c4 k4, b_detours_by := (fun_mk (st := s_detours_by) l4 c4 k4).binds fun _ _ _ _ _ _ us hl => match us, hl with | [_, _, _], _ => rfl, g_detours_by := PySem.W.mg_of X G a4,
      f_detours := f5, fd_detours := _, F_detours := fun_mk (st := s_detours) l5 c5 k5, b_detours := (fun_mk (st := s_detours) l5 c5 k5).binds fun _ _ _ _ _ _ us hl => match us, hl with | [_, _], _ => rfl, g_detours := PySem.W.mg_of X G a5,
      f_sides := f6, fd_sides := _, F_sides := fun_mk (st := s_sides) l6 c6 k6, b_sides := (fun_mk (st := s_sides) l6 c6 k6).binds fun _ _ _ _ _ _ us hl => match us, hl with | [_, _], _ => rfl, g_sides := PySem.W.mg_of X G a6,
      f_crossing := f7, fd_crossing := _, F_crossing := fun_mk (st := s_crossing) l7 c7 k7, b_crossing := (fun_mk (st := s_crossing) l7 c7 k7).binds fun _ _ _ _ _ _ us hl => match us, hl with | [_, _], _ => rfl, g_crossing := PySem.W.mg_of X G a7,
      f__law_open := f8, fd__law_open := _, F__law_open := fun_mk (st := s__law_open) l8 c8 k8, b__law_open := (fun_mk (st := s__law_open) l8 c8 k8).binds fun _ _ _ _ _ _ us hl => match us, hl with | [_], _ => rfl, g__law_open := PySem.W.mg_of X G a8,
      f__law_spread := f9, fd__law_spread := _, F__law_spread := fun_mk (st := s__law_spread) l9 c9 k9, b__law_spread := (fun_mk (st := s__law_spread) l9 c9 k9).binds fun _ _ _ _ _ _ us hl => match us, hl with | [_, _], _ => rfl, g__law_spread := PySem.W.mg_of X G a9,
      f__law_take := f10, fd__law_take := _, F__law_take := fun_mk (st := s__law_take) l10 c10 k10, b__law_take := (fun_mk (st := s__law_take) l10 c10 k10).binds fun _ _ _ _ _ _ us hl => match us, hl with | [_, _], _ => rfl, g__law_take := PySem.W.mg_of X G a10,
      f__law_same := f11, fd__law_same := _, F__law_same := fun_mk (st := s__law_same) l11 c11 k11, b__law_same := (fun_mk (st := s__law_same) l11 c11 k11).binds fun _ _ _ _ _ _ us hl => match us, hl with | [_, _], _ => rfl, g__law_same := PySem.W.mg_of X G a11,
      f__law_one_of := f12, fd__law_one_of := _, F__law_one_of := fun_mk (st := s__law_one_of) l12 c12 k12, b__law_one_of := (fun_mk (st := s__law_one_of) l12 c12 k12).binds fun _ _ _ _ _ _ us hl => match us, hl with | [_, _], _ => rfl, g__law_one_of := PySem.W.mg_of X G a12,
      f__law_draw_road := f13, fd__law_draw_road := _, F__law_draw_road := fun_mk (st := s__law_draw_road) l13 c13 k13, b__law_draw_road := (fun_mk (st := s__law_draw_road) l13 c13 k13).binds fun _ _ _ _ _ _ us hl => match us, hl with | [_, _, _, _], _ => rfl, g__law_draw_road := PySem.W.mg_of X G a13,
      f__law_draw_web := f14, fd__law_draw_web := _, F__law_draw_web := fun_mk (st := s__law_draw_web) l14 c14 k14, b__law_draw_web := (fun_mk (st := s__law_draw_web) l14 c14 k14).binds fun _ _ _ _ _ _ us hl => match us, hl with | [_, _, _, _], _ => rfl, g__law_draw_web := PySem.W.mg_of X G a14,
      f__law_subsets := f15, fd__law_subsets := _, F__law_subsets := fun_mk (st := s__law_subsets) l15 c15 k15, b__law_subsets := (fun_mk (st := s__law_subsets) l15 c15 k15).binds fun _ _ _ _ _ _ us hl => match us, hl with | [_, _], _ => rfl, g__law_subsets := PySem.W.mg_of X G a15,
      f__law_all_sides := f16, fd__law_all_sides := _, F__law_all_sides := fun_mk (st := s__law_all_sides) l16 c16 k16, b__law_all_sides := (fun_mk (st := s__law_all_sides) l16 c16 k16).binds fun _ _ _ _ _ _ us hl => match us, hl with | [_, _], _ => rfl, g__law_all_sides := PySem.W.mg_of X G a16,
      f__law_all_detours := f17, fd__law_all_detours := _, F__law_all_detours := fun_mk (st := s__law_all_detours) l17 c17 k17, b__law_all_detours := (fun_mk (st := s__law_all_detours) l17 c17 k17).binds fun _ _ _ _ _ _ us hl => match us, hl with | [_, _], _ => rfl, g__law_all_detours := PySem.W.mg_of X G a17,
      f__law_cross := f18, fd__law_cross := _, F__law_cross := fun_mk (st := s__law_cross) l18 c18 k18, b__law_cross := (fun_mk (st := s__law_cross) l18 c18 k18).binds fun _ _ _ _ _ _ us hl => match us, hl with | [_, _], _ => rfl, g__law_cross := PySem.W.mg_of X G a18,
      f_law := fa, fd_law := _, F_law := fun_mk (st := s_law) l19 c19 k19, b_law := (fun_mk (st := s_law) l19 c19 k19).binds fun _ _ _ _ _ _ us hl => match us, hl with | [_], _ => rfl, g_law := PySem.W.mg_of X G a19,
      n_bool := PySem.W.mg_none_of X G z_bool,
      n_enumerate := PySem.W.mg_none_of X G z_enumerate,
      n_int := PySem.W.mg_none_of X G z_int,
      n_isinstance := PySem.W.mg_none_of X G z_isinstance,
      n_len := PySem.W.mg_none_of X G z_len,
      n_list := PySem.W.mg_none_of X G z_list,
      n_max := PySem.W.mg_none_of X G z_max,
      n_min := PySem.W.mg_none_of X G z_min,
      n_range := PySem.W.mg_none_of X G z_range,
      n_repr := PySem.W.mg_none_of X G z_repr,
      n_sorted := PySem.W.mg_none_of X G z_sorted,
      n_str := PySem.W.mg_none_of X G z_str,
      n_tuple := PySem.W.mg_none_of X G z_tuple,
      n_zip := PySem.W.mg_none_of X G z_zip })⟩
end G

namespace G
open PySem PySem.Spec L2 Pv
/-- the pen: n takes at most were made -/
structure PenOk (n : Nat) (c : Cell) : Prop where
  ex : ∃ (cs : List Int) (at_ : Nat) (cur : Int), c = .d (.lst [.lst (cs.map .int), .int at_, .int cur]) ∧ at_ ≤ n ∧ 0 ≤ cur
theorem PenOk.mono {n m : Nat} {c : Cell} (h : PenOk n c) (hm : n ≤ m) : PenOk m c := by
  obtain ⟨cs, a, cur, h1, h2, h3⟩ := h.ex
  exact ⟨cs, a, cur, h1, by omega, h3⟩
theorem smallI_of {i : Int} (h1 : -(2 ^ 64) < i) (h2 : i < 2 ^ 64) : smallI i = true := by simp [smallI]; omega
def primesL : List Int := [2147483629, 2147483587, 2147483579, 2147483563, 2147483549, 2147483543, 2147483497, 2147483489, 2147483477, 2147483423, 2147483399, 2147483353, 2147483323]
theorem prime_at (i : Int) : ∃ p : Int, dIx (.lst [.int 2147483629, .int 2147483587, .int 2147483579, .int 2147483563, .int 2147483549, .int 2147483543, .int 2147483497, .int 2147483489, .int 2147483477, .int 2147483423, .int 2147483399, .int 2147483353, .int 2147483323]) (.int (i % 13)) = some (.fro (.int p)) ∧ 0 < p ∧ p < 2147483648 := by
  have h1 : 0 ≤ i % 13 := Int.emod_nonneg _ (by decide)
  have h2 : i % 13 < 13 := Int.emod_lt_of_pos _ (by decide)
  have h3 : i % 13 = ((i % 13).toNat : Int) := by omega
  generalize hk : (i % 13).toNat = k at h3
  have h4 : k < 13 := by omega
  rw [h3]
  match k, h4 with
  | 0, _ => exact ⟨_, rfl, by decide, by decide⟩
  | 1, _ => exact ⟨_, rfl, by decide, by decide⟩
  | 2, _ => exact ⟨_, rfl, by decide, by decide⟩
  | 3, _ => exact ⟨_, rfl, by decide, by decide⟩
  | 4, _ => exact ⟨_, rfl, by decide, by decide⟩
  | 5, _ => exact ⟨_, rfl, by decide, by decide⟩
  | 6, _ => exact ⟨_, rfl, by decide, by decide⟩
  | 7, _ => exact ⟨_, rfl, by decide, by decide⟩
  | 8, _ => exact ⟨_, rfl, by decide, by decide⟩
  | 9, _ => exact ⟨_, rfl, by decide, by decide⟩
  | 10, _ => exact ⟨_, rfl, by decide, by decide⟩
  | 11, _ => exact ⟨_, rfl, by decide, by decide⟩
  | 12, _ => exact ⟨_, rfl, by decide, by decide⟩
theorem mul_bd {a b A B : Int} (h0 : 0 ≤ a) (h1 : a ≤ A) (k0 : 0 ≤ b) (k1 : b ≤ B) : 0 ≤ a * b ∧ a * b ≤ A * B :=
  ⟨Int.mul_nonneg h0 k0, Int.le_trans (Int.mul_le_mul_of_nonneg_right h1 k0) (Int.mul_le_mul_of_nonneg_left k1 (by omega))⟩
theorem v_spread0 {cell at_ p1 p2 p3 one two three : Int} {st : List Cell} (hc : ¬ (1000000000000000000 : Int) ≤ cell)
    (h1 : dIx (.lst [.int 2147483629, .int 2147483587, .int 2147483579, .int 2147483563, .int 2147483549, .int 2147483543, .int 2147483497, .int 2147483489, .int 2147483477, .int 2147483423, .int 2147483399, .int 2147483353, .int 2147483323]) (.int (at_ % 13)) = some (.fro (.int p1)))
    (h2 : dIx (.lst [.int 2147483629, .int 2147483587, .int 2147483579, .int 2147483563, .int 2147483549, .int 2147483543, .int 2147483497, .int 2147483489, .int 2147483477, .int 2147483423, .int 2147483399, .int 2147483353, .int 2147483323]) (.int ((at_ + 5) % 13)) = some (.fro (.int p2)))
    (h3 : dIx (.lst [.int 2147483629, .int 2147483587, .int 2147483579, .int 2147483563, .int 2147483549, .int 2147483543, .int 2147483497, .int 2147483489, .int 2147483477, .int 2147483423, .int 2147483399, .int 2147483353, .int 2147483323]) (.int ((at_ + 7) % 13)) = some (.fro (.int p3)))
    (a1 : 0 < p1) (a2 : 0 < p2) (a3 : 0 < p3) (k1 : smallI (cell % 1000000007) = true) (k3 : smallI (cell % 1000000007 * (2 * at_ + 69069) + at_ * 40503 + 977) = true) (ho : (cell % 1000000007 * (2 * at_ + 69069) + at_ * 40503 + 977) ^ 3 % p1 = one)
    (k4 : smallI one = true) (k5 : smallI (one * (at_ + 3) + cell % 65537 + 5) = true) (ht : (one * (at_ + 3) + cell % 65537 + 5) ^ 5 % p2 = two) (k6 : smallI (two + one % 1009 + at_) = true) (hh : (two + one % 1009 + at_) ^ 3 % p3 = three) :
    m__law_spread [.int cell, .int at_] st = some (.fro (.int ((one * 2147483647 + two) * 2147483647 + three)), st) := by
  have e10 : smallI 10 = true := by decide
  have s2 : smallI 2 = true := by decide
  have k2 : smallI 40503 = true := by decide
  have k7 : smallI 2147483647 = true := by decide
  simp [m__law_spread, ev__law_spread, dAdd_lst, e10, hc, h1, h2, h3, s2, k1, k2, k3, k4, k5, k6, k7, ho, ht, hh, a1, a2, a3]
theorem v_spread (cell : Int) (at_ : Nat) (ha : at_ ≤ 1000000) (st : List Cell) : ∃ r : Int, 0 ≤ r ∧ m__law_spread [.int cell, .int at_] st = some (.fro (.int r), st) := by
  have e10 : smallI 10 = true := by decide
  by_cases hc : (1000000000000000000 : Int) ≤ cell
  · exact ⟨cell, by omega, by simp [m__law_spread, ev__law_spread, e10, hc]⟩
  · obtain ⟨p1, h1, a1, b1⟩ := prime_at at_
    obtain ⟨p2, h2, a2, b2⟩ := prime_at (at_ + 5)
    obtain ⟨p3, h3, a3, b3⟩ := prime_at (at_ + 7)
    have c0 := Int.emod_nonneg cell (b := 1000000007) (by decide)
    have c1 := Int.emod_lt_of_pos cell (b := 1000000007) (by decide)
    have w0 := Int.emod_nonneg cell (b := 65537) (by decide)
    have w1 := Int.emod_lt_of_pos cell (b := 65537) (by decide)
    obtain ⟨d0, d1⟩ := mul_bd (b := 2 * (at_ : Int) + 69069) (A := 1000000007) (B := 2069069) c0 (by omega) (by omega) (by omega)
    have k1 : smallI (cell % 1000000007) = true := smallI_of (by omega) (by omega)
    have k3 : smallI (cell % 1000000007 * (2 * (at_ : Int) + 69069) + (at_ : Int) * 40503 + 977) = true := smallI_of (by omega) (by omega)
    obtain ⟨one, ho⟩ : ∃ one : Int, (cell % 1000000007 * (2 * (at_ : Int) + 69069) + (at_ : Int) * 40503 + 977) ^ 3 % p1 = one := ⟨_, rfl⟩
    have o0 : 0 ≤ one := ho ▸ Int.emod_nonneg _ (by omega)
    have o1 : one < 2147483648 := by have := Int.emod_lt_of_pos ((cell % 1000000007 * (2 * (at_ : Int) + 69069) + (at_ : Int) * 40503 + 977) ^ 3) a1; omega
    obtain ⟨f0, f1⟩ := mul_bd (b := (at_ : Int) + 3) (A := 2147483648) (B := 1000003) o0 (by omega) (by omega) (by omega)
    have k4 : smallI one = true := smallI_of (by omega) (by omega)
    have k5 : smallI (one * ((at_ : Int) + 3) + cell % 65537 + 5) = true := smallI_of (by omega) (by omega)
    obtain ⟨two, ht⟩ : ∃ two : Int, (one * ((at_ : Int) + 3) + cell % 65537 + 5) ^ 5 % p2 = two := ⟨_, rfl⟩
    have t0 : 0 ≤ two := ht ▸ Int.emod_nonneg _ (by omega)
    have t1 : two < 2147483648 := by have := Int.emod_lt_of_pos ((one * ((at_ : Int) + 3) + cell % 65537 + 5) ^ 5) a2; omega
    have u0 := Int.emod_nonneg one (b := 1009) (by decide)
    have u1 := Int.emod_lt_of_pos one (b := 1009) (by decide)
    have k6 : smallI (two + one % 1009 + (at_ : Int)) = true := smallI_of (by omega) (by omega)
    obtain ⟨three, hh⟩ : ∃ three : Int, (two + one % 1009 + (at_ : Int)) ^ 3 % p3 = three := ⟨_, rfl⟩
    have v0 : 0 ≤ three := hh ▸ Int.emod_nonneg _ (by omega)
    refine ⟨(one * 2147483647 + two) * 2147483647 + three, by omega, ?_⟩
    exact v_spread0 hc h1 h2 h3 a1 a2 a3 k1 k3 ho k4 k5 ht k6 hh
theorem get_ints {cs : List Int} {i : Nat} (h : i < cs.length) : (cs.map D.int)[i]? = some (.int cs[i]) := by simp [h]
theorem take0 {ks : List D} {t cur amount r t' : Int} {x : Int} (hl : cur < amount) (h1 : 0 < amount) (h64 : amount < 18446744073709551616) (hA : t < (ks.length : Int)) (hx : dIx (.lst ks) (.int t) = some (.fro (.int x))) (ht : t + 1 = t')
    (hr : m__law_spread [.int x, .int t] [.d (.lst [.lst ks, .int t', .int cur])] = some (.fro (.int r), [.d (.lst [.lst ks, .int t', .int cur])])) :
    m__law_take [.hd 0, .int amount] [.d (.lst [.lst ks, .int t, .int cur])] = some (.fro (.int (r % amount)), [.d (.lst [.lst ks, .int t', .int (r / amount)])]) := by
  simp [m__law_take, ev__law_take, hl, h1, h64, hA, hx, ht, hr]
theorem take1 {ks : List D} {t cur amount r t' k : Int} {x : Int} (hl : cur < amount) (h1 : 0 < amount) (h64 : amount < 18446744073709551616) (hA : ¬ t < (ks.length : Int)) (hB : 0 < ks.length) (hk : (t * 5 + 3) % (ks.length : Int) = k) (hx : dIx (.lst ks) (.int k) = some (.fro (.int x))) (ht : t + 1 = t') (hp : 0 < 100000000000000000 + t)
    (hr : m__law_spread [.int (x % (100000000000000000 + t)), .int t] [.d (.lst [.lst ks, .int t', .int cur])] = some (.fro (.int r), [.d (.lst [.lst ks, .int t', .int cur])])) :
    m__law_take [.hd 0, .int amount] [.d (.lst [.lst ks, .int t, .int cur])] = some (.fro (.int (r % amount)), [.d (.lst [.lst ks, .int t', .int (r / amount)])]) := by
  have e10 : smallI 10 = true := by decide
  have s5 : smallI 5 = true := by decide
  have hB' : 0 < (ks.length : Int) := by omega
  simp [m__law_take, ev__law_take, hl, h1, h64, hA, hB, hB', hk, hx, ht, hr, e10, s5, hp]
theorem take2 {t cur amount r t' : Int} (hl : cur < amount) (h1 : 0 < amount) (h64 : amount < 18446744073709551616) (hA : ¬ t < 0) (ht : t + 1 = t')
    (hr : m__law_spread [.int 0, .int t] [.d (.lst [.lst [], .int t', .int cur])] = some (.fro (.int r), [.d (.lst [.lst [], .int t', .int cur])])) :
    m__law_take [.hd 0, .int amount] [.d (.lst [.lst [], .int t, .int cur])] = some (.fro (.int (r % amount)), [.d (.lst [.lst [], .int t', .int (r / amount)])]) := by
  simp [m__law_take, ev__law_take, hl, h1, h64, hA, ht, hr]
theorem take3 {ks : List D} {t cur amount : Int} (hl : ¬ cur < amount) (h1 : 0 < amount) (h64 : amount < 18446744073709551616) :
    m__law_take [.hd 0, .int amount] [.d (.lst [.lst ks, .int t, .int cur])] = some (.fro (.int (cur % amount)), [.d (.lst [.lst ks, .int t, .int (cur / amount)])]) := by
  simp [m__law_take, ev__law_take, hl, h1, h64]
/-- one take -/
theorem v_take {n : Nat} {c : Cell} (h : PenOk n c) (hn : n ≤ 999999) (amount : Int) (h1 : 0 < amount) (h2 : amount ≤ 1000000) : ∃ (v : Int) (c' : Cell), m__law_take [.hd 0, .int amount] [c] = some (.fro (.int v), [c']) ∧ 0 ≤ v ∧ v < amount ∧ PenOk (n + 1) c' := by
  obtain ⟨cs, at_, cur, rfl, ha, hc⟩ := h.ex
  have h64 : amount < 18446744073709551616 := by omega
  have hll : ((cs.map D.int).length : Int) = (cs.length : Int) := by simp
  by_cases hl : cur < amount
  · have e1 : (at_ : Int) + 1 = ((at_ + 1 : Nat) : Int) := rfl
    have fin : ∀ r : Int, 0 ≤ r → m__law_take [.hd 0, .int amount] [.d (.lst [.lst (cs.map .int), .int at_, .int cur])] = some (.fro (.int (r % amount)), [.d (.lst [.lst (cs.map .int), .int ((at_ + 1 : Nat) : Int), .int (r / amount)])]) →
      ∃ (v : Int) (c' : Cell), m__law_take [.hd 0, .int amount] [.d (.lst [.lst (cs.map .int), .int at_, .int cur])] = some (.fro (.int v), [c']) ∧ 0 ≤ v ∧ v < amount ∧ PenOk (n + 1) c' := fun r r0 e =>
      ⟨_, _, e, Int.emod_nonneg _ (by omega), Int.emod_lt_of_pos _ h1, ⟨cs, at_ + 1, _, rfl, by omega, Int.ediv_nonneg r0 (by omega)⟩⟩
    by_cases hA : at_ < cs.length
    · obtain ⟨r, r0, hr⟩ := v_spread cs[at_] at_ (by omega) [.d (.lst [.lst (cs.map .int), .int ((at_ + 1 : Nat) : Int), .int cur])]
      exact fin r r0 (take0 hl h1 h64 (by rw [hll]; omega) (dIx_lst (get_ints hA)) e1 hr)
    · by_cases hB : 0 < cs.length
      · have m0 := Int.emod_nonneg ((at_ : Int) * 5 + 3) (b := (cs.length : Int)) (by omega)
        have m1 := Int.emod_lt_of_pos ((at_ : Int) * 5 + 3) (b := (cs.length : Int)) (by omega)
        obtain ⟨k, hk⟩ : ∃ k : Nat, ((at_ : Int) * 5 + 3) % (cs.length : Int) = (k : Int) := ⟨_, (Int.toNat_of_nonneg m0).symm⟩
        have hkl : k < cs.length := by omega
        obtain ⟨r, r0, hr⟩ := v_spread (cs[k] % (100000000000000000 + (at_ : Int))) at_ (by omega) [.d (.lst [.lst (cs.map .int), .int ((at_ + 1 : Nat) : Int), .int cur])]
        exact fin r r0 (take1 hl h1 h64 (by rw [hll]; omega) (by simpa using hB) (by rw [hll]; exact hk) (dIx_lst (get_ints hkl)) e1 (by omega) hr)
      · obtain rfl : cs = [] := List.eq_nil_of_length_eq_zero (by omega)
        obtain ⟨r, r0, hr⟩ := v_spread 0 at_ (by omega) [.d (.lst [.lst [], .int ((at_ + 1 : Nat) : Int), .int cur])]
        exact fin r r0 (take2 hl h1 h64 (by omega) e1 hr)
  · exact ⟨_, _, take3 hl h1 h64, Int.emod_nonneg _ (by omega), Int.emod_lt_of_pos _ h1, ⟨cs, at_, _, rfl, by omega, Int.ediv_nonneg hc (by omega)⟩⟩
/-- a drawn item of a list -/
theorem v_one_of {n : Nat} {c : Cell} (h : PenOk n c) (hn : n ≤ 999999) (xs : List D) (h1 : 0 < xs.length) (h2 : xs.length ≤ 1000000) : ∃ (v : D) (c' : Cell), m__law_one_of [.hd 0, .lst xs] [c] = some (.fro v, [c']) ∧ v ∈ xs ∧ PenOk (n + 1) c' := by
  obtain ⟨v, c', e, a, b, p⟩ := v_take h hn xs.length (by omega) (by omega)
  obtain ⟨k, rfl⟩ : ∃ k : Nat, v = (k : Int) := ⟨_, (Int.toNat_of_nonneg a).symm⟩
  have hk : k < xs.length := by omega
  refine ⟨xs[k], c', ?_, List.getElem_mem hk, p⟩
  simp [m__law_one_of, ev__law_one_of, e, dIx_lst (List.getElem?_eq_getElem hk)]
end G

namespace G
open PySem PySem.Spec L2 Pv
theorem open_step {ns : List Int} {cs : List Int} {k : Int} {x y : Int} {j : Nat} (hk : k % 12 = (j : Int)) (hj : j < cs.length) (hy : cs[j] = y) :
    evSetI 1 dSet (evV (ev2 dMod (evSlot 2) (evV (evC (.int 12))))) (ev2 dAdd (evV (ev2 dIx (evSlot 1) (evV (ev2 dMod (evSlot 2) (evV (evC (.int 12))))))) (evSlot 3)) ⟨[.fro (.scr ns), .own (.lst (cs.map .int)), .fro (.int k), .fro (.int x)], []⟩ =
      some (.nx, ⟨[.fro (.scr ns), .own (.lst ((cs.set j (y + x)).map .int)), .fro (.int k), .fro (.int x)], []⟩) := by
  have h1 : dIx (.lst (cs.map .int)) (.int (j : Int)) = some (.fro (.int y)) := dIx_lst (by simp [hj, hy])
  have h2 : dSet (.lst (cs.map .int)) (.int (j : Int)) (.int (y + x)) = some (.lst ((cs.set j (y + x)).map .int)) := by
    rw [dSet_lst _ (by simpa using hj), List.map_set]
  simp [hk, h1, h2]
theorem v_open (ns : List Int) : ∃ d, m__law_open [.scr ns] [] = some (.own d, []) ∧ PenOk 0 (.d d) := by
  obtain ⟨c0, e1, l0⟩ : ∃ c0 : List Int, dSl (.scr ns) none (some 12) = some (.own (.lst (c0.map .int))) ∧ c0.length = min 12 ns.length := by
    refine ⟨ns.take 12, ?_, by simp⟩
    have := cut_take (ns.map D.int) 12
    simp only [dSl]
    rw [show (some (12 : Int)) = some ((12 : Nat) : Int) from rfl, this, List.map_take]
  obtain ⟨ws, e2⟩ : ∃ ws : List Int, dSl (.scr ns) (some 12) (some 63) = some (.own (.lst (ws.map .int))) ∧ (ws ≠ [] → 12 < ns.length) := by
    refine ⟨(ns.drop (min 12 ns.length)).take (min 63 ns.length - min 12 ns.length), ?_, fun h => ?_⟩
    · simp only [dSl, cutL]
      rw [show (some (12 : Int)) = some ((12 : Nat) : Int) from rfl, show (some (63 : Int)) = some ((63 : Nat) : Int) from rfl, HT.sIx_nat, HT.sIx_nat]
      simp
    · refine Classical.byContradiction fun hn => h ?_
      rw [List.drop_eq_nil_of_le (by omega)]
      simp
  obtain ⟨e2, h12⟩ := e2
  obtain ⟨s', hs, cs, g2, g3, hcs, rfl⟩ := forS_inv (it := evArgs dEnum (evCons (evSl dSl (evSlot 0) (evPt (evV (evC (.int 12)))) (evPt (evV (evC (.int 63))))) (evNil))) (t := tgTup 2 (tgCons (tgName 2) (tgCons (tgName 3) (tgNil))))
    (b := evSetI 1 dSet (evV (ev2 dMod (evSlot 2) (evV (evC (.int 12))))) (ev2 dAdd (evV (ev2 dIx (evSlot 1) (evV (ev2 dMod (evSlot 2) (evV (evC (.int 12))))))) (evSlot 3)))
    (fun _ s => ∃ (cs : List Int) (g2 g3 : Slot), cs.length = min 12 ns.length ∧ s = ⟨[.fro (.scr ns), .own (.lst (cs.map .int)), g2, g3], []⟩)
    (ds := pairUp (upTo 0 (ws.map D.int).length) (ws.map .int)) (s := ⟨[.fro (.scr ns), .own (.lst (c0.map .int)), .non, .non], []⟩) (by simp [e2, dEnum]) ⟨c0, .non, .non, l0, rfl⟩
    (fun i d s hd ⟨cs, g2, g3, hl, he⟩ => by
      subst he
      obtain ⟨x, y, hx, hy, rfl⟩ := pairUp_get hd
      have hne : ws ≠ [] := by rintro rfl; simp at hy
      have := h12 hne
      rw [upTo0, List.getElem?_map] at hx
      obtain ⟨k, hk, rfl⟩ := Option.map_eq_some_iff.mp hx
      rw [List.getElem?_map] at hy
      obtain ⟨z, hz, rfl⟩ := Option.map_eq_some_iff.mp hy
      have hj : k % 12 < cs.length := by omega
      refine ⟨⟨[.fro (.scr ns), .own (.lst (cs.map .int)), .fro (.int k), .fro (.int z)], []⟩, _, _, by simp, open_step (j := k % 12) (by omega) hj rfl, .inl rfl, cs.set (k % 12) (cs[k % 12] + z), .fro (.int k), .fro (.int z), by simp [hl], rfl⟩)
  refine ⟨.lst [.lst (cs.map .int), .int 0, .int 0], ?_, ⟨cs, 0, 0, rfl, by omega, by omega⟩⟩
  simp [m__law_open, ev__law_open, e1, dList, hs]
theorem nat_of {i : Int} (h : 0 ≤ i) : ∃ k : Nat, i = (k : Int) := ⟨i.toNat, (Int.toNat_of_nonneg h).symm⟩
theorem v_draw_road {n : Nat} {c : Cell} (h : PenOk n c) (hn : n ≤ 900000) (a b wd : Nat) (hw : wd ≤ 1000) : ∃ (lo hi : Nat) (c' : Cell), m__law_draw_road [.hd 0, .int a, .int b, .int wd] [c] = some (.fro (rdD ⟨a, b, lo, hi⟩), [c']) ∧ lo ≤ hi ∧ hi ≤ 99 ∧ PenOk (n + 6) c' := by
  obtain ⟨x1, c1, e1, a1, b1, p1⟩ := v_take h (by omega) 8 (by decide) (by decide)
  obtain ⟨x2, c2, e2, a2, b2, p2⟩ := v_take p1 (by omega) 100 (by decide) (by decide)
  obtain ⟨y, c3, e3, m3, p3⟩ := v_one_of p2 (by omega) [.int 0, .int 1, .int 2, .int 3, .int x1, .int x2] (by simp) (by simp)
  obtain ⟨lo, rfl, hlo⟩ : ∃ lo : Nat, y = .int lo ∧ lo ≤ 99 := by
    obtain ⟨k1, rfl⟩ := nat_of a1
    obtain ⟨k2, rfl⟩ := nat_of a2
    simp at m3
    rcases m3 with rfl | rfl | rfl | rfl | rfl | rfl
    · exact ⟨0, rfl, by omega⟩
    · exact ⟨1, rfl, by omega⟩
    · exact ⟨2, rfl, by omega⟩
    · exact ⟨3, rfl, by omega⟩
    · exact ⟨k1, rfl, by omega⟩
    · exact ⟨k2, rfl, by omega⟩
  obtain ⟨x4, c4, e4, a4, b4, p4⟩ := v_take p3 (by omega) 6 (by decide) (by decide)
  obtain ⟨x5, c5, e5, a5, b5, p5⟩ := v_take p4 (by omega) ((wd : Int) + 1) (by omega) (by omega)
  obtain ⟨z, c6, e6, m6, p6⟩ := v_one_of p5 (by omega) [.int 0, .int 0, .int 1, .int 2, .int x4, .int x5] (by simp) (by simp)
  obtain ⟨dl, rfl⟩ : ∃ dl : Nat, z = .int dl := by
    obtain ⟨k1, rfl⟩ := nat_of a4
    obtain ⟨k2, rfl⟩ := nat_of a5
    simp at m6
    rcases m6 with rfl | rfl | rfl | rfl | rfl
    · exact ⟨0, rfl⟩
    · exact ⟨1, rfl⟩
    · exact ⟨2, rfl⟩
    · exact ⟨k1, rfl⟩
    · exact ⟨k2, rfl⟩
  refine ⟨lo, min 99 (lo + dl), c6, ?_, by omega, by omega, p6⟩
  have hm : ((min 99 (lo + dl) : Nat) : Int) = min 99 ((lo : Int) + (dl : Int)) := by omega
  simp [m__law_draw_road, ev__law_draw_road, e1, e2, e3, e4, e5, e6, dMin, rdD, hm]
end G

namespace G
open PySem PySem.Spec L2 Pv
def prD (p : Nat × Nat) : D := .tup [.int p.1, .int p.2]
@[simp] theorem prD_eq (p : Nat × Nat) : prD p = .tup [.int p.1, .int p.2] := rfl
/-- the drawn pairs -/
structure PrOk (size : Nat) (ps : List (Nat × Nat)) : Prop where
  lt : ∀ p ∈ ps, p.1 < p.2 ∧ p.2 < size
  cn : ∀ h, 1 ≤ h → h < size → ∃ a, a < h ∧ (a, h) ∈ ps
theorem PrOk.ins {size : Nat} {ps : List (Nat × Nat)} (P : PrOk size ps) (i : Nat) {p : Nat × Nat} (h1 : p.1 < p.2) (h2 : p.2 < size) : PrOk size (ps.take i ++ [p] ++ ps.drop i) := by
  refine ⟨fun q hq => ?_, fun h a b => ?_⟩
  · simp only [List.append_assoc, List.mem_append, List.mem_singleton] at hq
    rcases hq with hq | hq | hq
    · exact P.lt q (List.mem_of_mem_take hq)
    · subst hq; exact ⟨h1, h2⟩
    · exact P.lt q (List.mem_of_mem_drop hq)
  · obtain ⟨x, hx, hm⟩ := P.cn h a b
    refine ⟨x, hx, ?_⟩
    rw [← List.take_append_drop i ps] at hm
    simp only [List.append_assoc, List.mem_append] at hm ⊢
    rcases hm with hm | hm
    · exact .inl hm
    · exact .inr (.inr hm)
structure NmOk (k : Nat) (nm : List Nat) : Prop where
  len : nm.length = k
  nd : nm.Nodup
  lt : ∀ x ∈ nm, x < k
theorem NmOk.ins {k : Nat} {nm : List Nat} (N : NmOk k nm) (i : Nat) : NmOk (k + 1) (nm.take i ++ [k] ++ nm.drop i) := by
  have pm : (nm.take i ++ [k] ++ nm.drop i).Perm (k :: nm) := by
    have : (nm.take i ++ [k] ++ nm.drop i).Perm (k :: (nm.take i ++ nm.drop i)) := by
      rw [List.append_assoc]
      exact List.perm_middle
    rwa [List.take_append_drop] at this
  refine ⟨by rw [pm.length_eq, List.length_cons, N.len], pm.nodup_iff.mpr (List.nodup_cons.mpr ⟨fun h => Nat.lt_irrefl _ (N.lt _ h), N.nd⟩), fun x hx => ?_⟩
  rcases List.mem_cons.mp (pm.mem_iff.mp hx) with rfl | h
  · omega
  · have := N.lt x h; omega
theorem ins_map {α : Type} (f : α → D) (xs : List α) (i : Nat) (x : α) : (xs.map f).take i ++ [f x] ++ (xs.map f).drop i = (xs.take i ++ [x] ++ xs.drop i).map f := by
  simp [List.map_take, List.map_drop]
theorem rng1_get {i n x : Nat} : (List.range' 1 n)[i]? = some x ↔ i < n ∧ x = i + 1 := by
  rw [List.getElem?_eq_some_iff]
  constructor
  · rintro ⟨h, e⟩
    rw [List.length_range'] at h
    rw [List.getElem_range'] at e
    omega
  · rintro ⟨h, rfl⟩
    exact ⟨by rw [List.length_range']; exact h, by rw [List.getElem_range']; omega⟩
/-- the tree's pairs -/
theorem dw_tree {n : Nat} {c : Cell} (h : PenOk n c) (hn : n ≤ 900000) (a1 a2 a3 : D) (size : Nat) (hs : 1 ≤ size) (hs2 : size ≤ 100) :
    ∃ (ps : List (Nat × Nat)) (c' : Cell), evLc (evRng2 (evCons (evC (.int 1)) (evCons (evName 4) (evNil)))) [0] [9] (tgName 9) (evYes) (evTup (evCons (evCall m__law_take (evCons (evName 0) (evCons (evName 9) (evNil)))) (evCons (evName 9) (evNil))))
      ⟨[.fro (.hd 0), .fro a1, .fro a2, .fro a3, .fro (.int size), .non, .non, .non, .non, .non, .non], [c]⟩ = some (.own (.lst (ps.map prD)), ⟨[.fro (.hd 0), .fro a1, .fro a2, .fro a3, .fro (.int size), .non, .non, .non, .non, .non, .non], [c']⟩) ∧
      ps.length = size - 1 ∧ PrOk size ps ∧ PenOk (n + 100) c' := by
  have hr : ((size : Int) - 1).toNat = size - 1 := by omega
  have s1 : small62 1 = true := by decide
  have s2 : small62 (size : Int) = true := small62_nat (by omega)
  have hu : upTo 1 (size - 1) = (List.range' 1 (size - 1)).map fun k : Nat => D.int (k : Int) := upTo_map 1 (size - 1)
  obtain ⟨ps, st', e, hl, hR, c', rfl, hp⟩ := lc_st (α := Nat) (β := Nat × Nat) (fun k => .int (k : Int)) prD (fun x y => y.2 = x ∧ y.1 < x) (fun k st => ∃ c', st = [c'] ∧ PenOk (n + k) c') (List.range' 1 (size - 1))
    (it := evRng2 (evCons (evC (.int 1)) (evCons (evName 4) (evNil)))) (cap := [0]) (vs := [9]) (t := tgName 9) (c := evYes) (e := evTup (evCons (evCall m__law_take (evCons (evName 0) (evCons (evName 9) (evNil)))) (evCons (evName 9) (evNil))))
    (s := ⟨[.fro (.hd 0), .fro a1, .fro a2, .fro a3, .fro (.int size), .non, .non, .non, .non, .non, .non], [c]⟩) (s' := ⟨[.fro (.hd 0), .fro a1, .fro a2, .fro a3, .fro (.int size), .non, .non, .non, .non, .non, .non], [c]⟩)
    (by simp [s1, s2, hr, hu]) (by simp; omega) ⟨c, rfl, h⟩ (fun i x st hx ⟨c', hst, hp⟩ => by
      subst hst
      obtain ⟨hx, hx'⟩ := rng1_get.mp hx
      obtain ⟨v, c2, e2, v0, v1, p2⟩ := v_take hp (by omega) (x : Int) (by omega) (by omega)
      obtain ⟨v, rfl⟩ := nat_of v0
      exact ⟨⟨[.fro (.hd 0), .fro a1, .fro a2, .fro a3, .fro (.int size), .non, .non, .non, .non, .fro (.int x), .non], [c']⟩, _, .fro (prD (v, x)), ⟨[.fro (.hd 0), .fro a1, .fro a2, .fro a3, .fro (.int size), .non, .non, .non, .non, .fro (.int x), .non], [c2]⟩, (v, x),
        by simp, rfl, by simp [e2], rfl, ⟨rfl, by omega⟩, c2, rfl, p2⟩)
  rw [List.length_range'] at hl hp
  refine ⟨ps, c', by simpa using e, hl, ⟨fun p hm => ?_, fun k h1 h2 => ?_⟩, hp.mono (by omega)⟩
  · obtain ⟨i, hi⟩ := List.getElem?_of_mem hm
    have hil : i < size - 1 := by have := (List.getElem?_eq_some_iff.mp hi).1; omega
    have := hR i (i + 1) p (rng1_get.mpr ⟨hil, rfl⟩) hi
    omega
  · have hkl : k - 1 < ps.length := by omega
    have := hR (k - 1) (k - 1 + 1) ps[k - 1] (rng1_get.mpr ⟨by omega, rfl⟩) (List.getElem?_eq_getElem hkl)
    refine ⟨ps[k - 1].1, by omega, ?_⟩
    have e : ps[k - 1] = (ps[k - 1].1, k) := Prod.ext rfl (by show _ = k; omega)
    rw [← e]
    exact List.getElem_mem hkl
/-- more pairs: how many -/
theorem dw_cnt {c c1 : Cell} {a1 a3 : D} {most size q v j : Int} {ds : List D} (hq : max 1 (most - (ds.length : Int) + 1) = q) (e1 : m__law_take [.hd 0, .int q] [c] = some (.fro (.int v), [c1])) (sv : smallI v = true) (hj : v * (if 1 < size then 1 else 0) = j) (s6 : small62 j = true) :
    evRng1 (evCons (ev2 dMul (evV (evCall m__law_take (evCons (evName 0) (evCons (evN dMax (evConsB (evV (evC (.int 1))) (evConsB (evV (ev2 dAdd (evV (ev2 dSub (evSlot 2) (evV (evN dLen (evConsB (evSlot 5) (evNilB)))))) (evV (evC (.int 1))))) (evNilB)))) (evNil))))) (evV (evN dInt (evConsB (evV (ev2 dGt (evSlot 4) (evV (evC (.int 1))))) (evNilB))))) (evNil))
      ⟨[.fro (.hd 0), .fro a1, .fro (.int most), .fro a3, .fro (.int size), .own (.lst ds), .non, .non, .non, .non, .non], [c]⟩ = some (upTo 0 j.toNat, ⟨[.fro (.hd 0), .fro a1, .fro (.int most), .fro a3, .fro (.int size), .own (.lst ds), .non, .non, .non, .non, .non], [c1]⟩) := by
  simp [dMax, hq, e1, dInt, sv, hj, s6]
theorem dw_step {c c1 c2 c3 : Cell} {a1 a3 : D} {most size a w b x y z : Int} {ds es : List D} {g7 : Slot} (e3 : m__law_take [.hd 0, .int (size - 1)] [c] = some (.fro (.int a), [c1])) (e4 : m__law_take [.hd 0, .int ((ds.length : Int) + 1)] [c1] = some (.fro (.int w), [c2])) (hz : size - 1 - a = z)
    (e5 : m__law_take [.hd 0, .int z] [c2] = some (.fro (.int b), [c3])) (hy : a + 1 + b = y) (hm : mInsert (.lst ds) [.int w, .tup [.int a, .int y]] = some (.lst es, .non)) :
    (evSeq (evSet 7 (evCall m__law_take (evCons (evName 0) (evCons (ev2 dSub (evSlot 4) (evV (evC (.int 1)))) (evNil))))) (evDrop (evMut "list" 5 mInsert (evCons (evCall m__law_take (evCons (evName 0) (evCons (ev2 dAdd (evV (evN dLen (evConsB (evSlot 5) (evNilB)))) (evV (evC (.int 1)))) (evNil)))) (evCons (evTup (evCons (evName 7) (evCons (ev2 dAdd (evV (ev2 dAdd (evSlot 7) (evV (evC (.int 1))))) (evV (evCall m__law_take (evCons (evName 0) (evCons (ev2 dSub (evV (ev2 dSub (evSlot 4) (evV (evC (.int 1))))) (evSlot 7)) (evNil)))))) (evNil)))) (evNil))))))
      ⟨[.fro (.hd 0), .fro a1, .fro (.int most), .fro a3, .fro (.int size), .own (.lst ds), .fro (.int x), g7, .non, .non, .non], [c]⟩ = some (.nx, ⟨[.fro (.hd 0), .fro a1, .fro (.int most), .fro a3, .fro (.int size), .own (.lst es), .fro (.int x), .fro (.int a), .non, .non, .non], [c3]⟩) := by
  simp [e3, e4, e5, hz, hy, hm]
/-- more pairs -/
theorem dw_more {n : Nat} {c : Cell} (h : PenOk n c) (hn : n ≤ 900000) (a1 a3 : D) (most size : Nat) (hm : most ≤ 100) (hs : 1 ≤ size) (hs2 : size ≤ most + 1) {ps : List (Nat × Nat)} (hl : ps.length = size - 1) (P : PrOk size ps) :
    ∃ (ps' : List (Nat × Nat)) (c' : Cell) (g6 g7 : Slot), evForS (evRng1 (evCons (ev2 dMul (evV (evCall m__law_take (evCons (evName 0) (evCons (evN dMax (evConsB (evV (evC (.int 1))) (evConsB (evV (ev2 dAdd (evV (ev2 dSub (evSlot 2) (evV (evN dLen (evConsB (evSlot 5) (evNilB)))))) (evV (evC (.int 1))))) (evNilB)))) (evNil))))) (evV (evN dInt (evConsB (evV (ev2 dGt (evSlot 4) (evV (evC (.int 1))))) (evNilB))))) (evNil))) (tgName 6)
        (evSeq (evSet 7 (evCall m__law_take (evCons (evName 0) (evCons (ev2 dSub (evSlot 4) (evV (evC (.int 1)))) (evNil))))) (evDrop (evMut "list" 5 mInsert (evCons (evCall m__law_take (evCons (evName 0) (evCons (ev2 dAdd (evV (evN dLen (evConsB (evSlot 5) (evNilB)))) (evV (evC (.int 1)))) (evNil)))) (evCons (evTup (evCons (evName 7) (evCons (ev2 dAdd (evV (ev2 dAdd (evSlot 7) (evV (evC (.int 1))))) (evV (evCall m__law_take (evCons (evName 0) (evCons (ev2 dSub (evV (ev2 dSub (evSlot 4) (evV (evC (.int 1))))) (evSlot 7)) (evNil)))))) (evNil)))) (evNil))))))
      ⟨[.fro (.hd 0), .fro a1, .fro (.int most), .fro a3, .fro (.int size), .own (.lst (ps.map prD)), .non, .non, .non, .non, .non], [c]⟩ = some (.nx, ⟨[.fro (.hd 0), .fro a1, .fro (.int most), .fro a3, .fro (.int size), .own (.lst (ps'.map prD)), g6, g7, .non, .non, .non], [c']⟩) ∧
      ps'.length ≤ most ∧ PrOk size ps' ∧ PenOk (n + 400) c' := by
  obtain ⟨q, hq, hq2⟩ : ∃ q : Nat, max 1 ((most : Int) - (ps.length : Int) + 1) = (q : Int) ∧ q = most - ps.length + 1 := ⟨_, by omega, rfl⟩
  obtain ⟨v, c1, e1, v0, v1, p1⟩ := v_take h (by omega) (q : Int) (by omega) (by omega)
  obtain ⟨v, rfl⟩ := nat_of v0
  obtain ⟨j, hj, hj1, hj2⟩ : ∃ j : Nat, (v : Int) * (if (1 : Int) < (size : Int) then 1 else 0) = (j : Int) ∧ j ≤ most - ps.length ∧ (0 < j → 1 < size) := by
    by_cases hz : 1 < size
    · exact ⟨v, by rw [if_pos (by omega)]; omega, by omega, fun _ => hz⟩
    · exact ⟨0, by rw [if_neg (by omega)]; omega, by omega, fun h => by omega⟩
  have sv : smallI (v : Int) = true := smallI_of (by omega) (by omega)
  have s6 : small62 (j : Int) = true := small62_nat (by omega)
  have h0 := dw_cnt (a1 := a1) (a3 := a3) (most := most) (size := size) (ds := ps.map prD) (by rw [List.length_map]; exact hq) e1 sv hj s6
  rw [Int.toNat_natCast, upTo0] at h0
  obtain ⟨s', hs', ps', c', g6, g7, rfl, l1, P1, p'⟩ := forS_inv (t := tgName 6) (b := evSeq (evSet 7 (evCall m__law_take (evCons (evName 0) (evCons (ev2 dSub (evSlot 4) (evV (evC (.int 1)))) (evNil))))) (evDrop (evMut "list" 5 mInsert (evCons (evCall m__law_take (evCons (evName 0) (evCons (ev2 dAdd (evV (evN dLen (evConsB (evSlot 5) (evNilB)))) (evV (evC (.int 1)))) (evNil)))) (evCons (evTup (evCons (evName 7) (evCons (ev2 dAdd (evV (ev2 dAdd (evSlot 7) (evV (evC (.int 1))))) (evV (evCall m__law_take (evCons (evName 0) (evCons (ev2 dSub (evV (ev2 dSub (evSlot 4) (evV (evC (.int 1))))) (evSlot 7)) (evNil)))))) (evNil)))) (evNil))))))
    (fun i s => ∃ (ps' : List (Nat × Nat)) (c' : Cell) (g6 g7 : Slot), s = ⟨[.fro (.hd 0), .fro a1, .fro (.int most), .fro a3, .fro (.int size), .own (.lst (ps'.map prD)), g6, g7, .non, .non, .non], [c']⟩ ∧ ps'.length = ps.length + i ∧ PrOk size ps' ∧ PenOk (n + 1 + 3 * i) c')
    h0 ⟨ps, c1, .non, .non, rfl, rfl, P, p1⟩ (fun i d s hd ⟨qs, c2, g6, g7, es, l2, P2, p2⟩ => by
      subst es
      rw [List.getElem?_map] at hd
      obtain ⟨x, hx, rfl⟩ := Option.map_eq_some_iff.mp hd
      have hi : i < j := by have := (List.getElem?_eq_some_iff.mp hx).1; simpa using this
      have hz := hj2 (by omega)
      obtain ⟨a, c3, e3, a30, a31, p3⟩ := v_take p2 (by omega) ((size : Int) - 1) (by omega) (by omega)
      obtain ⟨a, rfl⟩ := nat_of a30
      obtain ⟨w, c4, e4, a40, a41, p4⟩ := v_take p3 (by omega) ((qs.length : Int) + 1) (by omega) (by omega)
      obtain ⟨w, rfl⟩ := nat_of a40
      obtain ⟨b, c5, e5, a50, a51, p5⟩ := v_take p4 (by omega) ((size : Int) - 1 - (a : Int)) (by omega) (by omega)
      obtain ⟨b, rfl⟩ := nat_of a50
      obtain ⟨y, hy⟩ : ∃ y : Nat, (a : Int) + 1 + (b : Int) = (y : Int) := ⟨a + 1 + b, by omega⟩
      refine ⟨⟨[.fro (.hd 0), .fro a1, .fro (.int most), .fro a3, .fro (.int size), .own (.lst (qs.map prD)), .fro (.int x), g7, .non, .non, .non], [c2]⟩, .nx,
        ⟨[.fro (.hd 0), .fro a1, .fro (.int most), .fro a3, .fro (.int size), .own (.lst ((qs.take w ++ [(a, y)] ++ qs.drop w).map prD)), .fro (.int x), .fro (.int a), .non, .non, .non], [c5]⟩, by simp, ?_, .inl rfl, _, _, _, _, rfl, ?_, P2.ins w (p := (a, y)) (by show a < y; omega) (by show y < size; omega), p5.mono (by omega)⟩
      · have hm := insert_ok (ds := qs.map prD) (i := w) (x := prD (a, y)) (by rw [List.length_map]; omega) (by omega)
        rw [ins_map] at hm
        exact dw_step e3 (by rw [List.length_map]; exact e4) rfl e5 hy hm
      · simp; omega)
  rw [List.length_map, List.length_range] at l1 p'
  exact ⟨ps', c', g6, g7, hs', by omega, P1, p'.mono (by omega)⟩
/-- the names -/
theorem dw_names {n : Nat} {c : Cell} (h : PenOk n c) (hn : n ≤ 900000) (a1 a2 a3 : D) (size : Nat) (hs2 : size ≤ 100) (d5 g6 g7 : Slot) :
    ∃ (nm : List Nat) (c' : Cell) (g9 : Slot), evForS (evRng1 (evCons (evName 4) (evNil))) (tgName 9) (evDrop (evMut "list" 8 mInsert (evCons (evCall m__law_take (evCons (evName 0) (evCons (ev2 dAdd (evSlot 9) (evV (evC (.int 1)))) (evNil)))) (evCons (evName 9) (evNil)))))
      ⟨[.fro (.hd 0), .fro a1, .fro a2, .fro a3, .fro (.int size), d5, g6, g7, .own (.lst []), .non, .non], [c]⟩ = some (.nx, ⟨[.fro (.hd 0), .fro a1, .fro a2, .fro a3, .fro (.int size), d5, g6, g7, .own (.lst (nm.map fun k : Nat => D.int (k : Int))), g9, .non], [c']⟩) ∧ NmOk size nm ∧ PenOk (n + 100) c' := by
  have s2 : small62 (size : Int) = true := small62_nat (by omega)
  have h0 : evRng1 (evCons (evName 4) (evNil)) ⟨[.fro (.hd 0), .fro a1, .fro a2, .fro a3, .fro (.int size), d5, g6, g7, .own (.lst []), .non, .non], [c]⟩ = some ((List.range size).map (fun k : Nat => D.int (k : Int)), ⟨[.fro (.hd 0), .fro a1, .fro a2, .fro a3, .fro (.int size), d5, g6, g7, .own (.lst []), .non, .non], [c]⟩) := by
    simp [s2, upTo0]
  have st : ∀ {c c1 : Cell} {x w : Int} {ds es : List D}, m__law_take [.hd 0, .int (x + 1)] [c] = some (.fro (.int w), [c1]) → mInsert (.lst ds) [.int w, .int x] = some (.lst es, .non) →
      (evDrop (evMut "list" 8 mInsert (evCons (evCall m__law_take (evCons (evName 0) (evCons (ev2 dAdd (evSlot 9) (evV (evC (.int 1)))) (evNil)))) (evCons (evName 9) (evNil))))) ⟨[.fro (.hd 0), .fro a1, .fro a2, .fro a3, .fro (.int size), d5, g6, g7, .own (.lst ds), .fro (.int x), .non], [c]⟩ =
        some (.nx, ⟨[.fro (.hd 0), .fro a1, .fro a2, .fro a3, .fro (.int size), d5, g6, g7, .own (.lst es), .fro (.int x), .non], [c1]⟩) := fun e1 e2 => by simp [e1, e2]
  obtain ⟨s', hs', nm, c', g9, rfl, N, p'⟩ := forS_inv (t := tgName 9) (b := evDrop (evMut "list" 8 mInsert (evCons (evCall m__law_take (evCons (evName 0) (evCons (ev2 dAdd (evSlot 9) (evV (evC (.int 1)))) (evNil)))) (evCons (evName 9) (evNil)))))
    (fun i s => ∃ (nm : List Nat) (c' : Cell) (g9 : Slot), s = ⟨[.fro (.hd 0), .fro a1, .fro a2, .fro a3, .fro (.int size), d5, g6, g7, .own (.lst (nm.map fun k : Nat => D.int (k : Int))), g9, .non], [c']⟩ ∧ NmOk i nm ∧ PenOk (n + i) c')
    h0 ⟨[], c, .non, rfl, ⟨rfl, List.nodup_nil, fun x hx => by simp at hx⟩, h⟩ (fun i d s hd ⟨nm, c2, g9, es, N, p2⟩ => by
      subst es
      rw [List.getElem?_map] at hd
      obtain ⟨x, hx, rfl⟩ := Option.map_eq_some_iff.mp hd
      obtain ⟨hi, hx⟩ := List.getElem?_eq_some_iff.mp hx
      rw [List.length_range] at hi
      rw [List.getElem_range] at hx
      subst hx
      obtain ⟨w, c3, e3, w0, w1, p3⟩ := v_take p2 (by omega) ((i : Int) + 1) (by omega) (by omega)
      obtain ⟨w, rfl⟩ := nat_of w0
      have hl := N.len
      have hm := insert_ok (ds := nm.map fun k : Nat => D.int (k : Int)) (i := w) (x := .int (i : Int)) (by rw [List.length_map]; omega) (by omega)
      rw [ins_map (fun k : Nat => D.int (k : Int)) nm w i] at hm
      exact ⟨⟨[.fro (.hd 0), .fro a1, .fro a2, .fro a3, .fro (.int size), d5, g6, g7, .own (.lst (nm.map fun k : Nat => D.int (k : Int))), .fro (.int i), .non], [c2]⟩, .nx, _, by simp, st e3 hm, .inl rfl, _, _, _, rfl, N.ins w, p3⟩)
  rw [List.length_map, List.length_range] at N p'
  exact ⟨nm, c', g9, hs', N, p'.mono (by omega)⟩
end G

namespace G
open PySem PySem.Spec L2 Pv
def nmP (nm : List Nat) (p : Nat × Nat) : Nat × Nat := (min (nm.getD p.1 0) (nm.getD p.2 0), max (nm.getD p.1 0) (nm.getD p.2 0))
theorem nm_get {nm : List Nat} {i : Nat} (h : i < nm.length) : nm[i]? = some (nm.getD i 0) := by
  rw [List.getD_eq_getElem?_getD, List.getElem?_eq_getElem h]; rfl
theorem nm_ix {nm : List Nat} {i : Nat} (h : i < nm.length) : dIx (.lst (nm.map fun k : Nat => D.int (k : Int))) (.int (i : Int)) = some (.fro (.int (nm.getD i 0 : Nat))) := dIx_lst (by rw [List.getElem?_map, nm_get h]; rfl)
theorem dw_ren {c : Cell} {a1 a2 a3 : D} {g6 g7 g9 : Slot} {size : Nat} {ps : List (Nat × Nat)} {nm : List Nat} (N : NmOk size nm) (P : PrOk size ps) (hl : ps.length ≤ 1000) (e4 : Slot) :
    evLc (evItS (evName 5)) [8] [7, 10] (tgTup 2 (tgCons (tgName 7) (tgCons (tgName 10) (tgNil)))) (evYes) (evTup (evCons (evN dMin (evConsB (evV (ev2 dIx (evSlot 8) (evSlot 7))) (evConsB (evV (ev2 dIx (evSlot 8) (evSlot 10))) (evNilB)))) (evCons (evN dMax (evConsB (evV (ev2 dIx (evSlot 8) (evSlot 7))) (evConsB (evV (ev2 dIx (evSlot 8) (evSlot 10))) (evNilB)))) (evNil))))
      ⟨[.fro (.hd 0), .fro a1, .fro a2, .fro a3, e4, .own (.lst (ps.map prD)), g6, g7, .own (.lst (nm.map fun k : Nat => D.int (k : Int))), g9, .non], [c]⟩ =
      some (.own (.lst ((ps.map (nmP nm)).map prD)), ⟨[.fro (.hd 0), .fro a1, .fro a2, .fro a3, e4, .fro (.lst (ps.map prD)), g6, g7, .fro (.lst (nm.map fun k : Nat => D.int (k : Int))), g9, .non], [c]⟩) := by
  have st : ∀ {x y u v : Int} {ds : List D} {b0 b1 b2 b3 b4 b5 b6 b9 : Slot}, dIx (.lst ds) (.int x) = some (.fro (.int u)) → dIx (.lst ds) (.int y) = some (.fro (.int v)) →
      evTup (evCons (evN dMin (evConsB (evV (ev2 dIx (evSlot 8) (evSlot 7))) (evConsB (evV (ev2 dIx (evSlot 8) (evSlot 10))) (evNilB)))) (evCons (evN dMax (evConsB (evV (ev2 dIx (evSlot 8) (evSlot 7))) (evConsB (evV (ev2 dIx (evSlot 8) (evSlot 10))) (evNilB)))) (evNil)))
        ⟨[b0, b1, b2, b3, b4, b5, b6, .fro (.int x), .fro (.lst ds), b9, .fro (.int y)], [c]⟩ = some (.fro (.tup [.int (min u v), .int (max u v)]), ⟨[b0, b1, b2, b3, b4, b5, b6, .fro (.int x), .fro (.lst ds), b9, .fro (.int y)], [c]⟩) := fun h1 h2 => by
    simp [h1, h2, dMin, dMax]
  have := lc_map (α := Nat × Nat) prD (fun _ => true) (fun p => prD (nmP nm p)) ps
    (it := evItS (evName 5)) (cap := [8]) (vs := [7, 10]) (t := tgTup 2 (tgCons (tgName 7) (tgCons (tgName 10) (tgNil)))) (c := evYes) (e := evTup (evCons (evN dMin (evConsB (evV (ev2 dIx (evSlot 8) (evSlot 7))) (evConsB (evV (ev2 dIx (evSlot 8) (evSlot 10))) (evNilB)))) (evCons (evN dMax (evConsB (evV (ev2 dIx (evSlot 8) (evSlot 7))) (evConsB (evV (ev2 dIx (evSlot 8) (evSlot 10))) (evNilB)))) (evNil))))
    (s := ⟨[.fro (.hd 0), .fro a1, .fro a2, .fro a3, e4, .own (.lst (ps.map prD)), g6, g7, .own (.lst (nm.map fun k : Nat => D.int (k : Int))), g9, .non], [c]⟩)
    (s' := ⟨[.fro (.hd 0), .fro a1, .fro a2, .fro a3, e4, .fro (.lst (ps.map prD)), g6, g7, .own (.lst (nm.map fun k : Nat => D.int (k : Int))), g9, .non], [c]⟩)
    (by simp) (by omega) (fun p hp => by
      have h1 := (P.lt p hp)
      have hl := N.len
      have e1 := nm_ix (nm := nm) (i := p.1) (by omega)
      have e2 := nm_ix (nm := nm) (i := p.2) (by omega)
      refine ⟨⟨[.fro (.hd 0), .fro a1, .fro a2, .fro a3, hideSlot e4, .fro (.lst (ps.map prD)), hideSlot g6, .fro (.int p.1), .fro (.lst (nm.map fun k : Nat => D.int (k : Int))), hideSlot g9, .fro (.int p.2)], [c]⟩,
        ⟨[.fro (.hd 0), .fro a1, .fro a2, .fro a3, hideSlot e4, .fro (.lst (ps.map prD)), hideSlot g6, .fro (.int p.1), .fro (.lst (nm.map fun k : Nat => D.int (k : Int))), hideSlot g9, .fro (.int p.2)], [c]⟩, by simp, rfl, rfl, fun _ => ⟨_, _, st e1 e2, ?_, rfl⟩⟩
      have m1 : ((min (nm.getD p.1 0) (nm.getD p.2 0) : Nat) : Int) = min ((nm.getD p.1 0 : Nat) : Int) ((nm.getD p.2 0 : Nat) : Int) := by omega
      have m2 : ((max (nm.getD p.1 0) (nm.getD p.2 0) : Nat) : Int) = max ((nm.getD p.1 0 : Nat) : Int) ((nm.getD p.2 0 : Nat) : Int) := by omega
      simp only [prD, nmP, d_fro, m1, m2])
  rw [this, List.filter_eq_self.mpr fun _ _ => rfl, List.map_map]
  simp only [freeze_cons, freeze_nil, leak_ap, List.getElem?_cons_succ, List.getElem?_cons_zero, kLeak_own, List.set_cons_succ, List.set_cons_zero]
  rfl
theorem dw_roads {n : Nat} {c : Cell} (h : PenOk n c) (hn : n ≤ 800000) (a1 a2 : D) (wd : Nat) (hw : wd ≤ 1000) (e4 g6 g7 g8 g9 : Slot) {ps : List (Nat × Nat)} (hl : ps.length ≤ 100) :
    ∃ (rs : List Rd) (c' : Cell), evLc (evItS (evName 5)) [0, 3] [7, 10] (tgTup 2 (tgCons (tgName 7) (tgCons (tgName 10) (tgNil)))) (evYes) (evCall m__law_draw_road (evCons (evName 0) (evCons (evName 7) (evCons (evName 10) (evCons (evName 3) (evNil))))))
      ⟨[.fro (.hd 0), .fro a1, .fro a2, .fro (.int wd), e4, .own (.lst (ps.map prD)), g6, g7, g8, g9, .non], [c]⟩ =
      some (.own (.lst (rs.map rdD)), ⟨[.fro (.hd 0), .fro a1, .fro a2, .fro (.int wd), e4, .fro (.lst (ps.map prD)), g6, g7, g8, g9, .non], [c']⟩) ∧ rs.length = ps.length ∧ (∀ (i : Nat) x y, ps[i]? = some x → rs[i]? = some y → y.a = x.1 ∧ y.b = x.2 ∧ y.lo ≤ y.hi ∧ y.hi ≤ 99) ∧ PenOk (n + 600) c' := by
  obtain ⟨rs, st', e, hl', hR, c', rfl, hp⟩ := lc_st (α := Nat × Nat) (β := Rd) prD rdD (fun x y => y.a = x.1 ∧ y.b = x.2 ∧ y.lo ≤ y.hi ∧ y.hi ≤ 99) (fun k st => ∃ c', st = [c'] ∧ PenOk (n + 6 * k) c') ps
    (it := evItS (evName 5)) (cap := [0, 3]) (vs := [7, 10]) (t := tgTup 2 (tgCons (tgName 7) (tgCons (tgName 10) (tgNil)))) (c := evYes) (e := evCall m__law_draw_road (evCons (evName 0) (evCons (evName 7) (evCons (evName 10) (evCons (evName 3) (evNil))))))
    (s := ⟨[.fro (.hd 0), .fro a1, .fro a2, .fro (.int wd), e4, .own (.lst (ps.map prD)), g6, g7, g8, g9, .non], [c]⟩)
    (s' := ⟨[.fro (.hd 0), .fro a1, .fro a2, .fro (.int wd), e4, .fro (.lst (ps.map prD)), g6, g7, g8, g9, .non], [c]⟩)
    (by simp) (by omega) ⟨c, rfl, h⟩ (fun i x st hx ⟨c2, hst, p2⟩ => by
      subst hst
      have hi := (List.getElem?_eq_some_iff.mp hx).1
      obtain ⟨lo, hi', c3, e3, h1, h2, p3⟩ := v_draw_road p2 (by omega) x.1 x.2 wd hw
      exact ⟨⟨[.fro (.hd 0), .fro a1, .fro a2, .fro (.int wd), hideSlot e4, .fro (.lst (ps.map prD)), hideSlot g6, .fro (.int x.1), hideSlot g8, hideSlot g9, .fro (.int x.2)], [c2]⟩, _, .fro (rdD ⟨x.1, x.2, lo, hi'⟩),
        ⟨[.fro (.hd 0), .fro a1, .fro a2, .fro (.int wd), hideSlot e4, .fro (.lst (ps.map prD)), hideSlot g6, .fro (.int x.1), hideSlot g8, hideSlot g9, .fro (.int x.2)], [c3]⟩, ⟨x.1, x.2, lo, hi'⟩, by simp, rfl, by simp [e3], rfl, ⟨rfl, rfl, h1, h2⟩, c3, rfl, p3⟩)
  exact ⟨rs, c', by simpa using e, hl', hR, hp.mono (by omega)⟩
/-- a drawn web -/
theorem v_draw_web {n : Nat} {c : Cell} (h : PenOk n c) (hn : n ≤ 700000) (houses most wd : Nat) (h1 : 1 ≤ houses) (h2 : houses ≤ most + 1) (h3 : most ≤ 99) (hw : wd ≤ 1000) :
    ∃ (w : Web) (c' : Cell), m__law_draw_web [.hd 0, .int houses, .int most, .int wd] [c] = some (.fro (webD w), [c']) ∧ WebOk w houses most ∧ PenOk (n + 2000) c' := by
  obtain ⟨v, c1, e1, v0, v1, p1⟩ := v_take h (by omega) (houses : Int) (by omega) (by omega)
  obtain ⟨v, rfl⟩ := nat_of v0
  obtain ⟨size, hsz, hs1, hs2⟩ : ∃ size : Nat, 1 + (v : Int) = (size : Int) ∧ 1 ≤ size ∧ size ≤ houses := ⟨1 + v, by omega, by omega, by omega⟩
  obtain ⟨ps, c2, e2, l2, P2, p2⟩ := dw_tree p1 (by omega) (.int houses) (.int most) (.int wd) size hs1 (by omega)
  obtain ⟨ps', c3, g6, g7, e3, l3, P3, p3⟩ := dw_more p2 (by omega) (.int houses) (.int wd) most size (by omega) hs1 (by omega) l2 P2
  obtain ⟨nm, c4, g9, e4, N, p4⟩ := dw_names p3 (by omega) (.int houses) (.int most) (.int wd) size (by omega) (.own (.lst (ps'.map prD))) g6 g7
  have e5 := dw_ren (c := c4) (a1 := .int houses) (a2 := .int most) (a3 := .int wd) (g6 := g6) (g7 := g7) (g9 := g9) N P3 (by omega) (.fro (.int size))
  obtain ⟨rs, c6, e6, l6, R6, p6⟩ := dw_roads p4 (by omega) (.int houses) (.int most) wd hw (.fro (.int size)) g6 g7 (.fro (.lst (nm.map fun k : Nat => D.int (k : Int)))) g9 (ps := ps'.map (nmP nm)) (by rw [List.length_map]; omega)
  refine ⟨⟨size, rs⟩, c6, ?_, ?_, p6.mono (by omega)⟩
  · simp only [List.map_map] at e5 e6
    simp [m__law_draw_web, ev__law_draw_web, e1, hsz, e2, e3, e4, e5, e6, dTuple, webD]
  · have key : ∀ (i : Nat) r, rs[i]? = some r → ∃ p, ps'[i]? = some p ∧ r.a = (nmP nm p).1 ∧ r.b = (nmP nm p).2 ∧ r.lo ≤ r.hi ∧ r.hi ≤ 99 := fun i r hr => by
      have hil : i < ps'.length := by have := (List.getElem?_eq_some_iff.mp hr).1; rw [List.length_map] at l6; omega
      exact ⟨ps'[i], List.getElem?_eq_getElem hil, R6 i (nmP nm ps'[i]) r (by rw [List.getElem?_map, List.getElem?_eq_getElem hil]; rfl) hr⟩
    have hlen := N.len
    have lt_ : ∀ p ∈ ps', p.1 < p.2 ∧ p.2 < size := P3.lt
    have ne_ : ∀ p ∈ ps', nm.getD p.1 0 ≠ nm.getD p.2 0 ∧ nm.getD p.1 0 < size ∧ nm.getD p.2 0 < size := fun p hp => by
      obtain ⟨q1, q2⟩ := lt_ p hp
      have g1 := nm_get (nm := nm) (i := p.1) (by omega)
      have g2 := nm_get (nm := nm) (i := p.2) (by omega)
      refine ⟨fun e => ?_, N.lt _ (List.mem_of_getElem? g1), N.lt _ (List.mem_of_getElem? g2)⟩
      rw [← e] at g2
      have h12 : p.1 = p.2 := (List.getElem_inj N.nd).mp ((List.getElem?_eq_some_iff.mp g1).2.trans (List.getElem?_eq_some_iff.mp g2).2.symm)
      omega
    refine ⟨hs1, hs2, by rw [l6, List.length_map]; exact l3, fun r hr => ?_, fun r hr => ?_, nm, N.len, N.nd, N.lt, fun x x1 x2 => ?_⟩
    · obtain ⟨i, hi⟩ := List.getElem?_of_mem hr
      obtain ⟨p, hp, ea, eb, _⟩ := key i r hi
      obtain ⟨q1, q2, q3⟩ := ne_ p (List.mem_of_getElem? hp)
      rw [ea, eb]
      show min _ _ < max _ _ ∧ max _ _ < size
      omega
    · obtain ⟨i, hi⟩ := List.getElem?_of_mem hr
      obtain ⟨p, hp, ea, eb, q⟩ := key i r hi
      exact q
    · obtain ⟨a, ha, hm⟩ := P3.cn x x1 x2
      obtain ⟨i, hi⟩ := List.getElem?_of_mem hm
      have hil : i < rs.length := by have := (List.getElem?_eq_some_iff.mp hi).1; rw [l6, List.length_map]; exact this
      obtain ⟨p, hp, ea, eb, _⟩ := key i rs[i] (List.getElem?_eq_getElem hil)
      rw [hi] at hp
      cases hp
      have hx2 : x < size := x2
      have g1 := nm_get (nm := nm) (i := a) (by omega)
      have g2 := nm_get (nm := nm) (i := x) (by omega)
      refine ⟨a, rs[i], ha, List.getElem_mem hil, ?_⟩
      rw [ea, eb, g1, g2]
      show (some _ = some (min (nm.getD a 0) (nm.getD x 0)) ∧ some _ = some (max (nm.getD a 0) (nm.getD x 0))) ∨ (some _ = some (max (nm.getD a 0) (nm.getD x 0)) ∧ some _ = some (min (nm.getD a 0) (nm.getD x 0)))
      by_cases hle : nm.getD a 0 ≤ nm.getD x 0
      · left; rw [Nat.min_eq_left hle, Nat.max_eq_right hle]; exact ⟨rfl, rfl⟩
      · right; rw [Nat.min_eq_right (by omega), Nat.max_eq_left (by omega)]; exact ⟨rfl, rfl⟩
end G

namespace G
open PySem PySem.Spec L2 Pv
theorem pairUp_self : ∀ xs : List D, pairUp xs xs = xs.map fun x => .tup [x, x]
  | [] => rfl
  | x :: xs => by rw [pairUp, pairUp_self xs]; rfl
theorem deq_ft (n : Nat) : (List.replicate n (D.bl true)).any (fun z => deq z (.bl false)) = false := by
  rw [List.any_eq_false]
  intro x hx
  rw [List.eq_of_mem_replicate hx]
  simp
theorem eqOk_rep (n : Nat) : (List.replicate n (D.bl true)).all (eqOk 49) = true := by
  rw [List.all_eq_true]
  intro x hx
  rw [List.eq_of_mem_replicate hx]
  rfl
theorem notin_rep (n : Nat) : dNotIn (.bl false) (.lst (List.replicate n (.bl true))) = some (.fro (.bl true)) := by
  have : eqOk 49 (.bl false) = true := rfl
  simp only [dNotIn, isIn, eqOk_rep, this, deq_ft, Bool.and_self, if_true, Option.map_some, Bool.not_false]
/-- lists no longer than a million, all through -/
def shortD : Nat → D → Bool
  | n + 1, .tup xs => decide (xs.length ≤ 1000000) && xs.all (shortD n)
  | n + 1, .lst xs => decide (xs.length ≤ 1000000) && xs.all (shortD n)
  | 0, .tup _ => false
  | 0, .lst _ => false
  | _, .dct _ _ => false
  | _, .hd _ => false
  | _, .scr _ => false
  | _, _ => true
theorem same_seq {m : Fm} {xs : List D} {st : List Cell} (a b : D) (h : ∀ x ∈ xs, m [x, x] st = some (.fro (.bl true), st)) (hl : xs.length ≤ 1000000) (ab : dZip [a, b] = some (pairUp xs xs)) :
    evLc (evArgs dZip (evCons (evName 0) (evCons (evName 1) (evNil)))) [] [2, 3] (tgTup 2 (tgCons (tgName 2) (tgCons (tgName 3) (tgNil)))) (evYes) (evCall m (evCons (evName 2) (evCons (evName 3) (evNil)))) ⟨[.fro a, .fro b, .non, .non], st⟩ =
      some (.own (.lst (List.replicate xs.length (.bl true))), ⟨[.fro a, .fro b, .non, .non], st⟩) := by
  have := lc_map (α := D) (fun x => .tup [x, x]) (fun _ => true) (fun _ => .bl true) xs (it := evArgs dZip (evCons (evName 0) (evCons (evName 1) (evNil)))) (cap := []) (vs := [2, 3]) (t := tgTup 2 (tgCons (tgName 2) (tgCons (tgName 3) (tgNil)))) (c := evYes) (e := evCall m (evCons (evName 2) (evCons (evName 3) (evNil))))
    (s := ⟨[.fro a, .fro b, .non, .non], st⟩) (s' := ⟨[.fro a, .fro b, .non, .non], st⟩) (by simp [ab, pairUp_self]) hl (fun x hx => ⟨⟨[.fro a, .fro b, .fro x, .fro x], st⟩, _, by simp, rfl, rfl, fun _ => ⟨.fro (.bl true), ⟨[.fro a, .fro b, .fro x, .fro x], st⟩, by simp [h x hx], rfl, rfl⟩⟩)
  rw [this, List.filter_eq_self.mpr fun _ _ => rfl, List.map_const']
  rfl
theorem v_same : ∀ (k : Nat) (d : D) (st : List Cell), shortD k d = true → m__law_same (k + 1) [d, d] st = some (.fro (.bl true), st)
  | k, .non, st, _ => by simp [m__law_same, ev__law_same]
  | k, .bl b, st, _ => by simp [m__law_same, ev__law_same]
  | k, .int b, st, _ => by simp [m__law_same, ev__law_same]
  | k, .str b, st, _ => by simp [m__law_same, ev__law_same, dEq]
  | 0, .tup xs, st, h => by simp [shortD] at h
  | 0, .lst xs, st, h => by simp [shortD] at h
  | k + 1, .tup xs, st, h2 => by
    simp only [shortD, Bool.and_eq_true, decide_eq_true_eq, List.all_eq_true] at h2
    have := same_seq (m := m__law_same (k + 1)) (st := st) (.tup xs) (.tup xs) (fun x hx => v_same k x st (h2.2 x hx)) h2.1 rfl
    unfold m__law_same
    simp [ev__law_same, this, notin_rep]
  | k + 1, .lst xs, st, h2 => by
    simp only [shortD, Bool.and_eq_true, decide_eq_true_eq, List.all_eq_true] at h2
    have := same_seq (m := m__law_same (k + 1)) (st := st) (.lst xs) (.lst xs) (fun x hx => v_same k x st (h2.2 x hx)) h2.1 rfl
    unfold m__law_same
    simp [ev__law_same, this, notin_rep]
  | k, .dct _ _, st, h => by cases k <;> simp [shortD] at h
  | k, .hd _, st, h => by cases k <;> simp [shortD] at h
  | k, .scr _, st, h => by cases k <;> simp [shortD] at h
end G

namespace G
open PySem PySem.Spec L2 Pv
theorem v_ends_of {w : Web} {i : Nat} {r : Rd} (h : w.rs[i]? = some r) (st : List Cell) : m_ends_of [webD w, .int i] st = some (.fro (.tup [.int r.a, .int r.b]), st) := by
  simp [m_ends_of, ev_ends_of, ix_roads h]
/-- does the road cross -/
def crs (side : List Nat) (r : Rd) : Bool := decide (r.a ∈ side) != decide (r.b ∈ side)
def crossP (w : Web) (side : List Nat) : List Nat := (List.range w.rs.length).filter fun i => match w.rs[i]? with
  | some r => crs side r
  | none => false
theorem v_law_cross (w : Web) (side : List Nat) (hm : w.rs.length ≤ 1000) (st : List Cell) : m__law_cross [webD w, tU side] st = some (.own (.lst ((crossP w side).map nD)), st) := by
  have s6 : small62 (w.rs.length : Int) = true := small62_nat (by omega)
  have := lc_map (α := Nat) nD (fun i => match w.rs[i]? with
      | some r => crs side r
      | none => false) nD (List.range w.rs.length) (it := evRng1 (evCons (evN dLen (evConsB (evV (ev2 dIx (evSlot 0) (evV (evC (.int 1))))) (evNilB))) (evNil))) (cap := [1, 0]) (vs := [2]) (t := tgName 2)
    (c := evB (ev2 dNe (evV (ev2 dIn (evV (ev2 dIx (evV (ev2 dIx (evV (ev2 dIx (evSlot 0) (evV (evC (.int 1))))) (evSlot 2))) (evV (evC (.int 0))))) (evSlot 1))) (evV (ev2 dIn (evV (ev2 dIx (evV (ev2 dIx (evV (ev2 dIx (evSlot 0) (evV (evC (.int 1))))) (evSlot 2))) (evV (evC (.int 1))))) (evSlot 1))))) (e := evName 2)
    (s := ⟨[.fro (webD w), .fro (tU side), .non], st⟩) (s' := ⟨[.fro (webD w), .fro (tU side), .non], st⟩) (by simp [s6, upToN]) (by simp; omega) (fun i hi => by
      have hi := List.mem_range.mp hi
      have hr := List.getElem?_eq_getElem hi
      rw [hr]
      refine ⟨⟨[.fro (webD w), .fro (tU side), .fro (nD i)], st⟩, ⟨[.fro (webD w), .fro (tU side), .fro (nD i)], st⟩, by simp, ?_, rfl, fun _ => ⟨.fro (nD i), ⟨[.fro (webD w), .fro (tU side), .fro (nD i)], st⟩, by simp, rfl, rfl⟩⟩
      simp [nD, ix_roads hr, tU, dIn_nat, crs]
      generalize decide (w.rs[i].a ∈ side) = p
      generalize decide (w.rs[i].b ∈ side) = q
      cases p <;> cases q <;> rfl)
  simp [m__law_cross, ev__law_cross, this]
  rfl
theorem v_crossing (w : Web) (side : List Nat) (hm : w.rs.length ≤ 1000) (st : List Cell) : m_crossing [webD w, tU side] st = some (.own (.lst ((crossP w side).map nD)), st) := by
  have s6 : small62 (w.rs.length : Int) = true := small62_nat (by omega)
  let P : Nat → Bool := fun i => match w.rs[i]? with
      | some r => crs side r
      | none => false
  obtain ⟨s', hs, g3, g4, g5, rfl⟩ := forS_inv (it := evRng1 (evCons (evN dLen (evConsB (evV (ev2 dIx (evSlot 0) (evV (evC (.int 1))))) (evNilB))) (evNil))) (t := tgName 3)
    (b := evSeq (evAsg (tgTup 2 (tgCons (tgName 4) (tgCons (tgName 5) (tgNil)))) (evCall m_ends_of (evCons (evName 0) (evCons (evName 3) (evNil))))) (evIf (evB (ev2 dNe (evV (ev2 dIn (evSlot 4) (evSlot 1))) (evV (ev2 dIn (evSlot 5) (evSlot 1))))) (evDrop (evMut "list" 2 mAppend (evCons (evName 3) (evNil)))) (evPass)))
    (fun i s => ∃ g3 g4 g5, s = ⟨[.fro (webD w), .fro (tU side), .own (.lst (((List.range i).filter P).map nD)), g3, g4, g5], st⟩)
    (ds := (List.range w.rs.length).map nD) (s := ⟨[.fro (webD w), .fro (tU side), .own (.lst []), .non, .non, .non], st⟩) (by simp [s6, upToN]) ⟨.non, .non, .non, rfl⟩ (fun i d s hd ⟨g3, g4, g5, es⟩ => by
      subst es
      rw [List.getElem?_map] at hd
      obtain ⟨x, hx, rfl⟩ := Option.map_eq_some_iff.mp hd
      obtain ⟨hi, hx⟩ := List.getElem?_eq_some_iff.mp hx
      rw [List.length_range] at hi
      rw [List.getElem_range] at hx
      subst hx
      have hr := List.getElem?_eq_getElem hi
      have hl : (((List.range i).filter P).map nD).length < 1000000 := by
        have := List.length_filter_le P (List.range i)
        rw [List.length_range] at this
        rw [List.length_map]; omega
      have hP : P i = crs side w.rs[i] := by show (match w.rs[i]? with | some r => crs side r | none => false) = _; rw [hr]
      by_cases hc : crs side w.rs[i] = true
      · refine ⟨⟨[.fro (webD w), .fro (tU side), .own (.lst (((List.range i).filter P).map nD)), .fro (nD i), g4, g5], st⟩, .nx, ⟨[.fro (webD w), .fro (tU side), .own (.lst (((List.range (i + 1)).filter P).map nD)), .fro (nD i), .fro (nD w.rs[i].a), .fro (nD w.rs[i].b)], st⟩, by simp, ?_, .inl rfl, _, _, _, rfl⟩
        rw [List.range_succ, List.filter_append, List.filter_cons_of_pos (by rw [hP]; exact hc), List.filter_nil, List.map_append]
        unfold crs at hc
        have ha := append_ok (x := nD i) hl
        simp [nD] at ha hc
        simp [nD, v_ends_of hr, tU, dIn_nat, hc, ha]
      · refine ⟨⟨[.fro (webD w), .fro (tU side), .own (.lst (((List.range i).filter P).map nD)), .fro (nD i), g4, g5], st⟩, .nx, ⟨[.fro (webD w), .fro (tU side), .own (.lst (((List.range (i + 1)).filter P).map nD)), .fro (nD i), .fro (nD w.rs[i].a), .fro (nD w.rs[i].b)], st⟩, by simp, ?_, .inl rfl, _, _, _, rfl⟩
        rw [List.range_succ, List.filter_append, List.filter_cons_of_neg (by rw [hP]; exact hc), List.filter_nil, List.append_nil]
        unfold crs at hc
        simp [nD] at hc
        simp [nD, v_ends_of hr, tU, dIn_nat, hc])
  rw [List.length_map, List.length_range] at hs
  simp [m_crossing, ev_crossing, hs]
  rfl
end G

namespace G
open PySem PySem.Spec L2 Pv
def insS (x : Nat) : List Nat → List Nat
  | [] => [x]
  | y :: ys => if x ≤ y then x :: y :: ys else y :: insS x ys
def isort : List Nat → List Nat
  | [] => []
  | x :: xs => insS x (isort xs)
theorem insS_perm (x : Nat) : ∀ ys : List Nat, (insS x ys).Perm (x :: ys)
  | [] => List.Perm.refl _
  | y :: ys => by
    unfold insS
    split
    · exact List.Perm.refl _
    · exact ((insS_perm x ys).cons y).trans (List.Perm.swap x y ys)
theorem isort_perm : ∀ xs : List Nat, (isort xs).Perm xs
  | [] => List.Perm.refl _
  | x :: xs => (insS_perm x _).trans ((isort_perm xs).cons x)
theorem insS_pair (x : Nat) : ∀ ys : List Nat, ys.Pairwise (· ≤ ·) → (insS x ys).Pairwise (· ≤ ·)
  | [], _ => by simp [insS]
  | y :: ys, h => by
    rw [List.pairwise_cons] at h
    unfold insS
    split
    · rename_i hxy
      rw [List.pairwise_cons]
      refine ⟨fun z hz => ?_, List.pairwise_cons.mpr h⟩
      rcases List.mem_cons.mp hz with rfl | hz
      · exact hxy
      · have := h.1 z hz; omega
    · rename_i hxy
      rw [List.pairwise_cons]
      refine ⟨fun z hz => ?_, insS_pair x ys h.2⟩
      rcases List.mem_cons.mp ((insS_perm x ys).mem_iff.mp hz) with rfl | hz
      · omega
      · exact h.1 z hz
theorem isort_pair : ∀ xs : List Nat, (isort xs).Pairwise (· ≤ ·)
  | [] => List.Pairwise.nil
  | x :: xs => insS_pair x _ (isort_pair xs)
theorem dle_nD (x y : Nat) : dle (nD x) (nD y) = decide (x ≤ y) := by
  have : dle (nD x) (nD y) = !decide ((y : Int) < (x : Int)) := by
    show (!PyProof.Rows.lexLt PyProof.Rows.itemOrd [Sum.inl (y : Int)] [Sum.inl (x : Int)]) = _
    by_cases h : (y : Int) < (x : Int)
    · simp [PyProof.Rows.lexLt, PyProof.Rows.itemLt, h]
    · simp [PyProof.Rows.lexLt, PyProof.Rows.itemLt, h]
  rw [this]
  by_cases h : x ≤ y
  · simp [h]
  · simp [h]; omega
theorem sorted_nD (xs : List Nat) : (xs.map nD).mergeSort dle = (isort xs).map nD := by
  have e := PySem.W.sort_maps (r := fun a b : Nat => decide (a ≤ b)) (s := dle) nD (l := xs) fun a _ b _ => (dle_nD a b).symm
  rw [← e]
  congr 1
  refine List.Perm.eq_of_pairwise (le := fun a b => a ≤ b) (fun a b _ _ h1 h2 => Nat.le_antisymm h1 h2) ?_ (isort_pair xs) ((List.mergeSort_perm _ _).trans (isort_perm xs).symm)
  have := List.pairwise_mergeSort (le := fun a b : Nat => decide (a ≤ b)) (fun a b c h1 h2 => by simp at *; omega) (fun a b => by simp; omega) xs
  exact this.imp fun h => by simpa using h
theorem noTup_nD (xs : List Nat) (hl : xs.length ≤ 1000000) : sortOk (xs.map nD) = true := by
  unfold sortOk
  simp only [Bool.and_eq_true, Bool.or_eq_true, decide_eq_true_eq, List.length_map, List.all_eq_true, List.mem_map]
  refine ⟨⟨⟨hl, ?_⟩, ?_⟩, .inr ?_⟩
  · rintro _ ⟨x, _, rfl⟩; rfl
  · rintro _ ⟨x, _, rfl⟩ _ ⟨y, _, rfl⟩; rfl
  · rintro _ ⟨x, _, rfl⟩; rfl
theorem dSorted_nT {xs : List Nat} (hl : xs.length ≤ 1000000) : dSorted [.tup (xs.map nD)] = some (.own (.lst ((isort xs).map nD))) := by
  simp only [dSorted, noTup_nD xs hl, if_true, sorted_nD]
theorem dSorted_nL {xs : List Nat} (hl : xs.length ≤ 1000000) : dSorted [.lst (xs.map nD)] = some (.own (.lst ((isort xs).map nD))) := by
  simp only [dSorted, noTup_nD xs hl, if_true, sorted_nD]
def sideStep (a b : Nat) (F : List (List Nat)) (h : Nat) : List (List Nat) := if h = a then F.map (· ++ [h]) else if h = b then F else F ++ F.map (· ++ [h])
def sidesP (n a b : Nat) : List (List Nat) := (List.range n).foldl (sideStep a b) [[]]
def subsP : Nat → List Nat → List (List Nat)
  | 0, _ => [[]]
  | c + 1, xs => (List.range (xs.length - c)).flatMap fun k => (subsP c (xs.drop (k + 1))).map (xs.getD k 0 :: ·)
def restP (n a b : Nat) : List Nat := (List.range n).filter fun h => !decide (h ∈ [a, b])
def lawSidesP (n a b : Nat) : List (List Nat) := (List.range ((restP n a b).length + 1)).flatMap fun c => (subsP c (restP n a b)).map fun more => isort (a :: more)
theorem sides_perm : ∀ n, n ≤ 6 → ∀ b, b < n → ∀ a, a < b → (sidesP n a b).isPerm (lawSidesP n a b) = true ∧ (sidesP n a b).all (fun s => !s.isEmpty) = true ∧ (sidesP n a b).length ≤ 1000 := by decide +kernel
theorem addT_one {x : List Nat} {h : Nat} (hx : x.length ≤ 1000) : dAdd (tU x) (.tup [nD h]) = some (.fro (tU (x ++ [h]))) := by
  have := addT_ok (a := x.map nD) (b := [nD h]) (by simp; omega)
  rw [show x.map nD ++ [nD h] = (x ++ [h]).map nD by simp] at this
  exact this
theorem cons_tU {x : List Nat} {h : Nat} (hx : x.length ≤ 1000) : dAdd (.tup [nD h]) (tU x) = some (.fro (tU (h :: x))) := by
  have := addT_ok (a := [nD h]) (b := x.map nD) (by simp; omega)
  exact this
/-- [side + (house,) for side in found] -/
theorem side_lc {b0 b1 b2 b3 : D} {h : Nat} {F : List (List Nat)} {st : List Cell} {s4 : Slot} (h4 : s4 = .own (.lst (F.map tU)) ∨ s4 = .fro (.lst (F.map tU))) (hl : F.length ≤ 1000) (hx : ∀ x ∈ F, x.length ≤ 1000) :
    evLc (evItS (evName 4)) [5] [6] (tgName 6) (evYes) (ev2 dAdd (evSlot 6) (evV (evTup (evCons (evName 5) (evNil))))) ⟨[.fro b0, .fro b1, .fro b2, .fro b3, s4, .fro (nD h), .non], st⟩ =
      some (.own (.lst ((F.map (· ++ [h])).map tU)), ⟨[.fro b0, .fro b1, .fro b2, .fro b3, .fro (.lst (F.map tU)), .fro (nD h), .non], st⟩) := by
  have := lc_map (α := List Nat) tU (fun _ => true) (fun x => tU (x ++ [h])) F (it := evItS (evName 4)) (cap := [5]) (vs := [6]) (t := tgName 6) (c := evYes) (e := ev2 dAdd (evSlot 6) (evV (evTup (evCons (evName 5) (evNil)))))
    (s := ⟨[.fro b0, .fro b1, .fro b2, .fro b3, s4, .fro (nD h), .non], st⟩) (s' := ⟨[.fro b0, .fro b1, .fro b2, .fro b3, .fro (.lst (F.map tU)), .fro (nD h), .non], st⟩) (by rcases h4 with rfl | rfl <;> simp) (by omega) (fun x hm =>
      ⟨⟨[.fro b0, .fro b1, .fro b2, .fro b3, .fro (.lst (F.map tU)), .fro (nD h), .fro (tU x)], st⟩, ⟨[.fro b0, .fro b1, .fro b2, .fro b3, .fro (.lst (F.map tU)), .fro (nD h), .fro (tU x)], st⟩, by simp, rfl, rfl, fun _ => ⟨.fro (tU (x ++ [h])), ⟨[.fro b0, .fro b1, .fro b2, .fro b3, .fro (.lst (F.map tU)), .fro (nD h), .fro (tU x)], st⟩, by simp [addT_one (hx x hm)], rfl, rfl⟩⟩)
  rw [this, List.filter_eq_self.mpr fun _ _ => rfl, List.map_map]
  rfl
theorem sideStep_len {a b h : Nat} {F : List (List Nat)} {k : Nat} (h1 : F.length ≤ 2 ^ k) (h2 : ∀ x ∈ F, x.length ≤ k) : (sideStep a b F h).length ≤ 2 ^ (k + 1) ∧ ∀ x ∈ sideStep a b F h, x.length ≤ k + 1 := by
  have e : 2 ^ (k + 1) = 2 * 2 ^ k := by rw [Nat.pow_succ]; omega
  have h3 : ∀ x ∈ F.map (· ++ [h]), x.length ≤ k + 1 := fun x hx => by
    obtain ⟨y, hy, rfl⟩ := List.mem_map.mp hx
    have := h2 y hy
    simp; omega
  unfold sideStep
  split
  · exact ⟨by rw [List.length_map]; omega, h3⟩
  · split
    · exact ⟨by omega, fun x hx => by have := h2 x hx; omega⟩
    · refine ⟨by rw [List.length_append, List.length_map]; omega, fun x hx => ?_⟩
      rcases List.mem_append.mp hx with hx | hx
      · have := h2 x hx; omega
      · exact h3 x hx
theorem v_sides {w : Web} {i : Nat} {r : Rd} (hr : w.rs[i]? = some r) (hn : w.n ≤ 6) (hab : r.a < r.b) (hb : r.b < w.n) (st : List Cell) : m_sides [webD w, .int i] st = some (.own (.lst (((sidesP w.n r.a r.b).map tU).mergeSort dle)), st) := by
  have s6 : small62 (w.n : Int) = true := small62_nat (by omega)
  obtain ⟨s', hs, g5, rfl, _⟩ := forS_inv (it := evRng1 (evCons (ev2 dIx (evSlot 0) (evV (evC (.int 0)))) (evNil))) (t := tgName 5)
    (b := evIf (evB (ev2 dEq (evSlot 5) (evSlot 2))) (evSet 4 (evLc (evItS (evName 4)) [5] [6] (tgName 6) (evYes) (ev2 dAdd (evSlot 6) (evV (evTup (evCons (evName 5) (evNil))))))) (evIf (evB (ev2 dNe (evSlot 5) (evSlot 3))) (evSet 4 (ev2 dAdd (evSlot 4) (evV (evLc (evItS (evName 4)) [5] [6] (tgName 6) (evYes) (ev2 dAdd (evSlot 6) (evV (evTup (evCons (evName 5) (evNil))))))))) (evPass)))
    (fun k s => ∃ g5, s = ⟨[.fro (webD w), .fro (.int i), .fro (nD r.a), .fro (nD r.b), .own (.lst (((List.range k).foldl (sideStep r.a r.b) [[]]).map tU)), g5, .non], st⟩ ∧ ((List.range k).foldl (sideStep r.a r.b) [[]]).length ≤ 2 ^ k ∧ ∀ x ∈ (List.range k).foldl (sideStep r.a r.b) [[]], x.length ≤ k)
    (ds := (List.range w.n).map nD) (s := ⟨[.fro (webD w), .fro (.int i), .fro (nD r.a), .fro (nD r.b), .own (.lst [.tup []]), .non, .non], st⟩) (s0 := ⟨[.fro (webD w), .fro (.int i), .fro (nD r.a), .fro (nD r.b), .own (.lst [.tup []]), .non, .non], st⟩) (by simp [s6, upToN]) ⟨.non, by simp [tU], by simp, by simp⟩ (fun k d s hd ⟨g5, es, l1, l2⟩ => by
      subst es
      rw [List.getElem?_map] at hd
      obtain ⟨x, hx, rfl⟩ := Option.map_eq_some_iff.mp hd
      obtain ⟨hk, hx⟩ := List.getElem?_eq_some_iff.mp hx
      rw [List.length_range] at hk
      rw [List.getElem_range] at hx
      subst hx
      have hp : (2 : Nat) ^ k ≤ 64 := by
        have := Nat.pow_le_pow_right (n := 2) (by decide) (show k ≤ 6 by omega)
        simpa using this
      obtain ⟨m1, m2⟩ := sideStep_len (a := r.a) (b := r.b) (h := k) l1 l2
      have e : (List.range (k + 1)).foldl (sideStep r.a r.b) [[]] = sideStep r.a r.b ((List.range k).foldl (sideStep r.a r.b) [[]]) k := by
        rw [List.range_succ, List.foldl_append]; rfl
      rw [e]
      generalize (List.range k).foldl (sideStep r.a r.b) [[]] = F at l1 l2 m1 m2 ⊢
      have lc := side_lc (b0 := webD w) (b1 := .int i) (b2 := nD r.a) (b3 := nD r.b) (h := k) (F := F) (st := st) (.inl rfl) (by omega) (fun x hx => by have := l2 x hx; omega)
      refine ⟨⟨[.fro (webD w), .fro (.int i), .fro (nD r.a), .fro (nD r.b), .own (.lst (F.map tU)), .fro (nD k), .non], st⟩, .nx, ⟨[.fro (webD w), .fro (.int i), .fro (nD r.a), .fro (nD r.b), .own (.lst ((sideStep r.a r.b F k).map tU)), .fro (nD k), .non], st⟩, by simp, ?_, .inl rfl, _, rfl, m1, m2⟩
      have dk : ∀ x y : Nat, dEq (nD x) (nD y) = some (.fro (.bl (decide (x = y)))) := fun x y => by
        have := dEq_int (x : Int) (y : Int)
        by_cases h : x = y
        · subst h; simpa [nD] using this
        · have h' : ¬ (x : Int) = (y : Int) := by omega
          simp [h, nD]; omega
      have dn : ∀ x y : Nat, dNe (nD x) (nD y) = some (.fro (.bl (!decide (x = y)))) := fun x y => by
        by_cases h : x = y
        · subst h; simp [nD]
        · simp [h, nD]; omega
      unfold sideStep
      by_cases h1 : k = r.a
      · rw [if_pos h1]
        have d1 : dEq (nD k) (nD r.a) = some (.fro (.bl true)) := by rw [dk, decide_eq_true h1]
        simp [d1, lc]
      · rw [if_neg h1]
        have d1 : dEq (nD k) (nD r.a) = some (.fro (.bl false)) := by rw [dk, decide_eq_false h1]
        by_cases h2 : k = r.b
        · rw [if_pos h2]
          have d2 : dNe (nD k) (nD r.b) = some (.fro (.bl false)) := by rw [dn, decide_eq_true h2]; rfl
          simp [d1, d2]
        · rw [if_neg h2]
          have d2 : dNe (nD k) (nD r.b) = some (.fro (.bl true)) := by rw [dn, decide_eq_false h2]; rfl
          have ad := addL_ok (a := F.map tU) (b := (F.map (· ++ [k])).map tU) (by simp; omega)
          rw [List.map_map] at ad lc
          simp [d1, d2, lc, ad])
  rw [List.length_map, List.length_range] at hs
  obtain ⟨q1, q2, q3⟩ := sides_perm w.n hn r.b hb r.a hab
  have so := dSorted_tU (xs := sidesP w.n r.a r.b) (by omega) (fun x hx => by have := List.all_eq_true.mp q2 x hx; rintro rfl; simp at this)
  have ha : D.int (r.a : Int) = nD r.a := rfl
  have hb' : D.int (r.b : Int) = nD r.b := rfl
  rw [show sidesP w.n r.a r.b = (List.range w.n).foldl (sideStep r.a r.b) [[]] from rfl] at so ⊢
  simp [m_sides, ev_sides, v_ends_of hr, ha, hb', hs, so]
theorem flat_len {α : Type} {f : Nat → List α} {B : Nat} : ∀ {k : Nat}, (∀ i, i < k → (f i).length ≤ B) → ((List.range k).flatMap f).length ≤ k * B
  | 0, _ => by simp
  | k + 1, h => by
    rw [List.range_succ, List.flatMap_append, List.length_append, Nat.add_mul]
    have h1 := flat_len (k := k) (f := f) fun i hi => h i (by omega)
    have h2 := h k (by omega)
    rw [List.flatMap_cons, List.flatMap_nil, List.append_nil]
    omega
theorem subs_len {L : Nat} : ∀ (c : Nat) (xs : List Nat), xs.length ≤ L → (subsP c xs).length ≤ (L + 1) ^ c ∧ ∀ x ∈ subsP c xs, x.length = c
  | 0, xs, _ => by simp [subsP]
  | c + 1, xs, h => by
    refine ⟨?_, fun x hx => ?_⟩
    · have := flat_len (k := xs.length - c) (f := fun k => (subsP c (xs.drop (k + 1))).map (xs.getD k 0 :: ·)) (B := (L + 1) ^ c) fun i hi => by
        rw [List.length_map]
        exact (subs_len c _ (by rw [List.length_drop]; omega)).1
      refine Nat.le_trans this ?_
      rw [Nat.pow_succ, Nat.mul_comm]
      exact Nat.mul_le_mul_left _ (by omega)
    · obtain ⟨k, _, hx⟩ := List.mem_flatMap.mp hx
      obtain ⟨y, hy, rfl⟩ := List.mem_map.mp hx
      rw [List.length_cons, (subs_len (L := L) c _ (by rw [List.length_drop]; omega)).2 y hy]
theorem v_subsets {L : Nat} (hL : L ≤ 5) : ∀ (c k : Nat) (xs : List Nat) (st : List Cell), c ≤ k → c ≤ 5 → xs.length ≤ L → m__law_subsets (k + 1) [.lst (xs.map nD), .int c] st = some (.own (.lst ((subsP c xs).map tU)), st)
  | 0, k, xs, st, _, _, _ => by
    unfold m__law_subsets
    simp [ev__law_subsets, subsP, tU]
  | c + 1, 0, xs, st, h, _, _ => by omega
  | c + 1, k + 1, xs, st, hk, hc, hl => by
    have ih := fun j st => v_subsets hL c k (xs.drop (j + 1)) st (by omega) (by omega) (by rw [List.length_drop]; omega)
    obtain ⟨ci, hci, c0, c1⟩ : ∃ ci : Int, ci = ((c + 1 : Nat) : Int) ∧ ci ≠ 0 ∧ ci - 1 = (c : Int) := ⟨_, rfl, by omega, by omega⟩
    obtain ⟨j, s6, hj⟩ : ∃ j : Int, (xs.length : Int) - ci + 1 = j ∧ j.toNat = xs.length - c := ⟨_, rfl, by omega⟩
    have s7 : small62 j = true := by unfold small62; simp only [Bool.and_eq_true, decide_eq_true_eq]; omega
    have bd : ∀ i, i < xs.length - c → ((subsP c (xs.drop (i + 1))).map (xs.getD i 0 :: ·)).length ≤ 6 ^ 5 := fun i hi => by
      rw [List.length_map]
      refine Nat.le_trans (subs_len (L := 5) c _ (by rw [List.length_drop]; omega)).1 (Nat.pow_le_pow_right (by decide) (by omega))
    rw [← hci]
    obtain ⟨s', hs, g3, rfl⟩ := forS_inv (it := evRng1 (evCons (ev2 dAdd (evV (ev2 dSub (evV (evN dLen (evConsB (evSlot 0) (evNilB)))) (evSlot 1))) (evV (evC (.int 1)))) (evNil))) (t := tgName 3)
      (b := evSet 2 (ev2 dAdd (evSlot 2) (evV (evLc (evItS (evCall (m__law_subsets (k + 1)) (evCons (evSl dSl (evSlot 0) (evPt (evV (ev2 dAdd (evSlot 3) (evV (evC (.int 1)))))) (evNo)) (evCons (ev2 dSub (evSlot 1) (evV (evC (.int 1)))) (evNil))))) [0, 3] [4] (tgName 4) (evYes) (ev2 dAdd (evV (evTup (evCons (ev2 dIx (evSlot 0) (evSlot 3)) (evNil)))) (evSlot 4))))))
      (fun i s => ∃ g3, s = ⟨[.fro (.lst (xs.map nD)), .fro (.int ci), .own (.lst (((List.range i).flatMap fun k => (subsP c (xs.drop (k + 1))).map (xs.getD k 0 :: ·)).map tU)), g3, .non], st⟩)
      (ds := (List.range (xs.length - c)).map nD) (s := ⟨[.fro (.lst (xs.map nD)), .fro (.int ci), .own (.lst []), .non, .non], st⟩) (s0 := ⟨[.fro (.lst (xs.map nD)), .fro (.int ci), .own (.lst []), .non, .non], st⟩) (by simp [s6, s7, hj, upToN]) ⟨.non, rfl⟩ (fun i d s hd ⟨g3, es⟩ => by
        subst es
        rw [List.getElem?_map] at hd
        obtain ⟨x, hx, rfl⟩ := Option.map_eq_some_iff.mp hd
        obtain ⟨hi, hx⟩ := List.getElem?_eq_some_iff.mp hx
        rw [List.length_range] at hi
        rw [List.getElem_range] at hx
        subst hx
        have hb := bd i hi
        have hacc := flat_len (k := i) (f := fun k => (subsP c (xs.drop (k + 1))).map (xs.getD k 0 :: ·)) (B := 6 ^ 5) fun q hq => bd q (by omega)
        have sl : subsP c (xs.drop (i + 1)) = subsP c (xs.drop (i + 1)) := rfl
        have lenS := (subs_len (L := 5) c (xs.drop (i + 1)) (by rw [List.length_drop]; omega))
        have hx : dIx (.lst (xs.map nD)) (nD i) = some (.fro (nD (xs.getD i 0))) := dIx_lst (by rw [List.getElem?_map, nm_get (by omega)]; rfl)
        obtain ⟨i1, hi1⟩ : ∃ i1 : Int, i1 = ((i + 1 : Nat) : Int) := ⟨_, rfl⟩
        have a1 : dAdd (nD i) (.int 1) = some (.fro (.int i1)) := by rw [hi1]; rfl
        have cut : dSl (.lst (xs.map nD)) (some i1) none = some (.own (.lst ((xs.drop (i + 1)).map nD))) := by
          rw [hi1]
          show some (RV.own (D.lst (cutL (xs.map nD) (some ((i + 1 : Nat) : Int)) none))) = _
          rw [cut_drop, List.map_drop]
        have pl := kPt2_ap (s := ⟨[.fro (.lst (xs.map nD)), .fro (.int ci), .own (.lst (((List.range i).flatMap fun k => (subsP c (xs.drop (k + 1))).map (xs.getD k 0 :: ·)).map tU)), .fro (nD i), .non], st⟩) (i := i1)
        have lc := lc_map (α := List Nat) tU (fun _ => true) (fun x => tU (xs.getD i 0 :: x)) (subsP c (xs.drop (i + 1))) (it := evItS (evCall (m__law_subsets (k + 1)) (evCons (evSl dSl (evSlot 0) (evPt (evV (ev2 dAdd (evSlot 3) (evV (evC (.int 1)))))) (evNo)) (evCons (ev2 dSub (evSlot 1) (evV (evC (.int 1)))) (evNil))))) (cap := [0, 3]) (vs := [4]) (t := tgName 4) (c := evYes) (e := ev2 dAdd (evV (evTup (evCons (ev2 dIx (evSlot 0) (evSlot 3)) (evNil)))) (evSlot 4))
          (s := ⟨[.fro (.lst (xs.map nD)), .fro (.int ci), .own (.lst (((List.range i).flatMap fun k => (subsP c (xs.drop (k + 1))).map (xs.getD k 0 :: ·)).map tU)), .fro (nD i), .non], st⟩) (s' := ⟨[.fro (.lst (xs.map nD)), .fro (.int ci), .own (.lst (((List.range i).flatMap fun k => (subsP c (xs.drop (k + 1))).map (xs.getD k 0 :: ·)).map tU)), .fro (nD i), .non], st⟩)
          (by simp [a1, cut, c1, ih i st, -List.map_drop]) (by have := bd i hi; rw [List.length_map] at this; omega) (fun x hm => ⟨⟨[.fro (.lst (xs.map nD)), .fro (.int ci), .non, .fro (nD i), .fro (tU x)], st⟩, ⟨[.fro (.lst (xs.map nD)), .fro (.int ci), .non, .fro (nD i), .fro (tU x)], st⟩, by simp, rfl, rfl, fun _ => ⟨.fro (tU (xs.getD i 0 :: x)), ⟨[.fro (.lst (xs.map nD)), .fro (.int ci), .non, .fro (nD i), .fro (tU x)], st⟩, by
            have := cons_tU (x := x) (h := xs.getD i 0) (by have := lenS.2 x hm; omega)
            simp only [List.getD_eq_getElem?_getD] at this hx ⊢
            simp [hx, this], rfl, rfl⟩⟩)
        rw [List.filter_eq_self.mpr fun _ _ => rfl] at lc
        refine ⟨⟨[.fro (.lst (xs.map nD)), .fro (.int ci), .own (.lst (((List.range i).flatMap fun k => (subsP c (xs.drop (k + 1))).map (xs.getD k 0 :: ·)).map tU)), .fro (nD i), .non], st⟩, .nx, ⟨[.fro (.lst (xs.map nD)), .fro (.int ci), .own (.lst (((List.range (i + 1)).flatMap fun k => (subsP c (xs.drop (k + 1))).map (xs.getD k 0 :: ·)).map tU)), .fro (nD i), .non], st⟩, by simp, ?_, .inl rfl, _, rfl⟩
        rw [List.range_succ, List.flatMap_append, List.map_append, List.flatMap_cons, List.flatMap_nil, List.append_nil, List.map_map]
        have ad := addL_ok (a := ((List.range i).flatMap fun k => (subsP c (xs.drop (k + 1))).map (xs.getD k 0 :: ·)).map tU) (b := (subsP c (xs.drop (i + 1))).map (fun x => tU (xs.getD i 0 :: x))) (by
          rw [List.length_map, List.length_map]
          rw [List.length_map] at hb
          exact Nat.le_trans (Nat.add_le_add (Nat.le_trans hacc (Nat.mul_le_mul_right _ (show i ≤ 5 by omega))) hb) (by decide))
        rw [show (tU ∘ fun x => xs.getD i 0 :: x) = fun x => tU (xs.getD i 0 :: x) from rfl]
        generalize ((List.range i).flatMap fun k => (subsP c (xs.drop (k + 1))).map (xs.getD k 0 :: ·)).map tU = A at lc ad ⊢
        generalize (subsP c (xs.drop (i + 1))).map (fun x => tU (xs.getD i 0 :: x)) = B at lc ad ⊢
        simp [lc, ad])
    rw [List.length_map, List.length_range] at hs
    unfold m__law_subsets
    simp [ev__law_subsets, c0, hs, subsP, List.map_flatMap]
theorem rest_len (n a b : Nat) : (restP n a b).length ≤ n := by
  have := List.length_filter_le (fun h => !decide (h ∈ [a, b])) (List.range n)
  rw [List.length_range] at this
  exact this
theorem rest_len5 : ∀ n, n ≤ 6 → ∀ b, b < n → ∀ a, a < b → (restP n a b).length ≤ 5 := by decide +kernel
theorem isort_len (xs : List Nat) : (isort xs).length = xs.length := (isort_perm xs).length_eq
theorem dTuple_nD (xs : List Nat) : dTuple [.lst (xs.map nD)] = some (.fro (tU xs)) := rfl
end G

namespace G
open PySem PySem.Spec L2 Pv
theorem as_rest {w : Web} {x1 : D} {a b : Nat} (hn : w.n ≤ 6) (st : List Cell) : evLc (evRng1 (evCons (ev2 dIx (evSlot 0) (evV (evC (.int 0)))) (evNil))) [2, 3] [7] (tgName 7) (evB (ev2 dNotIn (evSlot 7) (evV (evTup (evCons (evName 2) (evCons (evName 3) (evNil))))))) (evName 7) ⟨[.fro (webD w), .fro x1, .fro (nD a), .fro (nD b), .non, .non, .non, .non, .non], st⟩ =
      some (.own (.lst ((restP w.n a b).map nD)), ⟨[.fro (webD w), .fro x1, .fro (nD a), .fro (nD b), .non, .non, .non, .non, .non], st⟩) := by
    have s6 : small62 (w.n : Int) = true := small62_nat (by omega)
    have := lc_map (α := Nat) nD (fun h => !decide (h ∈ [a, b])) nD (List.range w.n) (it := evRng1 (evCons (ev2 dIx (evSlot 0) (evV (evC (.int 0)))) (evNil))) (cap := [2, 3]) (vs := [7]) (t := tgName 7) (c := evB (ev2 dNotIn (evSlot 7) (evV (evTup (evCons (evName 2) (evCons (evName 3) (evNil))))))) (e := evName 7)
      (s := ⟨[.fro (webD w), .fro x1, .fro (nD a), .fro (nD b), .non, .non, .non, .non, .non], st⟩) (s' := ⟨[.fro (webD w), .fro x1, .fro (nD a), .fro (nD b), .non, .non, .non, .non, .non], st⟩) (by simp [s6, upToN]) (by simp; omega) (fun x hx => by
        have := dNotIn_nat x [a, b]
        refine ⟨⟨[.fro (webD w), .fro x1, .fro (nD a), .fro (nD b), .non, .non, .non, .fro (nD x), .non], st⟩, ⟨[.fro (webD w), .fro x1, .fro (nD a), .fro (nD b), .non, .non, .non, .fro (nD x), .non], st⟩, by simp, ?_, rfl, fun _ => ⟨.fro (nD x), ⟨[.fro (webD w), .fro x1, .fro (nD a), .fro (nD b), .non, .non, .non, .fro (nD x), .non], st⟩, by simp, rfl, rfl⟩⟩
        have this : dNotIn (nD x) (.tup [nD a, nD b]) = some (.fro (.bl (!decide (x ∈ [a, b])))) := this
        generalize (!decide (x ∈ [a, b])) = q at this ⊢
        simp [this])
    rw [this]
    rfl
theorem as_sorted {n a b : Nat} (rl : (restP n a b).length ≤ 5) (bd : ∀ c, c < (restP n a b).length + 1 → ((subsP c (restP n a b)).map fun more => isort (a :: more)).length ≤ 6 ^ 5) : dSorted [.lst ((lawSidesP n a b).map tU)] = some (.own (.lst (((lawSidesP n a b).map tU).mergeSort dle))) := dSorted_tU (xs := lawSidesP n a b) (Nat.le_trans (flat_len bd) (Nat.le_trans (Nat.mul_le_mul_right (6 ^ 5) (show (restP n a b).length + 1 ≤ 6 by omega)) (by decide))) (fun x hx => by
    obtain ⟨c, _, hx⟩ := List.mem_flatMap.mp hx
    obtain ⟨y, _, rfl⟩ := List.mem_map.mp hx
    intro e
    have := isort_len (a :: y)
    rw [e] at this
    simp at this)
theorem as_loop {b0 b1 b3 : D} {a : Nat} {R : List Nat} {j : Int} {st : List Cell} (rl : R.length ≤ 5) (bd : ∀ c, c < R.length + 1 → ((subsP c R).map fun more => isort (a :: more)).length ≤ 6 ^ 5) (hj : (R.length : Int) + 1 = j) (s7 : small62 j = true) (j7 : j.toNat = R.length + 1) :
    ∃ s4 g6, evForS (evRng1 (evCons (ev2 dAdd (evV (evN dLen (evConsB (evSlot 4) (evNilB)))) (evV (evC (.int 1)))) (evNil))) (tgName 6)
      (evSet 5 (ev2 dAdd (evSlot 5) (evV (evLc (evItS (evCall (m__law_subsets 6) (evCons (evName 4) (evCons (evName 6) (evNil))))) [2] [8] (tgName 8) (evYes) (evN dTuple (evConsB (evV (evN dSorted (evConsB (evV (ev2 dAdd (evV (evTup (evCons (evName 2) (evNil)))) (evSlot 8))) (evNilB)))) (evNilB)))))))
      ⟨[.fro b0, .fro b1, .fro (nD a), .fro b3, .own (.lst (R.map nD)), .own (.lst []), .non, .non, .non], st⟩ =
      some (.nx, ⟨[.fro b0, .fro b1, .fro (nD a), .fro b3, s4, .own (.lst (((List.range (R.length + 1)).flatMap fun c => (subsP c R).map fun more => isort (a :: more)).map tU)), g6, .non, .non], st⟩) := by
  obtain ⟨s', hs, s4, g6, rfl, _⟩ := forS_inv (it := evRng1 (evCons (ev2 dAdd (evV (evN dLen (evConsB (evSlot 4) (evNilB)))) (evV (evC (.int 1)))) (evNil))) (t := tgName 6)
    (b := evSet 5 (ev2 dAdd (evSlot 5) (evV (evLc (evItS (evCall (m__law_subsets 6) (evCons (evName 4) (evCons (evName 6) (evNil))))) [2] [8] (tgName 8) (evYes) (evN dTuple (evConsB (evV (evN dSorted (evConsB (evV (ev2 dAdd (evV (evTup (evCons (evName 2) (evNil)))) (evSlot 8))) (evNilB)))) (evNilB)))))))
    (fun k s => ∃ s4 g6, s = ⟨[.fro b0, .fro b1, .fro (nD a), .fro b3, s4, .own (.lst (((List.range k).flatMap fun c => (subsP c R).map fun more => isort (a :: more)).map tU)), g6, .non, .non], st⟩ ∧ (s4 = .own (.lst (R.map nD)) ∨ s4 = .fro (.lst (R.map nD))))
    (ds := (List.range (R.length + 1)).map nD) (s := ⟨[.fro b0, .fro b1, .fro (nD a), .fro b3, .own (.lst (R.map nD)), .own (.lst []), .non, .non, .non], st⟩) (s0 := ⟨[.fro b0, .fro b1, .fro (nD a), .fro b3, .own (.lst (R.map nD)), .own (.lst []), .non, .non, .non], st⟩)
    (by simp [hj, s7, j7, upToN]) ⟨_, .non, rfl, .inl rfl⟩ (fun k d s hd ⟨s4, g6, es, h4⟩ => by
      subst es
      rw [List.getElem?_map] at hd
      obtain ⟨x, hx, rfl⟩ := Option.map_eq_some_iff.mp hd
      obtain ⟨hk, hx⟩ := List.getElem?_eq_some_iff.mp hx
      rw [List.length_range] at hk
      rw [List.getElem_range] at hx
      subst hx
      have hb := bd k hk
      have hacc := flat_len (k := k) (f := fun c => (subsP c R).map fun more => isort (a :: more)) (B := 6 ^ 5) fun q hq => bd q (by omega)
      have lenS := (subs_len (L := 5) k R rl)
      have vs : m__law_subsets 6 [.lst (R.map nD), nD k] st = some (.own (.lst ((subsP k R).map tU)), st) := v_subsets (L := 5) (by omega) k 5 R st (by omega) (by omega) rl
      have lc := lc_map (α := List Nat) tU (fun _ => true) (fun x => tU (isort (a :: x))) (subsP k R) (it := evItS (evCall (m__law_subsets 6) (evCons (evName 4) (evCons (evName 6) (evNil))))) (cap := [2]) (vs := [8]) (t := tgName 8) (c := evYes) (e := evN dTuple (evConsB (evV (evN dSorted (evConsB (evV (ev2 dAdd (evV (evTup (evCons (evName 2) (evNil)))) (evSlot 8))) (evNilB)))) (evNilB)))
        (s := ⟨[.fro b0, .fro b1, .fro (nD a), .fro b3, s4, .own (.lst (((List.range k).flatMap fun c => (subsP c R).map fun more => isort (a :: more)).map tU)), .fro (nD k), .non, .non], st⟩)
        (s' := ⟨[.fro b0, .fro b1, .fro (nD a), .fro b3, .fro (.lst (R.map nD)), .own (.lst (((List.range k).flatMap fun c => (subsP c R).map fun more => isort (a :: more)).map tU)), .fro (nD k), .non, .non], st⟩)
        (by rcases h4 with rfl | rfl <;> simp [vs]) (by rw [List.length_map] at hb; exact Nat.le_trans hb (by decide)) (fun x hm => ⟨⟨[.fro b0, .fro b1, .fro (nD a), .fro b3, .fro (.lst (R.map nD)), .non, .fro (nD k), .non, .fro (tU x)], st⟩, ⟨[.fro b0, .fro b1, .fro (nD a), .fro b3, .fro (.lst (R.map nD)), .non, .fro (nD k), .non, .fro (tU x)], st⟩, by simp, rfl, rfl, fun _ => ⟨.fro (tU (isort (a :: x))), ⟨[.fro b0, .fro b1, .fro (nD a), .fro b3, .fro (.lst (R.map nD)), .non, .fro (nD k), .non, .fro (tU x)], st⟩, by
          have hx := lenS.2 x hm
          have c1 := cons_tU (x := x) (h := a) (by omega)
          have c2 : dSorted [tU (a :: x)] = some (.own (.lst ((isort (a :: x)).map nD))) := dSorted_nT (by simp; omega)
          simp [c1, c2, dTuple_nD], rfl, rfl⟩⟩)
      rw [List.filter_eq_self.mpr fun _ _ => rfl] at lc
      refine ⟨⟨[.fro b0, .fro b1, .fro (nD a), .fro b3, s4, .own (.lst (((List.range k).flatMap fun c => (subsP c R).map fun more => isort (a :: more)).map tU)), .fro (nD k), .non, .non], st⟩, .nx,
        ⟨[.fro b0, .fro b1, .fro (nD a), .fro b3, .fro (.lst (R.map nD)), .own (.lst (((List.range (k + 1)).flatMap fun c => (subsP c R).map fun more => isort (a :: more)).map tU)), .fro (nD k), .non, .non], st⟩, by simp, ?_, .inl rfl, _, _, rfl, .inr rfl⟩
      rw [List.range_succ, List.flatMap_append, List.map_append, List.flatMap_cons, List.flatMap_nil, List.append_nil, List.map_map]
      have ad := addL_ok (a := ((List.range k).flatMap fun c => (subsP c R).map fun more => isort (a :: more)).map tU) (b := (subsP k R).map (fun x => tU (isort (a :: x)))) (by
        rw [List.length_map, List.length_map]
        rw [List.length_map] at hb
        exact Nat.le_trans (Nat.add_le_add (Nat.le_trans hacc (Nat.mul_le_mul_right _ (show k ≤ 6 by omega))) hb) (by decide))
      rw [show (tU ∘ fun more => isort (a :: more)) = fun x => tU (isort (a :: x)) from rfl]
      generalize ((List.range k).flatMap fun c => (subsP c R).map fun more => isort (a :: more)).map tU = A at lc ad ⊢
      generalize (subsP k R).map (fun x => tU (isort (a :: x))) = B at lc ad ⊢
      simp [lc, ad])
  rw [List.length_map, List.length_range] at hs
  exact ⟨s4, g6, hs⟩
theorem v_all_sides {w : Web} {i : Nat} {r : Rd} (hr : w.rs[i]? = some r) (hn : w.n ≤ 6) (hab : r.a < r.b) (hb : r.b < w.n) (st : List Cell) : m__law_all_sides [webD w, .int i] st = some (.own (.lst (((lawSidesP w.n r.a r.b).map tU).mergeSort dle)), st) := by
  have s6 : small62 (w.n : Int) = true := small62_nat (by omega)
  have rl := rest_len5 w.n hn r.b hb r.a hab
  have e1 := as_rest (w := w) (x1 := .int i) (a := r.a) (b := r.b) hn st
  have bd : ∀ c, c < (restP w.n r.a r.b).length + 1 → ((subsP c (restP w.n r.a r.b)).map fun more => isort (r.a :: more)).length ≤ 6 ^ 5 := fun c hc => by
    rw [List.length_map]
    exact Nat.le_trans (subs_len (L := 5) c _ rl).1 (Nat.pow_le_pow_right (by decide) (by omega))
  obtain ⟨j, hj⟩ : ∃ j : Int, ((restP w.n r.a r.b).length : Int) + 1 = j := ⟨_, rfl⟩
  have s7 : small62 j = true := by unfold small62; simp only [Bool.and_eq_true, decide_eq_true_eq]; omega
  have j7 : j.toNat = (restP w.n r.a r.b).length + 1 := by omega
  have so := as_sorted rl bd
  unfold lawSidesP at so ⊢
  have ra : D.int (r.a : Int) = nD r.a := rfl
  have rb : D.int (r.b : Int) = nD r.b := rfl
  generalize restP w.n r.a r.b = R at rl e1 bd hj j7 so ⊢
  obtain ⟨s4, g6, hs⟩ := as_loop (b0 := webD w) (b1 := .int i) (b3 := nD r.b) (a := r.a) (st := st) rl bd hj s7 j7
  generalize ((List.range (R.length + 1)).flatMap fun c => (subsP c R).map fun more => isort (r.a :: more)).map tU = A at hs so ⊢
  simp -implicitDefEqProofs [m__law_all_sides, ev__law_all_sides, ix_roads hr, ra, rb, e1, hs, so]
theorem v_sides_eq {w : Web} {i : Nat} {r : Rd} (hr : w.rs[i]? = some r) (hn : w.n ≤ 6) (hab : r.a < r.b) (hb : r.b < w.n) (st : List Cell) : m_sides [webD w, .int i] st = some (.own (.lst (((lawSidesP w.n r.a r.b).map tU).mergeSort dle)), st) := by
  rw [v_sides hr hn hab hb, sort_tU (List.isPerm_iff.mp (sides_perm w.n hn r.b hb r.a hab).1)]
end G

namespace G
open PySem PySem.Spec L2 Pv
def bey (r : Rd) (x : Nat) : Option Nat := if x = r.a then some r.b else if x = r.b then some r.a else none
def nb (w : Web) (i x : Nat) : Option Nat := w.rs[i]?.bind fun r => bey r x
/-- the ways from a house to the goal, k houses deep -/
def wy (w : Web) (ok : List Nat) (goal : Nat) : Nat → Nat → List Nat → List (List Nat)
  | 0, _, _ => []
  | k + 1, here, seen => if here = goal then [[]] else ok.flatMap fun i => match nb w i here with
    | some t => if t ∈ seen then [] else (wy w ok goal k t (seen ++ [t])).map (i :: ·)
    | none => []
theorem flatMap_len {α β : Type} {f : α → List β} {B : Nat} : ∀ {l : List α}, (∀ x ∈ l, (f x).length ≤ B) → (l.flatMap f).length ≤ l.length * B
  | [], _ => by simp
  | x :: l, h => by
    rw [List.flatMap_cons, List.length_append, List.length_cons, Nat.add_mul, Nat.one_mul]
    have h1 := flatMap_len (l := l) (f := f) fun y hy => h y (.tail _ hy)
    have h2 := h x (.head _)
    omega
theorem wy_len {w : Web} {ok : List Nat} {goal : Nat} (hok : ok.length ≤ 9) : ∀ (k here : Nat) (seen : List Nat), (wy w ok goal k here seen).length ≤ 9 ^ (k - 1)
  | 0, _, _ => by simp [wy]
  | k + 1, here, seen => by
    unfold wy
    split
    · exact Nat.pos_of_ne_zero (by simp)
    · have : ∀ i ∈ ok, (match nb w i here with
        | some t => if t ∈ seen then [] else (wy w ok goal k t (seen ++ [t])).map (i :: ·)
        | none => []).length ≤ if k = 0 then 0 else 9 ^ (k - 1) := fun i _ => by
        split
        · split
          · simp
          · rename_i t _ _
            rw [List.length_map]
            split
            · rename_i hk; subst hk; simp [wy]
            · exact wy_len hok k t (seen ++ [t])
        · simp
      refine Nat.le_trans (flatMap_len this) ?_
      split
      · simp
      · rename_i hk
        rw [Nat.add_sub_cancel]
        obtain ⟨j, rfl⟩ : ∃ j, k = j + 1 := ⟨k - 1, by omega⟩
        rw [Nat.add_sub_cancel, Nat.pow_succ, Nat.mul_comm]
        exact Nat.mul_le_mul_left _ hok
theorem wy_short {w : Web} {ok : List Nat} {goal : Nat} : ∀ (k here : Nat) (seen : List Nat), ∀ x ∈ wy w ok goal k here seen, x.length < k
  | 0, _, _, x, h => by simp [wy] at h
  | k + 1, here, seen, x, h => by
    unfold wy at h
    split at h
    · simp at h; subst h; simp
    · obtain ⟨i, _, h⟩ := List.mem_flatMap.mp h
      split at h
      · split at h
        · simp at h
        · obtain ⟨y, hy, rfl⟩ := List.mem_map.mp h
          have := wy_short k _ _ y hy
          simp; omega
      · simp at h
theorem wy_ne {w : Web} {ok : List Nat} {goal k here : Nat} {seen : List Nat} (h : here ≠ goal) : ∀ x ∈ wy w ok goal k here seen, x ≠ [] := by
  intro x hx
  cases k with
  | zero => simp [wy] at hx
  | succ k =>
    unfold wy at hx
    rw [if_neg h] at hx
    obtain ⟨i, _, hx⟩ := List.mem_flatMap.mp hx
    split at hx
    · split at hx
      · simp at hx
      · obtain ⟨y, hy, rfl⟩ := List.mem_map.mp hx
        simp
    · simp at hx
/-- an item of the search: the way so far, the house, the houses seen -/
structure Itm where
  way : List Nat
  h : Nat
  seen : List Nat
structure ItmOk (w : Web) (b : Nat) (it : Itm) : Prop where
  nd : it.seen.Nodup
  lt : ∀ x ∈ it.seen, x < w.n
  nb : b ∉ it.seen
  hm : it.h ∈ it.seen
  wl : it.way.length < it.seen.length
theorem nodup_len : ∀ (n : Nat) {l : List Nat}, l.Nodup → (∀ x ∈ l, x < n) → l.length ≤ n
  | 0, l, _, h => by
    cases l with
    | nil => simp
    | cons x l => exact absurd (h x (.head _)) (by omega)
  | n + 1, l, nd, h => by
    by_cases hn : n ∈ l
    · have h1 := nodup_len n (l := l.erase n) (nd.erase n) fun x hx => by
        have h2 := h x (List.mem_of_mem_erase hx)
        have h3 : x ≠ n := (List.Nodup.mem_erase_iff nd).mp hx |>.1
        omega
      rw [List.length_erase_of_mem hn] at h1
      omega
    · have := nodup_len n nd fun x hx => by
        have h2 := h x hx
        have h3 : x ≠ n := fun e => hn (e ▸ hx)
        omega
      omega
theorem ItmOk.len {w : Web} {b : Nat} {it : Itm} (I : ItmOk w b it) (hb : b < w.n) : it.seen.length < w.n := by
  have := nodup_len w.n (l := b :: it.seen) (List.nodup_cons.mpr ⟨I.nb, I.nd⟩) fun x hx => by
    rcases List.mem_cons.mp hx with rfl | hx
    · exact hb
    · exact I.lt x hx
  rw [List.length_cons] at this
  omega
def valI (w : Web) (ok : List Nat) (b : Nat) (it : Itm) : List (List Nat) := (wy w ok b (w.n + 1 - it.seen.length) it.h it.seen).map (it.way ++ ·)
/-- what the search does at a road -/
def dirI (w : Web) (road b : Nat) (it : Itm) (i : Nat) : Option (List Nat) := if i = road then none else match nb w i it.h with
  | some t => if t = b then some (it.way ++ [i]) else none
  | none => none
def pshI (w : Web) (road b : Nat) (it : Itm) (i : Nat) : Option Itm := if i = road then none else match nb w i it.h with
  | some t => if t = b then none else if t ∈ it.seen then none else some ⟨it.way ++ [i], t, it.seen ++ [t]⟩
  | none => none
theorem nb_lt {w : Web} {i x t : Nat} (W : ∀ r ∈ w.rs, r.a < r.b ∧ r.b < w.n) (h : nb w i x = some t) : t < w.n := by
  unfold nb at h
  obtain ⟨r, h1, h2⟩ := bind_some_iff h
  have := W r (List.mem_of_getElem? h1)
  unfold bey at h2
  split at h2
  · cases h2; omega
  · split at h2
    · cases h2; omega
    · cases h2
theorem pshI_ok {w : Web} {road b i : Nat} {it it' : Itm} (W : ∀ r ∈ w.rs, r.a < r.b ∧ r.b < w.n) (I : ItmOk w b it) (h : pshI w road b it i = some it') : ItmOk w b it' ∧ it'.seen.length = it.seen.length + 1 := by
  unfold pshI at h
  split at h
  · cases h
  · split at h
    · rename_i t ht
      split at h
      · cases h
      · split at h
        · cases h
        · rename_i h1 h2 h3
          cases h
          refine ⟨⟨List.nodup_append.mpr ⟨I.nd, by simp, fun x hx y hy e => ?_⟩, fun x hx => ?_, fun hx => ?_, by simp, by have := I.wl; simp; omega⟩, by simp⟩
          · simp at hy; subst hy; subst e; exact h3 hx
          · rcases List.mem_append.mp hx with hx | hx
            · exact I.lt x hx
            · simp at hx; subst hx; exact nb_lt W ht
          · rcases List.mem_append.mp hx with hx | hx
            · exact I.nb hx
            · simp at hx; exact h2 hx.symm
    · cases h
theorem val_perm {w : Web} {ok : List Nat} {road b : Nat} {it : Itm} (hb : b < w.n) (I : ItmOk w b it) (l : List Nat) :
    (((l.filter fun i => !decide (i = road)).flatMap fun i => match nb w i it.h with
      | some t => if t ∈ it.seen then [] else (wy w ok b (w.n - it.seen.length) t (it.seen ++ [t])).map (i :: ·)
      | none => []).map (it.way ++ ·)).Perm (l.filterMap (dirI w road b it) ++ (l.filterMap (pshI w road b it)).flatMap (valI w ok b)) := by
  have hlen := I.len hb
  obtain ⟨k, hk⟩ : ∃ k, w.n - it.seen.length = k + 1 := ⟨w.n - it.seen.length - 1, by omega⟩
  induction l with
  | nil => simp
  | cons i l ih =>
    by_cases hr : i = road
    · have e1 : dirI w road b it i = none := by simp [dirI, hr]
      have e2 : pshI w road b it i = none := by simp [pshI, hr]
      rw [List.filter_cons_of_neg (by simp [hr]), List.filterMap_cons_none e1, List.filterMap_cons_none e2]
      exact ih
    · rw [List.filter_cons_of_pos (by simp [hr]), List.flatMap_cons, List.map_append]
      cases hn : nb w i it.h with
      | none =>
        have e1 : dirI w road b it i = none := by simp [dirI, hn]
        have e2 : pshI w road b it i = none := by simp [pshI, hn]
        rw [List.filterMap_cons_none e1, List.filterMap_cons_none e2]
        exact ih
      | some t =>
        by_cases ht : t = b
        · have e1 : dirI w road b it i = some (it.way ++ [i]) := by simp [dirI, hn, hr, ht]
          have e2 : pshI w road b it i = none := by simp [pshI, hn, ht]
          rw [List.filterMap_cons_some e1, List.filterMap_cons_none e2]
          have : (if t ∈ it.seen then [] else (wy w ok b (w.n - it.seen.length) t (it.seen ++ [t])).map (i :: ·)).map (it.way ++ ·) = [it.way ++ [i]] := by
            rw [if_neg (by rw [ht]; exact I.nb), hk, ht]
            simp [wy]
          show (List.map (it.way ++ ·) (if t ∈ it.seen then [] else (wy w ok b (w.n - it.seen.length) t (it.seen ++ [t])).map (i :: ·)) ++ _).Perm _
          rw [this]
          exact ih.cons _
        · by_cases hs : t ∈ it.seen
          · have e1 : dirI w road b it i = none := by simp [dirI, hn, ht]
            have e2 : pshI w road b it i = none := by simp [pshI, hn, hs]
            rw [List.filterMap_cons_none e1, List.filterMap_cons_none e2]
            show (List.map (it.way ++ ·) (if t ∈ it.seen then [] else (wy w ok b (w.n - it.seen.length) t (it.seen ++ [t])).map (i :: ·)) ++ _).Perm _
            rw [if_pos hs]
            exact ih
          · have e1 : dirI w road b it i = none := by simp [dirI, hn, ht]
            have e2 : pshI w road b it i = some ⟨it.way ++ [i], t, it.seen ++ [t]⟩ := by simp [pshI, hn, hr, ht, hs]
            rw [List.filterMap_cons_none e1, List.filterMap_cons_some e2, List.flatMap_cons]
            show (List.map (it.way ++ ·) (if t ∈ it.seen then [] else (wy w ok b (w.n - it.seen.length) t (it.seen ++ [t])).map (i :: ·)) ++ _).Perm _
            rw [if_neg hs]
            have e3 : valI w ok b ⟨it.way ++ [i], t, it.seen ++ [t]⟩ = List.map (it.way ++ ·) ((wy w ok b (w.n - it.seen.length) t (it.seen ++ [t])).map (i :: ·)) := by
              unfold valI
              rw [List.map_map]
              show List.map _ (wy w ok b (w.n + 1 - (it.seen ++ [t]).length) t (it.seen ++ [t])) = _
              rw [List.length_append, List.length_singleton, show w.n + 1 - (it.seen.length + 1) = w.n - it.seen.length by omega]
              refine List.map_congr_left fun x _ => ?_
              simp
            rw [e3]
            exact ((List.Perm.append_left _ ih).trans (by rw [← List.append_assoc, ← List.append_assoc]; exact List.Perm.append_right _ List.perm_append_comm))
end G

namespace G
open PySem PySem.Spec L2 Pv
def optD : Option Nat → D
  | some t => nD t
  | none => .non
theorem dEq_nD (x y : Nat) : dEq (nD x) (nD y) = some (.fro (.bl (decide (x = y)))) := by
  by_cases h : x = y
  · subst h; simp [nD]
  · simp [h, nD]; omega
theorem dNe_nD (x y : Nat) : dNe (nD x) (nD y) = some (.fro (.bl (!decide (x = y)))) := by
  by_cases h : x = y
  · subst h; simp [nD]
  · simp [h, nD]; omega
theorem v_beyond {w : Web} {i : Nat} {r : Rd} (h : w.rs[i]? = some r) (x : Nat) (st : List Cell) : m_beyond [webD w, nD i, nD x] st = some (.fro (optD (nb w i x)), st) := by
  have e0 : m_ends_of [webD w, nD i] st = some (.fro (.tup [nD r.a, nD r.b]), st) := v_ends_of h st
  have hn : nb w i x = bey r x := by unfold nb; rw [h]; rfl
  rw [hn]
  unfold bey
  by_cases h1 : x = r.a
  · have d1 : dEq (nD x) (nD r.a) = some (.fro (.bl true)) := by rw [dEq_nD, decide_eq_true h1]
    rw [if_pos h1]
    simp -implicitDefEqProofs [m_beyond, ev_beyond, e0, d1, optD]
  · have d1 : dEq (nD x) (nD r.a) = some (.fro (.bl false)) := by rw [dEq_nD, decide_eq_false h1]
    rw [if_neg h1]
    by_cases h2 : x = r.b
    · have d2 : dEq (nD x) (nD r.b) = some (.fro (.bl true)) := by rw [dEq_nD, decide_eq_true h2]
      rw [if_pos h2]
      simp -implicitDefEqProofs [m_beyond, ev_beyond, e0, d1, d2, optD]
    · have d2 : dEq (nD x) (nD r.b) = some (.fro (.bl false)) := by rw [dEq_nD, decide_eq_false h2]
      rw [if_neg h2]
      simp -implicitDefEqProofs [m_beyond, ev_beyond, e0, d1, d2, optD]
/-- [(road,) + way for way in found] -/
theorem way_lc {m : Fm} {b0 b1 b3 b4 e4 : D} {s2 : Slot} {i t : Nat} {A : D} {F : List (List Nat)} {st : List Cell} (hm : m [b0, b1, nD t, b3, e4] st = some (.own (.lst (F.map tU)), st)) (ad : dAdd b4 (.lst [nD t]) = some (.own e4)) (d4 : ∀ s, deref s b4 = b4) (hl : F.length ≤ 1000000) (hx : ∀ x ∈ F, x.length ≤ 1000) :
    evLc (evItS (evCall m (evCons (evName 0) (evCons (evName 1) (evCons (evName 7) (evCons (evName 3) (evCons (ev2 dAdd (evSlot 4) (evV (evLst (evCons (evName 7) (evNil))))) (evNil)))))))) [6] [8] (tgName 8) (evYes) (ev2 dAdd (evV (evTup (evCons (evName 6) (evNil)))) (evSlot 8))
      ⟨[.fro b0, .fro b1, s2, .fro b3, .fro b4, .own A, .fro (nD i), .fro (nD t), .non], st⟩ = some (.own (.lst ((F.map (i :: ·)).map tU)), ⟨[.fro b0, .fro b1, s2, .fro b3, .fro b4, .own A, .fro (nD i), .fro (nD t), .non], st⟩) := by
  have := lc_map (α := List Nat) tU (fun _ => true) (fun x => tU (i :: x)) F (it := evItS (evCall m (evCons (evName 0) (evCons (evName 1) (evCons (evName 7) (evCons (evName 3) (evCons (ev2 dAdd (evSlot 4) (evV (evLst (evCons (evName 7) (evNil))))) (evNil)))))))) (cap := [6]) (vs := [8]) (t := tgName 8) (c := evYes) (e := ev2 dAdd (evV (evTup (evCons (evName 6) (evNil)))) (evSlot 8))
    (s := ⟨[.fro b0, .fro b1, s2, .fro b3, .fro b4, .own A, .fro (nD i), .fro (nD t), .non], st⟩) (s' := ⟨[.fro b0, .fro b1, s2, .fro b3, .fro b4, .own A, .fro (nD i), .fro (nD t), .non], st⟩) (by simp -implicitDefEqProofs [d4, ad, hm]) hl (fun x hxm =>
      ⟨⟨[.fro b0, .fro b1, hideSlot s2, .fro b3, .fro b4, .non, .fro (nD i), .fro (nD t), .fro (tU x)], st⟩, ⟨[.fro b0, .fro b1, hideSlot s2, .fro b3, .fro b4, .non, .fro (nD i), .fro (nD t), .fro (tU x)], st⟩, by simp, rfl, rfl, fun _ => ⟨.fro (tU (i :: x)), ⟨[.fro b0, .fro b1, hideSlot s2, .fro b3, .fro b4, .non, .fro (nD i), .fro (nD t), .fro (tU x)], st⟩, by simp -implicitDefEqProofs [cons_tU (hx x hxm)], rfl, rfl⟩⟩)
  rw [this, List.filter_eq_self.mpr fun _ _ => rfl, List.map_map]
  rfl
theorem v_ways_on {w : Web} (hn : w.n ≤ 6) (W : ∀ r ∈ w.rs, r.a < r.b ∧ r.b < w.n) {ok : List Nat} (hok : ok.length ≤ 9) (hlt : ∀ i ∈ ok, i < w.rs.length) (goal : Nat) : ∀ (K k here : Nat) (seen : List Nat) (st : List Cell), k ≤ K → k + seen.length = w.n + 1 → seen.Nodup → (∀ x ∈ seen, x < w.n) → here ∈ seen →
    m_ways_on K [webD w, .lst (ok.map nD), nD here, nD goal, .lst (seen.map nD)] st = some (.own (.lst ((wy w ok goal k here seen).map tU)), st)
  | K, 0, here, seen, st, _, hl, nd, lt, _ => by
    have := nodup_len w.n nd lt
    omega
  | 0, k + 1, here, seen, st, h, _, _, _, _ => by omega
  | K + 1, k + 1, here, seen, st, hK, hl, nd, lt, hm => by
    unfold wy
    by_cases hg : here = goal
    · have d1 : dEq (nD here) (nD goal) = some (.fro (.bl true)) := by rw [dEq_nD, decide_eq_true hg]
      rw [if_pos hg]
      unfold m_ways_on
      simp -implicitDefEqProofs [ev_ways_on, d1]
      rfl
    · have d1 : dEq (nD here) (nD goal) = some (.fro (.bl false)) := by rw [dEq_nD, decide_eq_false hg]
      rw [if_neg hg]
      let g : Nat → List (List Nat) := fun i => match nb w i here with
        | some t => if t ∈ seen then [] else (wy w ok goal k t (seen ++ [t])).map (i :: ·)
        | none => []
      have gl : ∀ i, (g i).length ≤ 9 ^ 5 := fun i => by
        show (match nb w i here with
        | some t => if t ∈ seen then [] else (wy w ok goal k t (seen ++ [t])).map (i :: ·)
        | none => []).length ≤ 9 ^ 5
        split
        · split
          · simp
          · rw [List.length_map]
            exact Nat.le_trans (wy_len hok _ _ _) (Nat.pow_le_pow_right (by decide) (by
              have : 1 ≤ seen.length := by
                cases seen with
                | nil => simp at hm
                | cons => simp
              omega))
        · simp
      obtain ⟨s', hs, g6, g7, rfl⟩ := forS_inv (it := evItS (evName 1)) (t := tgName 6)
        (b := evSeq (evSet 7 (evCall m_beyond (evCons (evName 0) (evCons (evName 6) (evCons (evName 2) (evNil)))))) (evIf (evAnd (evB (ev2 dIsNot (evSlot 7) (evV (evC .non)))) (evB (ev2 dNotIn (evSlot 7) (evSlot 4)))) (evDrop (evMut "list" 5 mExtend (evCons (evLc (evItS (evCall (m_ways_on K) (evCons (evName 0) (evCons (evName 1) (evCons (evName 7) (evCons (evName 3) (evCons (ev2 dAdd (evSlot 4) (evV (evLst (evCons (evName 7) (evNil))))) (evNil)))))))) [6] [8] (tgName 8) (evYes) (ev2 dAdd (evV (evTup (evCons (evName 6) (evNil)))) (evSlot 8))) (evNil)))) (evPass)))
        (fun j s => ∃ g6 g7, s = ⟨[.fro (webD w), .fro (.lst (ok.map nD)), .fro (nD here), .fro (nD goal), .fro (.lst (seen.map nD)), .own (.lst (((ok.take j).flatMap g).map tU)), g6, g7, .non], st⟩)
        (ds := ok.map nD) (s := ⟨[.fro (webD w), .fro (.lst (ok.map nD)), .fro (nD here), .fro (nD goal), .fro (.lst (seen.map nD)), .own (.lst []), .non, .non, .non], st⟩) (s0 := ⟨[.fro (webD w), .fro (.lst (ok.map nD)), .fro (nD here), .fro (nD goal), .fro (.lst (seen.map nD)), .own (.lst []), .non, .non, .non], st⟩)
        (by simp -implicitDefEqProofs) ⟨.non, .non, rfl⟩ (fun j d s hd ⟨g6, g7, es⟩ => by
          subst es
          rw [List.getElem?_map] at hd
          obtain ⟨i, hi, rfl⟩ := Option.map_eq_some_iff.mp hd
          obtain ⟨hj, hji⟩ := List.getElem?_eq_some_iff.mp hi
          have him : i ∈ ok := List.mem_of_getElem? hi
          have hr := List.getElem?_eq_getElem (hlt i him)
          have vb := v_beyond hr here st
          have tk : ok.take (j + 1) = ok.take j ++ [i] := by rw [List.take_succ, hi]; rfl
          have gi : g i = match nb w i here with
            | some t => if t ∈ seen then [] else (wy w ok goal k t (seen ++ [t])).map (i :: ·)
            | none => [] := rfl
          have acc : (((ok.take j).flatMap g).map tU).length ≤ 8 * 9 ^ 5 := by
            rw [List.length_map]
            exact Nat.le_trans (flatMap_len fun x _ => gl x) (Nat.mul_le_mul_right _ (by rw [List.length_take]; omega))
          rw [tk, List.flatMap_append, List.flatMap_cons, List.flatMap_nil, List.append_nil, List.map_append]
          generalize hA : ((ok.take j).flatMap g).map tU = A at acc ⊢
          have gli := gl i
          rw [gi] at gli ⊢
          cases hnb : nb w i here with
          | none =>
            rw [hnb] at vb
            refine ⟨⟨[.fro (webD w), .fro (.lst (ok.map nD)), .fro (nD here), .fro (nD goal), .fro (.lst (seen.map nD)), .own (.lst A), .fro (nD i), g7, .non], st⟩, .nx, ⟨[.fro (webD w), .fro (.lst (ok.map nD)), .fro (nD here), .fro (nD goal), .fro (.lst (seen.map nD)), .own (.lst A), .fro (nD i), .fro .non, .non], st⟩, by simp -implicitDefEqProofs, ?_, .inl rfl, .fro (nD i), .fro .non, by simp⟩
            simp -implicitDefEqProofs [vb, optD]
          | some t =>
            rw [hnb] at vb gli
            have ni : dNotIn (nD t) (.lst (seen.map nD)) = some (.fro (.bl (!decide (t ∈ seen)))) := dNotIn_natL t seen
            have nn : dIsNot (nD t) .non = some (.fro (.bl true)) := rfl
            by_cases hts : t ∈ seen
            · rw [decide_eq_true hts] at ni
              refine ⟨⟨[.fro (webD w), .fro (.lst (ok.map nD)), .fro (nD here), .fro (nD goal), .fro (.lst (seen.map nD)), .own (.lst A), .fro (nD i), g7, .non], st⟩, .nx, ⟨[.fro (webD w), .fro (.lst (ok.map nD)), .fro (nD here), .fro (nD goal), .fro (.lst (seen.map nD)), .own (.lst A), .fro (nD i), .fro (nD t), .non], st⟩, by simp -implicitDefEqProofs, ?_, .inl rfl, .fro (nD i), .fro (nD t), by simp [hts]⟩
              simp -implicitDefEqProofs [vb, optD, ni, nn]
            · rw [decide_eq_false hts] at ni
              have htl := nb_lt W hnb
              have ih := v_ways_on hn W hok hlt goal K k t (seen ++ [t]) st (by omega) (by simp; omega) (List.nodup_append.mpr ⟨nd, by simp, fun x hx y hy e => by simp at hy; subst hy; subst e; exact hts hx⟩) (fun x hx => by
                rcases List.mem_append.mp hx with hx | hx
                · exact lt x hx
                · simp at hx; subst hx; exact htl) (by simp)
              rw [List.map_append] at ih
              have sl := nodup_len w.n nd lt
              have ad := addL_ok (a := seen.map nD) (b := [nD t]) (by simp; omega)
              have wl := way_lc (b4 := .lst (seen.map nD)) (s2 := .fro (nD here)) (i := i) (A := .lst A) ih ad (fun _ => rfl) (Nat.le_trans (wy_len hok _ _ _) (Nat.le_trans (Nat.pow_le_pow_right (by decide) (show k - 1 ≤ 5 by omega)) (by decide))) (fun x hx => by have := wy_short _ _ _ x hx; omega)
              have ex := extend_ok (ds := A) (es := ((wy w ok goal k t (seen ++ [t])).map (i :: ·)).map tU) (Nat.le_trans (Nat.add_le_add acc (by rw [List.length_map, List.length_map]; exact Nat.le_trans (wy_len hok _ _ _) (Nat.pow_le_pow_right (by decide) (show k - 1 ≤ 5 by omega)))) (by decide))
              refine ⟨⟨[.fro (webD w), .fro (.lst (ok.map nD)), .fro (nD here), .fro (nD goal), .fro (.lst (seen.map nD)), .own (.lst A), .fro (nD i), g7, .non], st⟩, .nx, ⟨[.fro (webD w), .fro (.lst (ok.map nD)), .fro (nD here), .fro (nD goal), .fro (.lst (seen.map nD)), .own (.lst (A ++ ((wy w ok goal k t (seen ++ [t])).map (i :: ·)).map tU)), .fro (nD i), .fro (nD t), .non], st⟩, by simp -implicitDefEqProofs, ?_, .inl rfl, .fro (nD i), .fro (nD t), by simp [hts]⟩
              generalize ((wy w ok goal k t (seen ++ [t])).map (i :: ·)).map tU = B at wl ex ⊢
              simp -implicitDefEqProofs [vb, optD, ni, nn, wl, ex])
      rw [List.length_map, List.take_of_length_le (Nat.le_refl _)] at hs
      show _ = some (RV.own (D.lst ((ok.flatMap g).map tU)), st)
      generalize (ok.flatMap g).map tU = A at hs ⊢
      unfold m_ways_on
      simp -implicitDefEqProofs [ev_ways_on, d1, hs]
end G

namespace G
open PySem PySem.Spec L2 Pv
def okR (w : Web) (road : Nat) : List Nat := (List.range w.rs.length).filter fun i => !decide (i = road)
theorem okR_lt {w : Web} {road : Nat} : ∀ i ∈ okR w road, i < w.rs.length := fun i hi => by
  have := (List.mem_filter.mp hi).1
  exact List.mem_range.mp this
theorem okR_len {w : Web} {road : Nat} (h : road < w.rs.length) (hm : w.rs.length ≤ 10) : (okR w road).length ≤ 9 := by
  have nd : (road :: okR w road).Nodup := List.nodup_cons.mpr ⟨fun hi => by have := (List.mem_filter.mp hi).2; simp at this, List.nodup_range.filter _⟩
  have := nodup_len w.rs.length nd fun x hx => by
    rcases List.mem_cons.mp hx with rfl | hx
    · exact h
    · exact okR_lt x hx
  rw [List.length_cons] at this
  omega
theorem v_other_roads {w : Web} {road : Nat} (hm : w.rs.length ≤ 10) (st : List Cell) : m_other_roads [webD w, .lst [nD road]] st = some (.own (.lst ((okR w road).map nD)), st) := by
  have s6 : small62 (w.rs.length : Int) = true := small62_nat (by omega)
  have := lc_map (α := Nat) nD (fun i => !decide (i = road)) nD (List.range w.rs.length) (it := evRng1 (evCons (evN dLen (evConsB (evV (ev2 dIx (evSlot 0) (evV (evC (.int 1))))) (evNilB))) (evNil))) (cap := [1]) (vs := [2]) (t := tgName 2) (c := evB (ev2 dNotIn (evSlot 2) (evSlot 1))) (e := evName 2)
    (s := ⟨[.fro (webD w), .fro (.lst [nD road]), .non], st⟩) (s' := ⟨[.fro (webD w), .fro (.lst [nD road]), .non], st⟩) (by simp -implicitDefEqProofs [s6, upToN]) (by simp; omega) (fun i hi => by
      refine ⟨⟨[.fro (webD w), .fro (.lst [nD road]), .fro (nD i)], st⟩, ⟨[.fro (webD w), .fro (.lst [nD road]), .fro (nD i)], st⟩, by simp, ?_, rfl, fun _ => ⟨.fro (nD i), ⟨[.fro (webD w), .fro (.lst [nD road]), .fro (nD i)], st⟩, by simp, rfl, rfl⟩⟩
      have h1 : dNotIn (nD i) (.lst [nD road]) = some (.fro (.bl (!decide (i = road)))) := by
        have := dNotIn_natL i [road]
        simp only [List.mem_singleton] at this
        exact this
      generalize (!decide (i = road)) = q at h1 ⊢
      simp -implicitDefEqProofs [h1])
  simp -implicitDefEqProofs [m_other_roads, ev_other_roads, this]
  rfl
theorem v_detours_by {w : Web} {road : Nat} {r : Rd} (hr : w.rs[road]? = some r) (hn : w.n ≤ 6) (hm : w.rs.length ≤ 10) (W : ∀ r ∈ w.rs, r.a < r.b ∧ r.b < w.n) (st : List Cell) :
    m_detours_by [webD w, nD road, .lst ((okR w road).map nD)] st = some (.own (.lst (((wy w (okR w road) r.b w.n r.a [r.a]).map tU).mergeSort dle)), st) := by
  have hrl := (List.getElem?_eq_some_iff.mp hr).1
  have Wr := W r (List.mem_of_getElem? hr)
  have e0 : m_ends_of [webD w, nD road] st = some (.fro (.tup [nD r.a, nD r.b]), st) := v_ends_of hr st
  have ol := okR_len hrl hm
  have lc := lc_map (α := Nat) nD (fun i => !decide (i = road)) nD (okR w road) (it := evItS (evName 2)) (cap := [1]) (vs := [5]) (t := tgName 5) (c := evB (ev2 dNe (evSlot 5) (evSlot 1))) (e := evName 5)
    (s := ⟨[.fro (webD w), .fro (nD road), .fro (.lst ((okR w road).map nD)), .fro (nD r.a), .fro (nD r.b), .non], st⟩) (s' := ⟨[.fro (webD w), .fro (nD road), .fro (.lst ((okR w road).map nD)), .fro (nD r.a), .fro (nD r.b), .non], st⟩) (by simp -implicitDefEqProofs) (by omega) (fun i hi => by
      refine ⟨⟨[.fro (webD w), .fro (nD road), .fro (.lst ((okR w road).map nD)), .fro (nD r.a), .fro (nD r.b), .fro (nD i)], st⟩, ⟨[.fro (webD w), .fro (nD road), .fro (.lst ((okR w road).map nD)), .fro (nD r.a), .fro (nD r.b), .fro (nD i)], st⟩, by simp, ?_, rfl, fun _ => ⟨.fro (nD i), ⟨[.fro (webD w), .fro (nD road), .fro (.lst ((okR w road).map nD)), .fro (nD r.a), .fro (nD r.b), .fro (nD i)], st⟩, by simp, rfl, rfl⟩⟩
      have h1 := dNe_nD i road
      generalize (!decide (i = road)) = q at h1 ⊢
      simp -implicitDefEqProofs [h1])
  have ff : (okR w road).filter (fun i => !decide (i = road)) = okR w road := by
    unfold okR; rw [List.filter_filter]; simp
  rw [ff] at lc
  have wo := v_ways_on hn W ol okR_lt r.b 7 w.n r.a [r.a] st (by omega) (by simp) (by simp) (by simp; omega) (by simp)
  rw [show [r.a].map nD = [nD r.a] from rfl] at wo
  have so := dSorted_tU (xs := wy w (okR w road) r.b w.n r.a [r.a]) (Nat.le_trans (wy_len ol _ _ _) (Nat.le_trans (Nat.pow_le_pow_right (by decide) (show w.n - 1 ≤ 5 by omega)) (by decide))) (wy_ne (by omega))
  simp -implicitDefEqProofs [m_detours_by, ev_detours_by, e0, lc, wo, so]
theorem v_detours {w : Web} {road : Nat} {r : Rd} (hr : w.rs[road]? = some r) (hn : w.n ≤ 6) (hm : w.rs.length ≤ 10) (W : ∀ r ∈ w.rs, r.a < r.b ∧ r.b < w.n) (st : List Cell) :
    m_detours [webD w, nD road] st = some (.own (.lst (((wy w (okR w road) r.b w.n r.a [r.a]).map tU).mergeSort dle)), st) := by
  have h1 := v_other_roads (road := road) hm st
  have h2 := v_detours_by hr hn hm W st
  simp -implicitDefEqProofs [m_detours, ev_detours, h1, h2]
end G

namespace G
open PySem PySem.Spec L2 Pv
theorem wh_fuel {c : Ev Bool} {b : Ev Out} (I : Nat → Sg → Prop) (P : Sg → Prop) (h : ∀ n s, I n s → ∃ bl s1, c s = some (bl, s1) ∧ (bl = false → P s1) ∧ (bl = true → ∃ o s2, b s1 = some (o, s2) ∧ (o = .nx ∨ o = .ct) ∧ ∃ m, m < n ∧ I m s2)) :
    ∀ N n s, n < N → I n s → ∃ k s', evWhN c b k s = some (.nx, s') ∧ P s'
  | 0, n, s, hN, _ => by omega
  | N + 1, n, s, hN, hI => by
    obtain ⟨bl, s1, e1, f1, t1⟩ := h n s hI
    cases bl with
    | false =>
      refine ⟨1, s1, ?_, f1 rfl⟩
      show ((c s).bind fun p => _) = _
      rw [e1]; rfl
    | true =>
      obtain ⟨o, s2, e2, ho, m, hm, hI2⟩ := t1 rfl
      obtain ⟨k, s', ek, hP⟩ := wh_fuel I P h N m s2 (by omega) hI2
      refine ⟨k + 1, s', ?_, hP⟩
      show ((c s).bind fun p => if p.1 then (b p.2).bind fun q => _ else _) = _
      rw [e1, Option.bind_some, if_pos rfl, e2, Option.bind_some]
      rcases ho with rfl | rfl <;> exact ek
theorem wh_meas {c : Ev Bool} {b : Ev Out} (I : Nat → Sg → Prop) (P : Sg → Prop) (h : ∀ n s, I n s → ∃ bl s1, c s = some (bl, s1) ∧ (bl = false → P s1) ∧ (bl = true → ∃ o s2, b s1 = some (o, s2) ∧ (o = .nx ∨ o = .ct) ∧ ∃ m, m < n ∧ I m s2))
    {n : Nat} {s : Sg} (hI : I n s) : ∃ s', evWh c b s = some (.nx, s') ∧ P s' := by
  obtain ⟨k, s', e, p⟩ := wh_fuel I P h (n + 1) n s (by omega) hI
  exact ⟨s', evWh_of e, p⟩
def itD (it : Itm) : D := .tup [tU it.way, nD it.h, tU it.seen]
/-- a bound of the search's turns -/
def tau : Nat → Nat
  | 0 => 1
  | k + 1 => 1 + 9 * tau k
theorem tau_pos (k : Nat) : 1 ≤ tau k := by cases k <;> simp [tau]
def tauI (w : Web) (it : Itm) : Nat := tau (w.n + 1 - it.seen.length)
def tauS (w : Web) (l : List Itm) : Nat := (l.map (tauI w)).sum
theorem tauS_len {w : Web} : ∀ l : List Itm, l.length ≤ tauS w l
  | [] => by simp [tauS]
  | it :: l => by
    have := tauS_len (w := w) l
    have h1 : 1 ≤ tauI w it := tau_pos _
    simp only [tauS, List.map_cons, List.sum_cons, List.length_cons] at this ⊢
    omega
theorem tauS_app {w : Web} (a b : List Itm) : tauS w (a ++ b) = tauS w a + tauS w b := by simp [tauS]
theorem psh_len {w : Web} {road b : Nat} {it : Itm} (l : List Nat) : (l.filterMap (pshI w road b it)).length ≤ (l.filter fun i => !decide (i = road)).length := by
  induction l with
  | nil => simp
  | cons i l ih =>
    by_cases hr : i = road
    · have e2 : pshI w road b it i = none := by simp [pshI, hr]
      rw [List.filterMap_cons_none e2, List.filter_cons_of_neg (by simp [hr])]
      exact ih
    · rw [List.filter_cons_of_pos (by simp [hr]), List.length_cons]
      cases e : pshI w road b it i with
      | none => rw [List.filterMap_cons_none e]; omega
      | some y => rw [List.filterMap_cons_some e, List.length_cons]; omega
theorem psh_tau {w : Web} {road b : Nat} {it : Itm} (W : ∀ r ∈ w.rs, r.a < r.b ∧ r.b < w.n) (hb : b < w.n) (I : ItmOk w b it) (hol : (okR w road).length ≤ 9) :
    tauS w ((List.range w.rs.length).filterMap (pshI w road b it)) + 1 ≤ tauI w it := by
  have hl := I.len hb
  obtain ⟨k, hk⟩ : ∃ k, w.n + 1 - it.seen.length = k + 1 := ⟨w.n - it.seen.length, by omega⟩
  have h1 : ∀ y ∈ (List.range w.rs.length).filterMap (pshI w road b it), tauI w y = tau k := fun y hy => by
    obtain ⟨i, _, hi⟩ := List.mem_filterMap.mp hy
    have := (pshI_ok W I hi).2
    unfold tauI
    rw [this]
    congr 1
    omega
  have h2 : tauS w ((List.range w.rs.length).filterMap (pshI w road b it)) = ((List.range w.rs.length).filterMap (pshI w road b it)).length * tau k := by
    unfold tauS
    rw [List.map_congr_left h1, List.map_const', List.sum_replicate_nat]
  have h3 := Nat.le_trans (psh_len (w := w) (road := road) (b := b) (it := it) (List.range w.rs.length)) hol
  have h4 := Nat.mul_le_mul_right (tau k) h3
  have h5 : tauI w it = 1 + 9 * tau k := by unfold tauI; rw [hk]; rfl
  omega
theorem there_nD {w : Web} {i h t : Nat} {r : Rd} (hr : w.rs[i]? = some r) (hn : nb w i h = some t) : dIn (nD h) (.tup [nD r.a, nD r.b]) = some (.fro (.bl true)) ∧ dSub (.int ((r.a : Int) + (r.b : Int))) (nD h) = some (.fro (nD t)) := by
  have e : bey r h = some t := by unfold nb at hn; rw [hr] at hn; exact hn
  have d := dIn_nat h [r.a, r.b]
  have hs : dSub (.int ((r.a : Int) + (r.b : Int))) (nD h) = some (.fro (.int ((r.a : Int) + (r.b : Int) - (h : Int)))) := rfl
  rw [hs]
  unfold bey at e
  by_cases h1 : h = r.a
  · rw [if_pos h1] at e
    cases e
    rw [decide_eq_true (by simp [h1])] at d
    refine ⟨d, ?_⟩
    rw [show (r.a : Int) + (r.b : Int) - (h : Int) = (r.b : Int) by omega]
    rfl
  · rw [if_neg h1] at e
    by_cases h2 : h = r.b
    · rw [if_pos h2] at e
      cases e
      rw [decide_eq_true (by simp [h2])] at d
      refine ⟨d, ?_⟩
      rw [show (r.a : Int) + (r.b : Int) - (h : Int) = (r.a : Int) by omega]
      rfl
    · rw [if_neg h2] at e; cases e
theorem not_there_nD {w : Web} {i h : Nat} {r : Rd} (hr : w.rs[i]? = some r) (hn : nb w i h = none) : dIn (nD h) (.tup [nD r.a, nD r.b]) = some (.fro (.bl false)) := by
  have e : bey r h = none := by unfold nb at hn; rw [hr] at hn; exact hn
  have d := dIn_nat h [r.a, r.b]
  unfold bey at e
  by_cases h1 : h = r.a
  · rw [if_pos h1] at e; cases e
  · rw [if_neg h1] at e
    by_cases h2 : h = r.b
    · rw [if_pos h2] at e; cases e
    · rw [decide_eq_false (by simp [h1, h2])] at d
      exact d
theorem det_body {w : Web} {road b i : Nat} {r : Rd} {it : Itm} {a : D} {F : List (List Nat)} {Q : List Itm} {g10 g11 g12 : Slot} {st : List Cell} (hr : w.rs[i]? = some r) (hw : it.way.length ≤ 900) (hs : it.seen.length ≤ 900) (hF : F.length < 1000000) (hQ : Q.length < 1000000) :
    ∃ g10' g11' g12', (evSeq (evAsg (tgTup 2 (tgCons (tgName 10) (tgCons (tgName 11) (tgNil)))) (evSl dSl (evV (ev2 dIx (evV (ev2 dIx (evSlot 0) (evV (evC (.int 1))))) (evSlot 9))) (evNo) (evPt (evV (evC (.int 2)))))) (evIf (evAnd (evB (ev2 dNe (evSlot 9) (evSlot 1))) (evB (ev2 dIn (evSlot 7) (evV (evTup (evCons (evName 10) (evCons (evName 11) (evNil)))))))) (evSeq (evSet 12 (ev2 dSub (evV (ev2 dAdd (evSlot 10) (evSlot 11))) (evSlot 7))) (evIf (evB (ev2 dEq (evSlot 12) (evSlot 3))) (evDrop (evMut "list" 4 mAppend (evCons (ev2 dAdd (evSlot 6) (evV (evTup (evCons (evName 9) (evNil))))) (evNil)))) (evIf (evB (ev2 dNotIn (evSlot 12) (evSlot 8))) (evDrop (evMut "list" 5 mAppend (evCons (evTup (evCons (ev2 dAdd (evSlot 6) (evV (evTup (evCons (evName 9) (evNil))))) (evCons (evName 12) (evCons (ev2 dAdd (evSlot 8) (evV (evTup (evCons (evName 12) (evNil))))) (evNil))))) (evNil)))) (evPass)))) (evPass))) ⟨[.fro (webD w), .fro (nD road), .fro a, .fro (nD b), .own (.lst (F.map tU)), .own (.lst (Q.map itD)), .fro (tU it.way), .fro (nD it.h), .fro (tU it.seen), .fro (nD i), g10, g11, g12], st⟩ =
      some (.nx, ⟨[.fro (webD w), .fro (nD road), .fro a, .fro (nD b), .own (.lst ((F ++ (dirI w road b it i).toList).map tU)), .own (.lst ((Q ++ (pshI w road b it i).toList).map itD)), .fro (tU it.way), .fro (nD it.h), .fro (tU it.seen), .fro (nD i), g10', g11', g12'], st⟩) := by
  have hx : dIx (.tup (w.rs.map rdD)) (nD i) = some (.fro (rdD r)) := ix_roads hr
  have ra : D.int (r.a : Int) = nD r.a := rfl
  have rb : D.int (r.b : Int) = nD r.b := rfl
  have dn := dNe_nD i road
  by_cases h1 : i = road
  · rw [decide_eq_true h1] at dn
    have e1 : dirI w road b it i = none := by simp [dirI, h1]
    have e2 : pshI w road b it i = none := by simp [pshI, h1]
    rw [e1, e2]
    exact ⟨.fro (nD r.a), .fro (nD r.b), g12, by simp -implicitDefEqProofs [hx, ra, rb, dn]⟩
  · rw [decide_eq_false h1] at dn
    cases hn : nb w i it.h with
    | none =>
      have di := not_there_nD hr hn
      have e1 : dirI w road b it i = none := by simp [dirI, hn]
      have e2 : pshI w road b it i = none := by simp [pshI, hn]
      rw [e1, e2]
      exact ⟨.fro (nD r.a), .fro (nD r.b), g12, by simp -implicitDefEqProofs [hx, ra, rb, dn, di]⟩
    | some t =>
      obtain ⟨di, ds⟩ := there_nD hr hn
      have da : dAdd (nD r.a) (nD r.b) = some (.fro (.int ((r.a : Int) + (r.b : Int)))) := rfl
      have dx : ∀ s, deref s (.int ((r.a : Int) + (r.b : Int))) = .int ((r.a : Int) + (r.b : Int)) := fun _ => rfl
      have wa := addT_one (x := it.way) (h := i) (by omega)
      have de := dEq_nD t b
      generalize D.int ((r.a : Int) + (r.b : Int)) = X at ds da dx
      by_cases h2 : t = b
      · rw [decide_eq_true h2] at de
        have e1 : dirI w road b it i = some (it.way ++ [i]) := by simp [dirI, hn, h1, h2]
        have e2 : pshI w road b it i = none := by simp [pshI, hn, h2]
        have ap := append_ok (ds := F.map tU) (x := tU (it.way ++ [i])) (by rw [List.length_map]; exact hF)
        rw [e1, e2]
        exact ⟨.fro (nD r.a), .fro (nD r.b), .fro (nD t), by simp -implicitDefEqProofs [hx, ra, rb, dn, di, da, ds, dx, de, wa, ap]⟩
      · rw [decide_eq_false h2] at de
        have dni := dNotIn_nat t it.seen
        rw [show D.int (t : Int) = nD t from rfl] at dni
        have dni : dNotIn (nD t) (tU it.seen) = _ := dni
        by_cases h3 : t ∈ it.seen
        · rw [decide_eq_true h3] at dni
          have e1 : dirI w road b it i = none := by simp [dirI, hn, h2]
          have e2 : pshI w road b it i = none := by simp [pshI, hn, h3]
          rw [e1, e2]
          exact ⟨.fro (nD r.a), .fro (nD r.b), .fro (nD t), by simp -implicitDefEqProofs [hx, ra, rb, dn, di, da, ds, dx, de, dni]⟩
        · rw [decide_eq_false h3] at dni
          have e1 : dirI w road b it i = none := by simp [dirI, hn, h2]
          have e2 : pshI w road b it i = some ⟨it.way ++ [i], t, it.seen ++ [t]⟩ := by simp [pshI, hn, h1, h2, h3]
          have sa := addT_one (x := it.seen) (h := t) (by omega)
          have ap := append_ok (ds := Q.map itD) (x := .tup [tU (it.way ++ [i]), nD t, tU (it.seen ++ [t])]) (by rw [List.length_map]; exact hQ)
          rw [e1, e2]
          exact ⟨.fro (nD r.a), .fro (nD r.b), .fro (nD t), by simp -implicitDefEqProofs [hx, ra, rb, dn, di, da, ds, dx, de, dni, wa, sa, ap, itD]⟩
end G

namespace G
open PySem PySem.Spec L2 Pv
theorem range_fm {β : Type} (f : Nat → Option β) (j : Nat) : (List.range (j + 1)).filterMap f = (List.range j).filterMap f ++ (f j).toList := by
  rw [List.range_succ, List.filterMap_append]
  cases h : f j with
  | none => rw [List.filterMap_cons_none h]; rfl
  | some y => rw [List.filterMap_cons_some h]; rfl
theorem fm_len {β : Type} (f : Nat → Option β) (j n : Nat) (h : j ≤ n) : ((List.range j).filterMap f).length ≤ ((List.range n).filterMap f).length := by
  induction n with
  | zero => rw [show j = 0 by omega]; exact Nat.le_refl _
  | succ n ih =>
    by_cases e : j = n + 1
    · subst e; exact Nat.le_refl _
    · rw [range_fm, List.length_append]
      have := ih (by omega)
      omega
theorem det_in {w : Web} {road b : Nat} {a : Nat} {it : Itm} {F : List (List Nat)} {Q : List Itm} {g9 g10 g11 g12 : Slot} {st : List Cell} (hm : w.rs.length ≤ 1000) (hw : it.way.length ≤ 900) (hs : it.seen.length ≤ 900)
    (hF : F.length + ((List.range w.rs.length).filterMap (dirI w road b it)).length < 1000000) (hQ : Q.length + ((List.range w.rs.length).filterMap (pshI w road b it)).length < 1000000) :
    ∃ h9 h10 h11 h12, (evForS (evRng1 (evCons (evN dLen (evConsB (evV (ev2 dIx (evSlot 0) (evV (evC (.int 1))))) (evNilB))) (evNil))) (tgName 9) (evSeq (evAsg (tgTup 2 (tgCons (tgName 10) (tgCons (tgName 11) (tgNil)))) (evSl dSl (evV (ev2 dIx (evV (ev2 dIx (evSlot 0) (evV (evC (.int 1))))) (evSlot 9))) (evNo) (evPt (evV (evC (.int 2)))))) (evIf (evAnd (evB (ev2 dNe (evSlot 9) (evSlot 1))) (evB (ev2 dIn (evSlot 7) (evV (evTup (evCons (evName 10) (evCons (evName 11) (evNil)))))))) (evSeq (evSet 12 (ev2 dSub (evV (ev2 dAdd (evSlot 10) (evSlot 11))) (evSlot 7))) (evIf (evB (ev2 dEq (evSlot 12) (evSlot 3))) (evDrop (evMut "list" 4 mAppend (evCons (ev2 dAdd (evSlot 6) (evV (evTup (evCons (evName 9) (evNil))))) (evNil)))) (evIf (evB (ev2 dNotIn (evSlot 12) (evSlot 8))) (evDrop (evMut "list" 5 mAppend (evCons (evTup (evCons (ev2 dAdd (evSlot 6) (evV (evTup (evCons (evName 9) (evNil))))) (evCons (evName 12) (evCons (ev2 dAdd (evSlot 8) (evV (evTup (evCons (evName 12) (evNil))))) (evNil))))) (evNil)))) (evPass)))) (evPass)))) ⟨[.fro (webD w), .fro (nD road), .fro (nD a), .fro (nD b), .own (.lst (F.map tU)), .own (.lst (Q.map itD)), .fro (tU it.way), .fro (nD it.h), .fro (tU it.seen), g9, g10, g11, g12], st⟩ =
      some (.nx, ⟨[.fro (webD w), .fro (nD road), .fro (nD a), .fro (nD b), .own (.lst ((F ++ (List.range w.rs.length).filterMap (dirI w road b it)).map tU)), .own (.lst ((Q ++ (List.range w.rs.length).filterMap (pshI w road b it)).map itD)), .fro (tU it.way), .fro (nD it.h), .fro (tU it.seen), h9, h10, h11, h12], st⟩) := by
  have s6 : small62 (w.rs.length : Int) = true := small62_nat (by omega)
  obtain ⟨s', hs', h9, h10, h11, h12, rfl⟩ := forS_inv (it := evRng1 (evCons (evN dLen (evConsB (evV (ev2 dIx (evSlot 0) (evV (evC (.int 1))))) (evNilB))) (evNil))) (t := tgName 9) (b := (evSeq (evAsg (tgTup 2 (tgCons (tgName 10) (tgCons (tgName 11) (tgNil)))) (evSl dSl (evV (ev2 dIx (evV (ev2 dIx (evSlot 0) (evV (evC (.int 1))))) (evSlot 9))) (evNo) (evPt (evV (evC (.int 2)))))) (evIf (evAnd (evB (ev2 dNe (evSlot 9) (evSlot 1))) (evB (ev2 dIn (evSlot 7) (evV (evTup (evCons (evName 10) (evCons (evName 11) (evNil)))))))) (evSeq (evSet 12 (ev2 dSub (evV (ev2 dAdd (evSlot 10) (evSlot 11))) (evSlot 7))) (evIf (evB (ev2 dEq (evSlot 12) (evSlot 3))) (evDrop (evMut "list" 4 mAppend (evCons (ev2 dAdd (evSlot 6) (evV (evTup (evCons (evName 9) (evNil))))) (evNil)))) (evIf (evB (ev2 dNotIn (evSlot 12) (evSlot 8))) (evDrop (evMut "list" 5 mAppend (evCons (evTup (evCons (ev2 dAdd (evSlot 6) (evV (evTup (evCons (evName 9) (evNil))))) (evCons (evName 12) (evCons (ev2 dAdd (evSlot 8) (evV (evTup (evCons (evName 12) (evNil))))) (evNil))))) (evNil)))) (evPass)))) (evPass))))
    (fun j s => ∃ g9 g10 g11 g12, s = ⟨[.fro (webD w), .fro (nD road), .fro (nD a), .fro (nD b), .own (.lst ((F ++ (List.range j).filterMap (dirI w road b it)).map tU)), .own (.lst ((Q ++ (List.range j).filterMap (pshI w road b it)).map itD)), .fro (tU it.way), .fro (nD it.h), .fro (tU it.seen), g9, g10, g11, g12], st⟩) (ds := (List.range w.rs.length).map nD) (s := ⟨[.fro (webD w), .fro (nD road), .fro (nD a), .fro (nD b), .own (.lst (F.map tU)), .own (.lst (Q.map itD)), .fro (tU it.way), .fro (nD it.h), .fro (tU it.seen), g9, g10, g11, g12], st⟩) (s0 := ⟨[.fro (webD w), .fro (nD road), .fro (nD a), .fro (nD b), .own (.lst (F.map tU)), .own (.lst (Q.map itD)), .fro (tU it.way), .fro (nD it.h), .fro (tU it.seen), g9, g10, g11, g12], st⟩) (by simp -implicitDefEqProofs [s6, upToN]) ⟨g9, g10, g11, g12, by simp⟩ (fun j d s hd ⟨g9, g10, g11, g12, es⟩ => by
      subst es
      rw [List.getElem?_map] at hd
      obtain ⟨x, hx, rfl⟩ := Option.map_eq_some_iff.mp hd
      obtain ⟨hj, hx⟩ := List.getElem?_eq_some_iff.mp hx
      rw [List.length_range] at hj
      rw [List.getElem_range] at hx
      subst hx
      have l1 := fm_len (dirI w road b it) j w.rs.length (by omega)
      have l2 := fm_len (pshI w road b it) j w.rs.length (by omega)
      obtain ⟨g10', g11', g12', e⟩ := det_body (road := road) (b := b) (it := it) (a := nD a) (F := F ++ (List.range j).filterMap (dirI w road b it)) (Q := Q ++ (List.range j).filterMap (pshI w road b it)) (g10 := g10) (g11 := g11) (g12 := g12) (st := st) (List.getElem?_eq_getElem hj) hw hs (by rw [List.length_append]; omega) (by rw [List.length_append]; omega)
      rw [List.append_assoc, List.append_assoc, ← range_fm, ← range_fm] at e
      exact ⟨⟨[.fro (webD w), .fro (nD road), .fro (nD a), .fro (nD b), .own (.lst ((F ++ (List.range j).filterMap (dirI w road b it)).map tU)), .own (.lst ((Q ++ (List.range j).filterMap (pshI w road b it)).map itD)), .fro (tU it.way), .fro (nD it.h), .fro (tU it.seen), .fro (nD j), g10, g11, g12], st⟩, .nx, _, by simp -implicitDefEqProofs, e, .inl rfl, _, _, _, _, rfl⟩)
  rw [List.length_map, List.length_range] at hs'
  exact ⟨h9, h10, h11, h12, hs'⟩
theorem dNe_nil (Q : List Itm) (hl : ∀ it ∈ Q, True) : dNe (.lst (Q.map itD)) (.lst []) = some (.fro (.bl (!Q.isEmpty))) := by
  have h1 : eqOk 50 (.lst (Q.map itD)) = true := by
    show (Q.map itD).all (eqOk 49) = true
    rw [List.all_eq_true]
    intro d hd
    obtain ⟨it, _, rfl⟩ := List.mem_map.mp hd
    show [tU it.way, nD it.h, tU it.seen].all (eqOk 48) = true
    have q : ∀ xs : List Nat, eqOk 48 (tU xs) = true := fun xs => by
      show (xs.map nD).all (eqOk 47) = true
      rw [nD_ints]; exact eqOk_ints 47 _
    have q2 : eqOk 48 (nD it.h) = true := rfl
    simp [q, q2]
  have h2 : eqOk 50 (.lst []) = true := rfl
  show (if eqOk 50 (.lst (Q.map itD)) && eqOk 50 (.lst []) then some (RV.fro (.bl (!deq (.lst (Q.map itD)) (.lst [])))) else none) = _
  simp only [h1, h2, Bool.and_self, if_true, deq_lst]
  cases Q <;> simp [deqAll]
theorem pop_last {Q : List Itm} {it : Itm} : mPop (.lst ((Q ++ [it]).map itD)) [] = some (.lst (Q.map itD), itD it) := by
  show (((Q ++ [it]).map itD)[((Q ++ [it]).map itD).length - 1]?).map (fun y => (D.lst ((Q ++ [it]).map itD).dropLast, y)) = _
  simp
theorem v_all_detours {w : Web} {road : Nat} {r : Rd} (hr : w.rs[road]? = some r) (hn : w.n ≤ 6) (hm : w.rs.length ≤ 10) (W : ∀ r ∈ w.rs, r.a < r.b ∧ r.b < w.n) (st : List Cell) :
    m__law_all_detours [webD w, nD road] st = some (.own (.lst (((wy w (okR w road) r.b w.n r.a [r.a]).map tU).mergeSort dle)), st) := by
  have hrl := (List.getElem?_eq_some_iff.mp hr).1
  have Wr := W r (List.mem_of_getElem? hr)
  have ol := okR_len hrl hm
  have hx : dIx (.tup (w.rs.map rdD)) (nD road) = some (.fro (rdD r)) := ix_roads hr
  have ra : D.int (r.a : Int) = nD r.a := rfl
  have rb : D.int (r.b : Int) = nD r.b := rfl
  have so := dSorted_tU (xs := wy w (okR w road) r.b w.n r.a [r.a]) (Nat.le_trans (wy_len ol _ _ _) (Nat.le_trans (Nat.pow_le_pow_right (by decide) (show w.n - 1 ≤ 5 by omega)) (by decide))) (wy_ne (by omega))
  have Tl : (wy w (okR w road) r.b w.n r.a [r.a]).length ≤ 9 ^ 5 := Nat.le_trans (wy_len ol _ _ _) (Nat.pow_le_pow_right (by decide) (by omega))
  generalize hT : wy w (okR w road) r.b w.n r.a [r.a] = T at so Tl ⊢
  generalize ha : r.a = a at *
  generalize hb : r.b = b at *
  obtain ⟨s', hs, F, g5, g6, g7, g8, g9, g10, g11, g12, hp, rfl⟩ := wh_meas (c := (evB (ev2 dNe (evSlot 5) (evV (evLst (evNil)))))) (b := (evSeq (evAsg (tgTup 3 (tgCons (tgName 6) (tgCons (tgName 7) (tgCons (tgName 8) (tgNil))))) (evMut "list" 5 mPop evNil)) (evForS (evRng1 (evCons (evN dLen (evConsB (evV (ev2 dIx (evSlot 0) (evV (evC (.int 1))))) (evNilB))) (evNil))) (tgName 9) (evSeq (evAsg (tgTup 2 (tgCons (tgName 10) (tgCons (tgName 11) (tgNil)))) (evSl dSl (evV (ev2 dIx (evV (ev2 dIx (evSlot 0) (evV (evC (.int 1))))) (evSlot 9))) (evNo) (evPt (evV (evC (.int 2)))))) (evIf (evAnd (evB (ev2 dNe (evSlot 9) (evSlot 1))) (evB (ev2 dIn (evSlot 7) (evV (evTup (evCons (evName 10) (evCons (evName 11) (evNil)))))))) (evSeq (evSet 12 (ev2 dSub (evV (ev2 dAdd (evSlot 10) (evSlot 11))) (evSlot 7))) (evIf (evB (ev2 dEq (evSlot 12) (evSlot 3))) (evDrop (evMut "list" 4 mAppend (evCons (ev2 dAdd (evSlot 6) (evV (evTup (evCons (evName 9) (evNil))))) (evNil)))) (evIf (evB (ev2 dNotIn (evSlot 12) (evSlot 8))) (evDrop (evMut "list" 5 mAppend (evCons (evTup (evCons (ev2 dAdd (evSlot 6) (evV (evTup (evCons (evName 9) (evNil))))) (evCons (evName 12) (evCons (ev2 dAdd (evSlot 8) (evV (evTup (evCons (evName 12) (evNil))))) (evNil))))) (evNil)))) (evPass)))) (evPass))))))
    (fun n s => ∃ (F : List (List Nat)) (Q : List Itm) (g6 g7 g8 g9 g10 g11 g12 : Slot), s = ⟨[.fro (webD w), .fro (nD road), .fro (nD a), .fro (nD b), .own (.lst (F.map tU)), .own (.lst (Q.map itD)), g6, g7, g8, g9, g10, g11, g12], st⟩ ∧ (∀ it ∈ Q, ItmOk w b it) ∧ (F ++ Q.flatMap (valI w (okR w road) b)).Perm T ∧ tauS w Q = n ∧ n ≤ 597871)
    (fun s => ∃ (F : List (List Nat)) (g5 g6 g7 g8 g9 g10 g11 g12 : Slot), F.Perm T ∧ s = ⟨[.fro (webD w), .fro (nD road), .fro (nD a), .fro (nD b), .own (.lst (F.map tU)), g5, g6, g7, g8, g9, g10, g11, g12], st⟩)
    (fun n s ⟨F, Q, g6, g7, g8, g9, g10, g11, g12, es, ok, pm, ht, hn'⟩ => by
      subst es
      have dn := dNe_nil Q fun _ _ => trivial
      rcases List.eq_nil_or_concat Q with rfl | ⟨Q', it, rfl⟩
      · have d0 : dNe (.lst []) (.lst []) = some (.fro (.bl false)) := dn
        exact ⟨false, ⟨[.fro (webD w), .fro (nD road), .fro (nD a), .fro (nD b), .own (.lst (F.map tU)), .own (.lst []), g6, g7, g8, g9, g10, g11, g12], st⟩, by simp -implicitDefEqProofs [d0], fun _ => ⟨F, _, g6, g7, g8, g9, g10, g11, g12, by simpa using pm, rfl⟩, fun h => by cases h⟩
      · rw [List.concat_eq_append] at *
        have hie : (!(Q' ++ [it]).isEmpty) = true := by simp
        rw [hie] at dn
        have I := ok it (by simp)
        have il := I.len Wr.2
        have wl := I.wl
        have pop := pop_last (Q := Q') (it := it)
        have vp := val_perm (ok := okR w road) (road := road) Wr.2 I (List.range w.rs.length)
        have hv : (valI w (okR w road) b it).Perm ((List.range w.rs.length).filterMap (dirI w road b it) ++ ((List.range w.rs.length).filterMap (pshI w road b it)).flatMap (valI w (okR w road) b)) := by
          refine List.Perm.trans (List.Perm.of_eq ?_) vp
          unfold valI
          obtain ⟨k, hk⟩ : ∃ k, w.n + 1 - it.seen.length = k + 1 := ⟨w.n - it.seen.length, by omega⟩
          rw [hk, show w.n - it.seen.length = k by omega]
          show List.map _ (if it.h = b then [[]] else _) = _
          rw [if_neg (fun e => I.nb (by rw [← e]; exact I.hm))]
          rfl
        have pt := psh_tau (road := road) W Wr.2 I ol
        have tq : tauS w (Q' ++ [it]) = tauS w Q' + tauI w it := by rw [tauS_app]; simp [tauS]
        have l1 := tauS_len (w := w) Q'
        have l2 := tauS_len (w := w) ((List.range w.rs.length).filterMap (pshI w road b it))
        have pm2 : ((F ++ (List.range w.rs.length).filterMap (dirI w road b it)) ++ (Q' ++ (List.range w.rs.length).filterMap (pshI w road b it)).flatMap (valI w (okR w road) b)).Perm T := by
          refine List.Perm.trans ?_ pm
          rw [List.flatMap_append, List.flatMap_append, List.flatMap_cons, List.flatMap_nil, List.append_nil, List.append_assoc]
          refine List.Perm.append_left _ ?_
          refine List.Perm.trans ?_ (List.Perm.append_left _ hv.symm)
          rw [← List.append_assoc, ← List.append_assoc]
          exact List.Perm.append_right _ List.perm_append_comm
        have lF := pm2.length_eq
        rw [List.length_append, List.length_append] at lF
        have Tl' : T.length ≤ 59049 := Tl
        obtain ⟨h9, h10, h11, h12, e⟩ := det_in (w := w) (road := road) (b := b) (a := a) (it := it) (F := F) (Q := Q') (g9 := g9) (g10 := g10) (g11 := g11) (g12 := g12) (st := st) (by omega) (by omega) (by omega) (by omega) (by omega)
        have itd : itD it = .tup [tU it.way, nD it.h, tU it.seen] := rfl
        refine ⟨true, ⟨[.fro (webD w), .fro (nD road), .fro (nD a), .fro (nD b), .own (.lst (F.map tU)), .own (.lst ((Q' ++ [it]).map itD)), g6, g7, g8, g9, g10, g11, g12], st⟩, ?_, fun h => (by cases h), fun _ => ⟨.nx, ⟨[.fro (webD w), .fro (nD road), .fro (nD a), .fro (nD b), .own (.lst ((F ++ (List.range w.rs.length).filterMap (dirI w road b it)).map tU)), .own (.lst ((Q' ++ (List.range w.rs.length).filterMap (pshI w road b it)).map itD)), .fro (tU it.way), .fro (nD it.h), .fro (tU it.seen), h9, h10, h11, h12], st⟩, ?_, .inl rfl, tauS w (Q' ++ (List.range w.rs.length).filterMap (pshI w road b it)), ?_, _, _, _, _, _, _, _, _, _, rfl, fun x hx => ?_, pm2, rfl, ?_⟩⟩
        · generalize (Q' ++ [it]).map itD = A at dn ⊢
          simp -implicitDefEqProofs [dn]
        · rw [itd] at pop
          generalize (Q' ++ [it]).map itD = A at pop ⊢
          simp -implicitDefEqProofs only [evSeq_ap, evAsg_ap, evMut_ap, ownAt_ap, setAt_ap, List.getElem?_cons_succ, List.getElem?_cons_zero, kOwn_own, Option.bind_some, Option.map_some, kMut_lst, evNil_ap, kMut1_ap, kMut2_ap, pop, kMut3_ap, kPut_own, List.set_cons_succ, List.set_cons_zero, kAsg_ap, d_fro, tgTup_ap, List.length_cons, List.length_nil, Nat.reduceAdd, if_true, tgCons_ap, tgName_ap, kTg_ap, tgNil_ap, kAsg2_ap, kSeq_nx]
          exact e
        · rw [tauS_app]; omega
        · rcases List.mem_append.mp hx with hx | hx
          · exact ok x (by simp [hx])
          · obtain ⟨i, _, hi⟩ := List.mem_filterMap.mp hx
            exact (pshI_ok W I hi).1
        · rw [tauS_app]; omega)
    (n := tauS w [⟨[], a, [a]⟩]) (s := ⟨[.fro (webD w), .fro (nD road), .fro (nD a), .fro (nD b), .own (.lst []), .own (.lst [.tup [.tup [], nD a, .tup [nD a]]]), .non, .non, .non, .non, .non, .non, .non], st⟩)
    ⟨[], [⟨[], a, [a]⟩], .non, .non, .non, .non, .non, .non, .non, by simp [itD, tU], fun it hit => by
      simp at hit
      subst hit
      exact ⟨by simp, fun x hx => by simp at hx; subst hx; omega, by simp; omega, by simp, by simp⟩, by
      rw [List.flatMap_cons, List.flatMap_nil, List.append_nil, List.nil_append]
      unfold valI
      show (List.map _ (wy w (okR w road) b w.n a [a])).Perm T
      rw [hT]
      simp, rfl, by
      have : ∀ k, k ≤ 6 → tau k ≤ 597871 := by decide
      have h1 := this w.n hn
      show tauS w [⟨[], a, [a]⟩] ≤ _
      have h2 : tauS w [⟨[], a, [a]⟩] = tau w.n := by simp [tauS, tauI]
      rw [h2]; exact h1⟩
  have sF := sort_tU hp
  have so' : dSorted [.lst (F.map tU)] = some (.own (.lst ((T.map tU).mergeSort dle))) := by
    rw [← sF]
    refine dSorted_tU (by rw [hp.length_eq]; exact Nat.le_trans Tl (by decide)) fun x hx => ?_
    have : x ∈ T := hp.mem_iff.mp hx
    rw [← hT] at this
    exact wy_ne (by omega) x this
  generalize F.map tU = A at hs so' ⊢
  simp -implicitDefEqProofs [m__law_all_detours, ev__law_all_detours, hx, ra, rb, ha, hb, hs, so']
end G

namespace G
open PySem PySem.Spec L2 Pv
theorem hdFreeAll_iff : ∀ ds : List D, hdFreeAll ds = true ↔ ∀ d ∈ ds, hdFree d = true
  | [] => by simp [hdFreeAll]
  | d :: ds => by rw [hdFreeAll, Bool.and_eq_true, hdFreeAll_iff ds]; simp
theorem tU_free (xs : List Nat) : hdFree (tU xs) = true := by
  rw [tU, hdFree, hdFreeAll_iff]
  intro d hd
  obtain ⟨x, _, rfl⟩ := List.mem_map.mp hd
  rfl
/-- lists of tuples of numbers -/
structure LsOk (L : List D) : Prop where
  el : ∀ d ∈ L, ∃ xs : List Nat, d = tU xs ∧ xs.length ≤ 1000
  len : L.length ≤ 999999
theorem LsOk.q {L : List D} (h : LsOk L) : quietSlot (.own (.lst L)) = .fro (.lst L) := if_pos (by
  rw [hdFree, hdFreeAll_iff]
  intro d hd
  obtain ⟨xs, rfl, _⟩ := h.el d hd
  exact tU_free xs)
theorem short_tU {xs : List Nat} (h : xs.length ≤ 1000) (k : Nat) : shortD (k + 1) (tU xs) = true := by
  show (decide ((xs.map nD).length ≤ 1000000) && (xs.map nD).all (shortD k)) = true
  rw [Bool.and_eq_true, decide_eq_true_eq, List.all_eq_true, List.length_map]
  refine ⟨by omega, fun d hd => ?_⟩
  obtain ⟨x, _, rfl⟩ := List.mem_map.mp hd
  cases k <;> rfl
theorem LsOk.short {L : List D} (h : LsOk L) (k : Nat) : shortD (k + 2) (.lst L) = true := by
  show (decide (L.length ≤ 1000000) && L.all (shortD (k + 1))) = true
  rw [Bool.and_eq_true, decide_eq_true_eq, List.all_eq_true]
  refine ⟨by have := h.len; omega, fun d hd => ?_⟩
  obtain ⟨xs, rfl, hx⟩ := h.el d hd
  exact short_tU hx k
theorem LsOk.sorted {xs : List (List Nat)} (h1 : xs.length ≤ 999999) (h2 : ∀ x ∈ xs, x.length ≤ 1000) : LsOk ((xs.map tU).mergeSort dle) := by
  refine ⟨fun d hd => ?_, by rw [List.length_mergeSort, List.length_map]; exact h1⟩
  obtain ⟨x, hx, rfl⟩ := List.mem_map.mp (List.mem_mergeSort.mp hd)
  exact ⟨x, rfl, h2 x hx⟩
theorem again_step {b0 b2 s3 s4 g11 g12 : Slot} {wb : D} {i : Nat} {DT SD : List D} {x : D} {c : Cell} (q3 : s3 = .fro wb) (dw : ∀ s, deref s wb = wb)
    (hD : LsOk DT) (hS : LsOk SD) (g9 g10 : Slot)
    (e1 : m_detours [wb, nD i] [c] = some (.own (.lst DT), [c])) (e2 : m_sides [wb, nD i] [c] = some (.own (.lst SD), [c])) :
    (evSeq (evPar 9 10 (evCall m_detours (evCons (evName 3) (evCons (evName 5) (evNil)))) (evCall m_sides (evCons (evName 3) (evCons (evName 5) (evNil))))) (evSeq (evIf (evNot (evTru (evV (evQuiet (evCall (m__law_same 5) (evCons (evLst (evCons (evName 9) (evCons (evName 10) (evNil)))) (evCons (evLst (evCons (evName 6) (evCons (evName 7) (evNil)))) (evNil)))))))) (evRet (evC (.bl false))) (evPass)) (evSeq (evDrop (evMut "list" 9 mAppend (evCons (evC .non) (evNil)))) (evDrop (evMut "list" 10 mAppend (evCons (evC .non) (evNil))))))) ⟨[b0, .fro (.hd 0), b2, s3, s4, .fro (nD i), .own (.lst DT), .own (.lst SD), .fro x, g9, g10, g11, g12], [c]⟩ =
      some (.nx, ⟨[b0, .fro (.hd 0), b2, s3, s4, .fro (nD i), .own (.lst DT), .own (.lst SD), .fro x, .own (.lst (DT ++ [.non])), .own (.lst (SD ++ [.non])), g11, g12], [c]⟩) := by
  subst q3
  have sm : m__law_same 5 [.lst [.lst DT, .lst SD], .lst [.lst DT, .lst SD]] [] = some (.fro (.bl true), []) := v_same 4 _ _ (by
    show (decide (2 ≤ 1000000) && [D.lst DT, D.lst SD].all (shortD 3)) = true
    simp [hD.short 1, hS.short 1])
  have a1 := append_ok (ds := DT) (x := .non) (by have := hD.len; omega)
  have a2 := append_ok (ds := SD) (x := .non) (by have := hS.len; omega)
  simp -implicitDefEqProofs [e1, e2, hD.q, hS.q, sm, a1, a2]
theorem dNe_self {d : D} (h : eqOk 50 (.lst [d]) = true) (L : List D) (hL : eqOk 50 (.lst L) = true) : dNe (.lst L) (.lst L) = some (.fro (.bl false)) := by
  show (if eqOk 50 (.lst L) && eqOk 50 (.lst L) then some (RV.fro (.bl (!deq (.lst L) (.lst L)))) else none) = _
  simp only [hL, Bool.and_self, if_true, deq_self 50 _ hL, Bool.not_true]
theorem side_step {b0 b2 s3 s4 s5 s6 s7 g8 g9 g10 g12 : Slot} {w : Web} {side : List Nat} {c : Cell} (hm : w.rs.length ≤ 1000) (q3 : s3 = .fro (webD w)) (hw : hdFree (webD w) = true) :
    ∃ g12', (evSeq (evSet 12 (evCall m_crossing (evCons (evName 3) (evCons (evName 11) (evNil))))) (evSeq (evIf (evNot (evTru (evV (evQuiet (evCall (m__law_same 5) (evCons (evName 12) (evCons (evCall m__law_cross (evCons (evName 3) (evCons (evName 11) (evNil)))) (evNil)))))))) (evRet (evC (.bl false))) (evPass)) (evSeq (evDrop (evMut "list" 12 mAppend (evCons (evC .non) (evNil)))) (evIf (evB (ev2 dNe (evV (evCall m_crossing (evCons (evName 3) (evCons (evName 11) (evNil))))) (evV (evCall m__law_cross (evCons (evName 3) (evCons (evName 11) (evNil))))))) (evRet (evC (.bl false))) (evPass))))) ⟨[b0, .fro (.hd 0), b2, s3, s4, s5, s6, s7, g8, g9, g10, .fro (tU side), g12], [c]⟩ =
      some (.nx, ⟨[b0, .fro (.hd 0), b2, s3, s4, s5, s6, s7, g8, g9, g10, .fro (tU side), g12'], [c]⟩) := by
  subst q3
  have e1 := v_crossing w side hm
  have e2 := v_law_cross w side hm
  have cl : (crossP w side).length ≤ 1000 := by
    have := List.length_filter_le (fun i => match w.rs[i]? with
      | some r => crs side r
      | none => false) (List.range w.rs.length)
    rw [List.length_range] at this
    exact Nat.le_trans this hm
  generalize crossP w side = C at e1 e2 cl
  have ce : eqOk 50 (.lst (C.map nD)) = true := by
    show (C.map nD).all (eqOk 49) = true
    rw [nD_ints]; exact eqOk_ints 49 _
  have sm : m__law_same 5 [.lst (C.map nD), .lst (C.map nD)] [] = some (.fro (.bl true), []) := v_same 4 _ _ (by
    show (decide ((C.map nD).length ≤ 1000000) && (C.map nD).all (shortD 3)) = true
    rw [Bool.and_eq_true, decide_eq_true_eq, List.all_eq_true, List.length_map]
    refine ⟨by omega, fun d hd => ?_⟩
    obtain ⟨x, _, rfl⟩ := List.mem_map.mp hd
    rfl)
  have qc : quietSlot (.own (.lst (C.map nD))) = .fro (.lst (C.map nD)) := if_pos (by
    rw [hdFree, hdFreeAll_iff]
    intro d hd
    obtain ⟨x, _, rfl⟩ := List.mem_map.mp hd
    rfl)
  have qw : quietSlot (.fro (webD w)) = .fro (webD w) := if_pos hw
  have qs : quietSlot (.fro (tU side)) = .fro (tU side) := if_pos (tU_free side)
  have nn := dNe_self (d := .non) rfl _ ce
  have ap := append_ok (ds := C.map nD) (x := .non) (by rw [List.length_map]; omega)
  refine ⟨.own (.lst (C.map nD ++ [.non])), ?_⟩
  generalize C.map nD = A at *
  simp -implicitDefEqProofs [e1, e2, qc, qw, qs, sm, nn, ap]
end G

namespace G
open PySem PySem.Spec L2 Pv
theorem sh99 : ∀ i : Nat, i < 100 → (PyData.shown (.int (i : Int))).length ≤ 8 ∧ (PyData.showable (.int (i : Int))) = true := by decide +kernel
theorem py_nums {xs : List Nat} (h : ∀ x ∈ xs, x < 100) : PyData.leavesShortAll 8 (pyAll (xs.map nD)) = true ∧ PyData.showableAll (pyAll (xs.map nD)) = true ∧ PyData.bulkAll (pyAll (xs.map nD)) = xs.length := by
  induction xs with
  | nil => exact ⟨rfl, rfl, rfl⟩
  | cons x xs ih =>
    obtain ⟨a, b, c⟩ := ih fun y hy => h y (.tail _ hy)
    obtain ⟨p, q⟩ := sh99 x (h x (.head _))
    refine ⟨?_, ?_, ?_⟩
    · show (decide ((PyData.shown (.int (x : Int))).length ≤ 8) && _) = true
      rw [decide_eq_true p]; exact a
    · show (PyData.showable (.int (x : Int)) && _) = true
      rw [q]; exact b
    · show 0 + 1 + PyData.bulkAll (pyAll (xs.map nD)) = _
      rw [c, List.length_cons]; omega
theorem py_roads {rs : List Rd} (h : ∀ r ∈ rs, r.a < 100 ∧ r.b < 100 ∧ r.lo < 100 ∧ r.hi < 100) : PyData.leavesShortAll 8 (pyAll (rs.map rdD)) = true ∧ PyData.showableAll (pyAll (rs.map rdD)) = true ∧ PyData.bulkAll (pyAll (rs.map rdD)) = 5 * rs.length := by
  induction rs with
  | nil => exact ⟨rfl, rfl, rfl⟩
  | cons r rs ih =>
    obtain ⟨a, b, c⟩ := ih fun y hy => h y (.tail _ hy)
    obtain ⟨h1, h2, h3, h4⟩ := h r (.head _)
    obtain ⟨p, q, z⟩ := py_nums (xs := [r.a, r.b, r.lo, r.hi]) (by simp [h1, h2, h3, h4])
    refine ⟨?_, ?_, ?_⟩
    · show (PyData.leavesShortAll 8 (pyAll ([r.a, r.b, r.lo, r.hi].map nD)) && PyData.leavesShortAll 8 (pyAll (rs.map rdD))) = true
      rw [p, a]; rfl
    · show (PyData.showableAll (pyAll ([r.a, r.b, r.lo, r.hi].map nD)) && PyData.showableAll (pyAll (rs.map rdD))) = true
      rw [q, b]; rfl
    · show PyData.bulkAll (pyAll ([r.a, r.b, r.lo, r.hi].map nD)) + 1 + PyData.bulkAll (pyAll (rs.map rdD)) = _
      rw [z, c]
      show 4 + 1 + 5 * rs.length = 5 * (rs.length + 1)
      omega
theorem rp_web {w : Web} {hn mx : Nat} (W : WebOk w hn mx) (h1 : hn ≤ 99) (h2 : mx ≤ 99) : dRepr [webD w] = some (.fro (.str (reprD (webD w)))) := by
  have hr : ∀ r ∈ w.rs, r.a < 100 ∧ r.b < 100 ∧ r.lo < 100 ∧ r.hi < 100 := fun r hr => by
    have a := W.ab r hr
    have b := W.lh r hr
    have c := W.nh
    omega
  obtain ⟨a, b, c⟩ := py_roads hr
  have hn' : w.n < 100 := by have := W.nh; omega
  obtain ⟨p, q⟩ := sh99 w.n hn'
  have e1 : eqOk 40 (webD w) = true := by
    show (eqOk 39 (.int w.n) && ((w.rs.map rdD).all (eqOk 38) && true)) = true
    have : (w.rs.map rdD).all (eqOk 38) = true := by
      rw [List.all_eq_true]
      intro d hd
      obtain ⟨r, _, rfl⟩ := List.mem_map.mp hd
      rfl
    rw [this]; rfl
  have e2 : (py (webD w)).showable = true := by
    show (PyData.showable (.int (w.n : Int)) && (PyData.showableAll (pyAll (w.rs.map rdD)) && true)) = true
    rw [q, b]; rfl
  have e3 : (py (webD w)).leavesShort 8 = true := by
    show (decide ((PyData.shown (.int (w.n : Int))).length ≤ 8) && (PyData.leavesShortAll 8 (pyAll (w.rs.map rdD)) && true)) = true
    rw [decide_eq_true p, a]; rfl
  have e4 : (py (webD w)).bulk = 0 + 1 + (PyData.bulkAll (pyAll (w.rs.map rdD)) + 1 + 0) := rfl
  have e5 := PyData.shown_le_bulk 8 (Nat.le_refl _) (py (webD w)) e3
  have hm := W.rm
  have e6 : (py (webD w)).shown.length ≤ 1000000 := by rw [e4, c] at e5; omega
  show (if rpOk (webD w) then some (RV.fro (.str (reprD (webD w)))) else none) = _
  unfold rpOk
  rw [e1, e2, decide_eq_true e6]
  rfl
theorem web_free (w : Web) : hdFree (webD w) = true := by
  rw [webD, hdFree, hdFreeAll_iff]
  intro d hd
  rcases List.mem_cons.mp hd with rfl | hd
  · rfl
  · rw [List.mem_singleton] at hd
    subst hd
    rw [hdFree, hdFreeAll_iff]
    intro d hd
    obtain ⟨r, _, rfl⟩ := List.mem_map.mp hd
    rfl
theorem road_step {b0 b2 s4 : Slot} {w : Web} {mx : Nat} {i : Nat} {r : Rd} {c : Cell} (W : WebOk w 6 10) (hr : w.rs[i]? = some r) (g6 g7 g8 g9 g10 g11 g12 : Slot) :
    ∃ h6 h7 h8 h9 h10 h11 h12, (evSeq (evPar 6 7 (evCall m__law_all_detours (evCons (evName 3) (evCons (evName 5) (evNil)))) (evCall m__law_all_sides (evCons (evName 3) (evCons (evName 5) (evNil))))) (evSeq (evForS (evRng1 (evCons (evC (.int 2)) (evNil))) (tgName 8) (evSeq (evPar 9 10 (evCall m_detours (evCons (evName 3) (evCons (evName 5) (evNil)))) (evCall m_sides (evCons (evName 3) (evCons (evName 5) (evNil))))) (evSeq (evIf (evNot (evTru (evV (evQuiet (evCall (m__law_same 5) (evCons (evLst (evCons (evName 9) (evCons (evName 10) (evNil)))) (evCons (evLst (evCons (evName 6) (evCons (evName 7) (evNil)))) (evNil)))))))) (evRet (evC (.bl false))) (evPass)) (evSeq (evDrop (evMut "list" 9 mAppend (evCons (evC .non) (evNil)))) (evDrop (evMut "list" 10 mAppend (evCons (evC .non) (evNil)))))))) (evForS (evItS (evName 7)) (tgName 11) (evSeq (evSet 12 (evCall m_crossing (evCons (evName 3) (evCons (evName 11) (evNil))))) (evSeq (evIf (evNot (evTru (evV (evQuiet (evCall (m__law_same 5) (evCons (evName 12) (evCons (evCall m__law_cross (evCons (evName 3) (evCons (evName 11) (evNil)))) (evNil)))))))) (evRet (evC (.bl false))) (evPass)) (evSeq (evDrop (evMut "list" 12 mAppend (evCons (evC .non) (evNil)))) (evIf (evB (ev2 dNe (evV (evCall m_crossing (evCons (evName 3) (evCons (evName 11) (evNil))))) (evV (evCall m__law_cross (evCons (evName 3) (evCons (evName 11) (evNil))))))) (evRet (evC (.bl false))) (evPass)))))))) ⟨[b0, .fro (.hd 0), b2, .fro (webD w), s4, .fro (nD i), g6, g7, g8, g9, g10, g11, g12], [c]⟩ =
      some (.nx, ⟨[b0, .fro (.hd 0), b2, .fro (webD w), s4, .fro (nD i), h6, h7, h8, h9, h10, h11, h12], [c]⟩) := by
  have hab := W.ab r (List.mem_of_getElem? hr)
  have hil := (List.getElem?_eq_some_iff.mp hr).1
  have ol := okR_len hil W.rm
  have nh := W.nh
  have rm := W.rm
  have hD : LsOk (((wy w (okR w i) r.b w.n r.a [r.a]).map tU).mergeSort dle) := LsOk.sorted (Nat.le_trans (wy_len ol _ _ _) (Nat.le_trans (Nat.pow_le_pow_right (by decide) (show w.n - 1 ≤ 5 by omega)) (by decide))) fun x hx => by
    have := wy_short _ _ _ x hx; omega
  have sp := sides_perm w.n nh r.b hab.2 r.a hab.1
  have pm := List.isPerm_iff.mp sp.1
  have hS : LsOk (((lawSidesP w.n r.a r.b).map tU).mergeSort dle) := LsOk.sorted (by rw [← pm.length_eq]; omega) fun x hx => by
    obtain ⟨k, hk, hx⟩ := List.mem_flatMap.mp hx
    obtain ⟨y, hy, rfl⟩ := List.mem_map.mp hx
    rw [isort_len, List.length_cons, (subs_len (L := 5) k _ (rest_len5 w.n nh r.b hab.2 r.a hab.1)).2 y hy]
    have := List.mem_range.mp hk
    have := rest_len5 w.n nh r.b hab.2 r.a hab.1
    omega
  have d1 := v_detours hr nh rm W.ab [c]
  have d2 := v_all_detours hr nh rm W.ab [c]
  have s1 : m_sides [webD w, nD i] [c] = _ := v_sides_eq hr nh hab.1 hab.2 [c]
  have s2 : m__law_all_sides [webD w, nD i] [c] = _ := v_all_sides hr nh hab.1 hab.2 [c]
  generalize ((wy w (okR w i) r.b w.n r.a [r.a]).map tU).mergeSort dle = DT at hD d1 d2
  generalize ((lawSidesP w.n r.a r.b).map tU).mergeSort dle = SD at hS s1 s2
  have z2 : small62 2 = true := by decide
  obtain ⟨sa, ea, h8, h9, h10, rfl⟩ := forS_inv (it := (evRng1 (evCons (evC (.int 2)) (evNil)))) (t := tgName 8) (b := (evSeq (evPar 9 10 (evCall m_detours (evCons (evName 3) (evCons (evName 5) (evNil)))) (evCall m_sides (evCons (evName 3) (evCons (evName 5) (evNil))))) (evSeq (evIf (evNot (evTru (evV (evQuiet (evCall (m__law_same 5) (evCons (evLst (evCons (evName 9) (evCons (evName 10) (evNil)))) (evCons (evLst (evCons (evName 6) (evCons (evName 7) (evNil)))) (evNil)))))))) (evRet (evC (.bl false))) (evPass)) (evSeq (evDrop (evMut "list" 9 mAppend (evCons (evC .non) (evNil)))) (evDrop (evMut "list" 10 mAppend (evCons (evC .non) (evNil))))))))
    (fun j s => ∃ g8 g9 g10, s = ⟨[b0, .fro (.hd 0), b2, .fro (webD w), s4, .fro (nD i), .own (.lst DT), .own (.lst SD), g8, g9, g10, g11, g12], [c]⟩)
    (ds := (List.range 2).map nD) (s := ⟨[b0, .fro (.hd 0), b2, .fro (webD w), s4, .fro (nD i), .own (.lst DT), .own (.lst SD), g8, g9, g10, g11, g12], [c]⟩) (s0 := ⟨[b0, .fro (.hd 0), b2, .fro (webD w), s4, .fro (nD i), .own (.lst DT), .own (.lst SD), g8, g9, g10, g11, g12], [c]⟩)
    (by simp -implicitDefEqProofs [z2, upToN]) ⟨g8, g9, g10, rfl⟩ (fun j d s hd ⟨g8, g9, g10, es⟩ => by
      subst es
      have e := again_step (b0 := b0) (b2 := b2) (s3 := .fro (webD w)) (s4 := s4) (g11 := g11) (g12 := g12) (x := d) rfl (fun _ => rfl) hD hS g9 g10 d1 s1
      exact ⟨⟨[b0, .fro (.hd 0), b2, .fro (webD w), s4, .fro (nD i), .own (.lst DT), .own (.lst SD), .fro d, g9, g10, g11, g12], [c]⟩, .nx, _, by simp -implicitDefEqProofs, e, .inl rfl, _, _, _, rfl⟩)
  obtain ⟨sb, eb, h11, h12, rfl⟩ := forS_inv (it := (evItS (evName 7))) (t := tgName 11) (b := (evSeq (evSet 12 (evCall m_crossing (evCons (evName 3) (evCons (evName 11) (evNil))))) (evSeq (evIf (evNot (evTru (evV (evQuiet (evCall (m__law_same 5) (evCons (evName 12) (evCons (evCall m__law_cross (evCons (evName 3) (evCons (evName 11) (evNil)))) (evNil)))))))) (evRet (evC (.bl false))) (evPass)) (evSeq (evDrop (evMut "list" 12 mAppend (evCons (evC .non) (evNil)))) (evIf (evB (ev2 dNe (evV (evCall m_crossing (evCons (evName 3) (evCons (evName 11) (evNil))))) (evV (evCall m__law_cross (evCons (evName 3) (evCons (evName 11) (evNil))))))) (evRet (evC (.bl false))) (evPass))))))
    (fun j s => ∃ g11 g12, s = ⟨[b0, .fro (.hd 0), b2, .fro (webD w), s4, .fro (nD i), .own (.lst DT), .fro (.lst SD), h8, h9, h10, g11, g12], [c]⟩)
    (ds := SD) (s := ⟨[b0, .fro (.hd 0), b2, .fro (webD w), s4, .fro (nD i), .own (.lst DT), .own (.lst SD), h8, h9, h10, g11, g12], [c]⟩) (s0 := ⟨[b0, .fro (.hd 0), b2, .fro (webD w), s4, .fro (nD i), .own (.lst DT), .fro (.lst SD), h8, h9, h10, g11, g12], [c]⟩)
    (by simp -implicitDefEqProofs) ⟨g11, g12, rfl⟩ (fun j d s hd ⟨g11, g12, es⟩ => by
      subst es
      obtain ⟨side, rfl, _⟩ := hS.el d (List.mem_of_getElem? hd)
      obtain ⟨g12', e⟩ := side_step (b0 := b0) (b2 := b2) (s3 := .fro (webD w)) (s4 := s4) (s5 := .fro (nD i)) (s6 := .own (.lst DT)) (s7 := .fro (.lst SD)) (g8 := h8) (g9 := h9) (g10 := h10) (g12 := g12) (w := w) (side := side) (c := c) (by omega) rfl (web_free w)
      exact ⟨⟨[b0, .fro (.hd 0), b2, .fro (webD w), s4, .fro (nD i), .own (.lst DT), .fro (.lst SD), h8, h9, h10, .fro (tU side), g12], [c]⟩, .nx, _, by simp -implicitDefEqProofs, e, .inl rfl, _, _, rfl⟩)
  refine ⟨.own (.lst DT), .fro (.lst SD), h8, h9, h10, h11, h12, ?_⟩
  simp -implicitDefEqProofs [d2, s2, ea, eb]
theorem turn_step {n : Nat} {c : Cell} (h : PenOk n c) (hn : n ≤ 600000) (b0 g2 g3 g4 g5 g6 g7 g8 g9 g10 g11 g12 : Slot) :
    ∃ c' h3 h4 h5 h6 h7 h8 h9 h10 h11 h12, (evSeq (evSet 3 (evCall m__law_draw_web (evCons (evName 1) (evCons (evC (.int 6)) (evCons (evC (.int 10)) (evCons (evC (.int 9)) (evNil))))))) (evSeq (evSet 4 (evN dRepr (evConsB (evSlot 3) (evNilB)))) (evSeq (evForS (evRng1 (evCons (evN dLen (evConsB (evV (ev2 dIx (evSlot 3) (evV (evC (.int 1))))) (evNilB))) (evNil))) (tgName 5) (evSeq (evPar 6 7 (evCall m__law_all_detours (evCons (evName 3) (evCons (evName 5) (evNil)))) (evCall m__law_all_sides (evCons (evName 3) (evCons (evName 5) (evNil))))) (evSeq (evForS (evRng1 (evCons (evC (.int 2)) (evNil))) (tgName 8) (evSeq (evPar 9 10 (evCall m_detours (evCons (evName 3) (evCons (evName 5) (evNil)))) (evCall m_sides (evCons (evName 3) (evCons (evName 5) (evNil))))) (evSeq (evIf (evNot (evTru (evV (evQuiet (evCall (m__law_same 5) (evCons (evLst (evCons (evName 9) (evCons (evName 10) (evNil)))) (evCons (evLst (evCons (evName 6) (evCons (evName 7) (evNil)))) (evNil)))))))) (evRet (evC (.bl false))) (evPass)) (evSeq (evDrop (evMut "list" 9 mAppend (evCons (evC .non) (evNil)))) (evDrop (evMut "list" 10 mAppend (evCons (evC .non) (evNil)))))))) (evForS (evItS (evName 7)) (tgName 11) (evSeq (evSet 12 (evCall m_crossing (evCons (evName 3) (evCons (evName 11) (evNil))))) (evSeq (evIf (evNot (evTru (evV (evQuiet (evCall (m__law_same 5) (evCons (evName 12) (evCons (evCall m__law_cross (evCons (evName 3) (evCons (evName 11) (evNil)))) (evNil)))))))) (evRet (evC (.bl false))) (evPass)) (evSeq (evDrop (evMut "list" 12 mAppend (evCons (evC .non) (evNil)))) (evIf (evB (ev2 dNe (evV (evCall m_crossing (evCons (evName 3) (evCons (evName 11) (evNil))))) (evV (evCall m__law_cross (evCons (evName 3) (evCons (evName 11) (evNil))))))) (evRet (evC (.bl false))) (evPass))))))))) (evIf (evB (ev2 dNe (evV (evN dRepr (evConsB (evSlot 3) (evNilB)))) (evSlot 4))) (evRet (evC (.bl false))) (evPass))))) ⟨[b0, .fro (.hd 0), g2, g3, g4, g5, g6, g7, g8, g9, g10, g11, g12], [c]⟩ =
      some (.nx, ⟨[b0, .fro (.hd 0), g2, h3, h4, h5, h6, h7, h8, h9, h10, h11, h12], [c']⟩) ∧ PenOk (n + 2000) c' := by
  obtain ⟨w, c1, e1, W, p1⟩ := v_draw_web h (by omega) 6 10 9 (by decide) (by decide) (by decide) (by decide)
  have e1 : m__law_draw_web [.hd 0, .int 6, .int 10, .int 9] [c] = some (.fro (webD w), [c1]) := e1
  have rp := rp_web W (by decide) (by decide)
  have s6 : small62 (w.rs.length : Int) = true := small62_nat (by have := W.rm; omega)
  obtain ⟨sa, ea, h5, h6, h7, h8, h9, h10, h11, h12, rfl⟩ := forS_inv (it := (evRng1 (evCons (evN dLen (evConsB (evV (ev2 dIx (evSlot 3) (evV (evC (.int 1))))) (evNilB))) (evNil)))) (t := tgName 5) (b := (evSeq (evPar 6 7 (evCall m__law_all_detours (evCons (evName 3) (evCons (evName 5) (evNil)))) (evCall m__law_all_sides (evCons (evName 3) (evCons (evName 5) (evNil))))) (evSeq (evForS (evRng1 (evCons (evC (.int 2)) (evNil))) (tgName 8) (evSeq (evPar 9 10 (evCall m_detours (evCons (evName 3) (evCons (evName 5) (evNil)))) (evCall m_sides (evCons (evName 3) (evCons (evName 5) (evNil))))) (evSeq (evIf (evNot (evTru (evV (evQuiet (evCall (m__law_same 5) (evCons (evLst (evCons (evName 9) (evCons (evName 10) (evNil)))) (evCons (evLst (evCons (evName 6) (evCons (evName 7) (evNil)))) (evNil)))))))) (evRet (evC (.bl false))) (evPass)) (evSeq (evDrop (evMut "list" 9 mAppend (evCons (evC .non) (evNil)))) (evDrop (evMut "list" 10 mAppend (evCons (evC .non) (evNil)))))))) (evForS (evItS (evName 7)) (tgName 11) (evSeq (evSet 12 (evCall m_crossing (evCons (evName 3) (evCons (evName 11) (evNil))))) (evSeq (evIf (evNot (evTru (evV (evQuiet (evCall (m__law_same 5) (evCons (evName 12) (evCons (evCall m__law_cross (evCons (evName 3) (evCons (evName 11) (evNil)))) (evNil)))))))) (evRet (evC (.bl false))) (evPass)) (evSeq (evDrop (evMut "list" 12 mAppend (evCons (evC .non) (evNil)))) (evIf (evB (ev2 dNe (evV (evCall m_crossing (evCons (evName 3) (evCons (evName 11) (evNil))))) (evV (evCall m__law_cross (evCons (evName 3) (evCons (evName 11) (evNil))))))) (evRet (evC (.bl false))) (evPass)))))))))
    (fun j s => ∃ g5 g6 g7 g8 g9 g10 g11 g12, s = ⟨[b0, .fro (.hd 0), g2, .fro (webD w), .fro (.str (reprD (webD w))), g5, g6, g7, g8, g9, g10, g11, g12], [c1]⟩)
    (ds := (List.range w.rs.length).map nD) (s := ⟨[b0, .fro (.hd 0), g2, .fro (webD w), .fro (.str (reprD (webD w))), g5, g6, g7, g8, g9, g10, g11, g12], [c1]⟩) (s0 := ⟨[b0, .fro (.hd 0), g2, .fro (webD w), .fro (.str (reprD (webD w))), g5, g6, g7, g8, g9, g10, g11, g12], [c1]⟩)
    (by simp -implicitDefEqProofs [s6, upToN]) ⟨g5, g6, g7, g8, g9, g10, g11, g12, rfl⟩ (fun j d s hd ⟨g5, g6, g7, g8, g9, g10, g11, g12, es⟩ => by
      subst es
      rw [List.getElem?_map] at hd
      obtain ⟨x, hx, rfl⟩ := Option.map_eq_some_iff.mp hd
      obtain ⟨hj, hx⟩ := List.getElem?_eq_some_iff.mp hx
      rw [List.length_range] at hj
      rw [List.getElem_range] at hx
      subst hx
      obtain ⟨k6, k7, k8, k9, k10, k11, k12, e⟩ := road_step (b0 := b0) (b2 := g2) (s4 := .fro (.str (reprD (webD w)))) (mx := 0) (c := c1) W (List.getElem?_eq_getElem hj) g6 g7 g8 g9 g10 g11 g12
      exact ⟨⟨[b0, .fro (.hd 0), g2, .fro (webD w), .fro (.str (reprD (webD w))), .fro (nD j), g6, g7, g8, g9, g10, g11, g12], [c1]⟩, .nx, _, by simp -implicitDefEqProofs, e, .inl rfl, _, _, _, _, _, _, _, _, rfl⟩)
  have nn : dNe (.str (reprD (webD w))) (.str (reprD (webD w))) = some (.fro (.bl false)) := by
    show some (RV.fro (.bl (!decide (reprD (webD w) = reprD (webD w))))) = _
    rw [decide_eq_true rfl]; rfl
  refine ⟨c1, .fro (webD w), .fro (.str (reprD (webD w))), h5, h6, h7, h8, h9, h10, h11, h12, ?_, p1⟩
  generalize reprD (webD w) = R at rp ea nn
  simp -implicitDefEqProofs [e1, rp, ea, nn]
theorem keeps : Keeps m_law := fun ns _ _ => by
  obtain ⟨d, eo, p0⟩ := v_open ns
  have z6 : small62 6 = true := by decide
  obtain ⟨sa, ea, c', g2, g3, g4, g5, g6, g7, g8, g9, g10, g11, g12, rfl, _⟩ := forS_inv (it := (evRng1 (evCons (evC (.int 6)) (evNil)))) (t := tgName 2) (b := (evSeq (evSet 3 (evCall m__law_draw_web (evCons (evName 1) (evCons (evC (.int 6)) (evCons (evC (.int 10)) (evCons (evC (.int 9)) (evNil))))))) (evSeq (evSet 4 (evN dRepr (evConsB (evSlot 3) (evNilB)))) (evSeq (evForS (evRng1 (evCons (evN dLen (evConsB (evV (ev2 dIx (evSlot 3) (evV (evC (.int 1))))) (evNilB))) (evNil))) (tgName 5) (evSeq (evPar 6 7 (evCall m__law_all_detours (evCons (evName 3) (evCons (evName 5) (evNil)))) (evCall m__law_all_sides (evCons (evName 3) (evCons (evName 5) (evNil))))) (evSeq (evForS (evRng1 (evCons (evC (.int 2)) (evNil))) (tgName 8) (evSeq (evPar 9 10 (evCall m_detours (evCons (evName 3) (evCons (evName 5) (evNil)))) (evCall m_sides (evCons (evName 3) (evCons (evName 5) (evNil))))) (evSeq (evIf (evNot (evTru (evV (evQuiet (evCall (m__law_same 5) (evCons (evLst (evCons (evName 9) (evCons (evName 10) (evNil)))) (evCons (evLst (evCons (evName 6) (evCons (evName 7) (evNil)))) (evNil)))))))) (evRet (evC (.bl false))) (evPass)) (evSeq (evDrop (evMut "list" 9 mAppend (evCons (evC .non) (evNil)))) (evDrop (evMut "list" 10 mAppend (evCons (evC .non) (evNil)))))))) (evForS (evItS (evName 7)) (tgName 11) (evSeq (evSet 12 (evCall m_crossing (evCons (evName 3) (evCons (evName 11) (evNil))))) (evSeq (evIf (evNot (evTru (evV (evQuiet (evCall (m__law_same 5) (evCons (evName 12) (evCons (evCall m__law_cross (evCons (evName 3) (evCons (evName 11) (evNil)))) (evNil)))))))) (evRet (evC (.bl false))) (evPass)) (evSeq (evDrop (evMut "list" 12 mAppend (evCons (evC .non) (evNil)))) (evIf (evB (ev2 dNe (evV (evCall m_crossing (evCons (evName 3) (evCons (evName 11) (evNil))))) (evV (evCall m__law_cross (evCons (evName 3) (evCons (evName 11) (evNil))))))) (evRet (evC (.bl false))) (evPass))))))))) (evIf (evB (ev2 dNe (evV (evN dRepr (evConsB (evSlot 3) (evNilB)))) (evSlot 4))) (evRet (evC (.bl false))) (evPass))))))
    (fun j s => ∃ (c' : Cell) (g2 g3 g4 g5 g6 g7 g8 g9 g10 g11 g12 : Slot), s = ⟨[.fro (.scr ns), .fro (.hd 0), g2, g3, g4, g5, g6, g7, g8, g9, g10, g11, g12], [c']⟩ ∧ PenOk (2000 * j) c')
    (ds := (List.range 6).map nD) (s := ⟨[.fro (.scr ns), .fro (.hd 0), .non, .non, .non, .non, .non, .non, .non, .non, .non, .non, .non], [.d d]⟩) (s0 := ⟨[.fro (.scr ns), .fro (.hd 0), .non, .non, .non, .non, .non, .non, .non, .non, .non, .non, .non], [.d d]⟩)
    (by simp -implicitDefEqProofs [z6, upToN]) ⟨_, .non, .non, .non, .non, .non, .non, .non, .non, .non, .non, .non, rfl, p0⟩ (fun j x s hd ⟨c2, g2, g3, g4, g5, g6, g7, g8, g9, g10, g11, g12, es, p⟩ => by
      subst es
      have hj := (List.getElem?_eq_some_iff.mp hd).1
      rw [List.length_map, List.length_range] at hj
      obtain ⟨c3, h3, h4, h5, h6, h7, h8, h9, h10, h11, h12, e, p3⟩ := turn_step p (by omega) (.fro (.scr ns)) (.fro x) g3 g4 g5 g6 g7 g8 g9 g10 g11 g12
      exact ⟨⟨[.fro (.scr ns), .fro (.hd 0), .fro x, g3, g4, g5, g6, g7, g8, g9, g10, g11, g12], [c2]⟩, .nx, _, by simp -implicitDefEqProofs, e, .inl rfl, c3, _, _, _, _, _, _, _, _, _, _, _, rfl, p3.mono (by omega)⟩)
  refine ⟨[c'], ?_⟩
  simp -implicitDefEqProofs [m_law, ev_law, eo, ea]
end G

set_option Elab.async false
open PySem PySem.W PyProof.Rows
set_option maxRecDepth 100000 in
set_option maxHeartbeats 0 in
theorem PySem.Challenge.cw_roughroads_k03_ways_listed_holds : PySem.Challenge.rw_roughroads_k03_ways_listed.Holds := by
  w_on; o_law; k_head; (case hw => w_witness2)
  k_fill
  refine Pv.walk_end (l := PySem.Challenge.rw_roughroads_k03_ways_listed) (k := 13) (x := "script") (m := G.m_law) rfl rfl (by decide) (fun w h Y => PySem.W.kIn_of Y) ?walkF ?lawM
  case walkF =>
    intro w mg fa h KX GX hmg
    refine' G.all_mk KX GX hmg ?a0 ?l0 ?c0 ?k0 ?a1 ?l1 ?c1 ?k1 ?a2 ?l2 ?c2 ?k2 ?a3 ?l3 ?c3 ?k3 ?a4 ?l4 ?c4 ?k4 ?a5 ?l5 ?c5 ?k5 ?a6 ?l6 ?c6 ?k6 ?a7 ?l7 ?c7 ?k7 ?a8 ?l8 ?c8 ?k8 ?a9 ?l9 ?c9 ?k9 ?a10 ?l10 ?c10 ?k10 ?a11 ?l11 ?c11 ?k11 ?a12 ?l12 ?c12 ?k12 ?a13 ?l13 ?c13 ?k13 ?a14 ?l14 ?c14 ?k14 ?a15 ?l15 ?c15 ?k15 ?a16 ?l16 ?c16 ?k16 ?a17 ?l17 ?c17 ?k17 ?a18 ?l18 ?c18 ?k18 ?a19 ?l19 ?c19 ?k19 ?z_bool ?z_enumerate ?z_int ?z_isinstance ?z_len ?z_list ?z_max ?z_min ?z_range ?z_repr ?z_sorted ?z_str ?z_tuple ?z_zip
    (case a0 => k_is)
    (case l0 => k_is)
    (case c0 => k_is)
    (case k0 => k_is)
    (case a1 => k_is)
    (case l1 => k_is)
    (case c1 => k_is)
    (case k1 => k_is)
    (case a2 => k_is)
    (case l2 => k_is)
    (case c2 => k_is)
    (case k2 => k_is)
    (case a3 => k_is)
    (case l3 => k_is)
    (case c3 => k_is)
    (case k3 => k_is)
    (case a4 => k_is)
    (case l4 => k_is)
    (case c4 => k_is)
    (case k4 => k_is)
    (case a5 => k_is)
    (case l5 => k_is)
    (case c5 => k_is)
    (case k5 => k_is)
    (case a6 => k_is)
    (case l6 => k_is)
    (case c6 => k_is)
    (case k6 => k_is)
    (case a7 => k_is)
    (case l7 => k_is)
    (case c7 => k_is)
    (case k7 => k_is)
    (case a8 => k_is)
    (case l8 => k_is)
    (case c8 => k_is)
    (case k8 => k_is)
    (case a9 => k_is)
    (case l9 => k_is)
    (case c9 => k_is)
    (case k9 => k_is)
    (case a10 => k_is)
    (case l10 => k_is)
    (case c10 => k_is)
    (case k10 => k_is)
    (case a11 => k_is)
    (case l11 => k_is)
    (case c11 => k_is)
    (case k11 => k_is)
    (case a12 => k_is)
    (case l12 => k_is)
    (case c12 => k_is)
    (case k12 => k_is)
    (case a13 => k_is)
    (case l13 => k_is)
    (case c13 => k_is)
    (case k13 => k_is)
    (case a14 => k_is)
    (case l14 => k_is)
    (case c14 => k_is)
    (case k14 => k_is)
    (case a15 => k_is)
    (case l15 => k_is)
    (case c15 => k_is)
    (case k15 => k_is)
    (case a16 => k_is)
    (case l16 => k_is)
    (case c16 => k_is)
    (case k16 => k_is)
    (case a17 => k_is)
    (case l17 => k_is)
    (case c17 => k_is)
    (case k17 => k_is)
    (case a18 => k_is)
    (case l18 => k_is)
    (case c18 => k_is)
    (case k18 => k_is)
    (case a19 => k_is)
    (case l19 => k_is)
    (case c19 => k_is)
    (case k19 => k_is)
    (case z_bool => k_is)
    (case z_enumerate => k_is)
    (case z_int => k_is)
    (case z_isinstance => k_is)
    (case z_len => k_is)
    (case z_list => k_is)
    (case z_max => k_is)
    (case z_min => k_is)
    (case z_range => k_is)
    (case z_repr => k_is)
    (case z_sorted => k_is)
    (case z_str => k_is)
    (case z_tuple => k_is)
    (case z_zip => k_is)
  case lawM => exact G.keeps
#print axioms PySem.Challenge.cw_roughroads_k03_ways_listed_holds

