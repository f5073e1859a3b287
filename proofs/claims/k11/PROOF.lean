import PyProof.Rows.All
import Wide.All
import OpenK.AllK
import Wide.FinOn
import HandS.ForMost
import HandS.Walk
import HandS.Conv
import HandS.TupLe
import HandS.TupAny
import HandS.TupMul
import HandS.Deep
import HandS.SortRule
import HandS.IsInst
import HandS.Rev
import HandS.RevRange
import HandS.Zip
import HandS.StrMore
import HandS.DictComp
import HandS.SetFor
import HandS.Wide
import HandS.Lambda
import HandS.NoneIn
import KE.GoesNew
import KE.SortData
import KE.DataMinMax
import KE.KTupSum
import KE.DataAny
import HandS.WordsDict
import HandS.SortInts
import KE.KDictSum
import HandS.Small
import HandS.Style
import KE.KRevSl
import PyProof.EqKinds
import HandS.WordsExc
import HandS.ExcOwn
import HandS.TryMany
import HandS.ExcIs
import HandS.ExcField
import HandS.EndTab
import KE.KNestM
import KE.KLam
import KE.RegKIsAll
import PySem.Challenge.RW_weighhouse_k11_whole_results_and_codes_o
set_option Elab.async false
set_option linter.all false
set_option maxRecDepth 100000
set_option maxHeartbeats 4000000
/-! VL0: plain data over the abstract heap; slots that own; what is frozen. -/
namespace VL
open PySem PySem.Spec PyProof.Rows L2

abbrev D := PyData

/-- every tracked object stays -/
def Le (H H' : Hp) : Prop := ∀ a o, H a = some o → H' a = some o
theorem Le.refl {H : Hp} : Le H H := fun _ _ h => h
theorem Le.trans {H H1 H2 : Hp} (a : Le H H1) (b : Le H1 H2) : Le H H2 := fun x o h => b x o (a x o h)
theorem le_upd {H : Hp} {p : Addr} {o : HO} (h : H p = none) : Le H (upd H p o) := fun a x e => by
  rw [upd_ne (ne_of_none e h)]; exact e

/-- all but tables of code objects -/
def dropT : Option HO → Option HO
  | some (.tbl _) => none
  | o => o
theorem dropT_some {o : Option HO} {u : HO} : dropT o = some u ↔ o = some u ∧ ∀ ps, u ≠ .tbl ps := by
  cases o with
  | none => simp [dropT]
  | some w =>
    cases w with
    | tbl ps =>
      simp only [dropT, Option.some.injEq]
      constructor
      · intro z; cases z
      · rintro ⟨e, n⟩; exact absurd e.symm (n ps)
    | _ => simp only [dropT, Option.some.injEq]; exact ⟨fun e => ⟨e, fun ps z => by rw [z] at e; cases e⟩, fun e => e.1⟩
theorem dropT_nt {u : HO} (h : ∀ ps, u ≠ .tbl ps) : dropT (some u) = some u := dropT_some.mpr ⟨rfl, h⟩
/-- the heap without the addresses of P, and without tables of code objects -/
noncomputable def Fz (P : Addr → Prop) (H : Hp) : Hp := fun a => by classical exact dropT (if P a then none else H a)
theorem fz_no {P : Addr → Prop} {H : Hp} {a : Addr} (h : ¬ P a) : Fz P H a = dropT (H a) := by unfold Fz; simp [h]
theorem fz_yes {P : Addr → Prop} {H : Hp} {a : Addr} (h : P a) : Fz P H a = none := by unfold Fz; simp [h, dropT]
theorem fz_some {P : Addr → Prop} {H : Hp} {a : Addr} {o : HO} : Fz P H a = some o ↔ ¬ P a ∧ H a = some o ∧ ∀ ps, o ≠ .tbl ps := by
  by_cases h : P a
  · rw [fz_yes h]; simp [h]
  · rw [fz_no h, dropT_some]; simp [h]
theorem fz_le {P : Addr → Prop} {H : Hp} : Le (Fz P H) H := fun a o e => (fz_some.mp e).2.1
theorem fz_monoN {P P' : Addr → Prop} {H H' : Hp} (hp : ∀ a, H a ≠ none → P' a → P a) (h : LamX.ExtN H H') : Le (Fz P H) (Fz P' H') := fun a o e => by
  obtain ⟨n, e, nt⟩ := fz_some.mp e
  exact fz_some.mpr ⟨fun q => n (hp a (by rw [e]; simp) q), h a o e nt, nt⟩
theorem fz_mono {P P' : Addr → Prop} {H H' : Hp} (hp : ∀ a, H a ≠ none → P' a → P a) (h : Le H H') : Le (Fz P H) (Fz P' H') := fz_monoN hp (LamX.ExtN.of h)

theorem rd_le {H H' : Hp} {a : Addr} {u : HO} (r : Rd H a u) (l : Le H H') : Rd H' a u := by
  rcases r with r | ⟨o, r⟩
  · exact .inl (l _ _ r)
  · exact .inr ⟨o, l _ _ r⟩
theorem sqL_le {K : PySem.W.Frag} {H H' : Hp} {a : Addr} {xs : List V} (r : SqL K H a xs) (l : Le H H') : SqL K H' a xs := by
  rcases r with r | r
  · exact .inl (rd_le r l)
  · exact .inr r
theorem sqT_le {K : PySem.W.Frag} {H H' : Hp} {a : Addr} {xs : List V} (r : SqT K H a xs) (l : Le H H') : SqT K H' a xs := by
  rcases r with r | r
  · exact .inl (rd_le r l)
  · exact .inr r

/-- a key as a datum -/
def keyD : Key → D
  | .inl i => .int i
  | .inr x => .str x
def keysD (ks : List Key) : D := .tuple (ks.map keyD)

mutual
/-- the value v stands for the datum d in H -/
inductive Rp (K : PySem.W.Frag) (H : Hp) : V → D → Prop
  | non : Rp K H .non .none
  | bl (b : Bool) : Rp K H (.bl b) (.bool b)
  | int (i : Int) : Rp K H (.int i) (.int i)
  | str (x : Str) : Rp K H (.str x) (.str x)
  | lst {a : Addr} {xs : List V} {ds : List D} : H a = some (.lst xs) → RpA K H xs ds → Rp K H (.ref a) (.list ds)
  | tup {a : Addr} {xs : List V} {ds : List D} : SqT K H a xs → RpA K H xs ds → Rp K H (.ref a) (.tuple ds)
  | dK {a : Addr} {kvs : List (Key × V)} {ds : List (D × D)} : H a = some (.dK kvs) → RpK K H kvs ds → Rp K H (.ref a) (.dict ds)
inductive RpA (K : PySem.W.Frag) (H : Hp) : List V → List D → Prop
  | nil : RpA K H [] []
  | cons {v : V} {vs : List V} {d : D} {ds : List D} : Rp K H v d → RpA K H vs ds → RpA K H (v :: vs) (d :: ds)
inductive RpK (K : PySem.W.Frag) (H : Hp) : List (Key × V) → List (D × D) → Prop
  | nil : RpK K H [] []
  | cons {k : Key} {v : V} {vs : List (Key × V)} {d : D} {ds : List (D × D)} : Rp K H v d → RpK K H vs ds → RpK K H ((k, v) :: vs) ((keyD k, d) :: ds)
end
section
variable {K : PySem.W.Frag} {H H' : Hp}
mutual
theorem Rp.le (l : Le H H') : ∀ {v : V} {d : D}, Rp K H v d → Rp K H' v d
  | _, _, .non => .non
  | _, _, .bl b => .bl b
  | _, _, .int i => .int i
  | _, _, .str x => .str x
  | _, _, .lst s r => .lst (l _ _ s) (RpA.le l r)
  | _, _, .tup s r => .tup (sqT_le s l) (RpA.le l r)
  | _, _, .dK s r => .dK (l _ _ s) (RpK.le l r)
theorem RpA.le (l : Le H H') : ∀ {v : List V} {d : List D}, RpA K H v d → RpA K H' v d
  | _, _, .nil => .nil
  | _, _, .cons a r => .cons (Rp.le l a) (RpA.le l r)
theorem RpK.le (l : Le H H') : ∀ {v : List (Key × V)} {d : List (D × D)}, RpK K H v d → RpK K H' v d
  | _, _, .nil => .nil
  | _, _, .cons a r => .cons (Rp.le l a) (RpK.le l r)
end
theorem RpA.length : ∀ {v : List V} {d : List D}, RpA K H v d → v.length = d.length
  | _, _, .nil => rfl
  | _, _, .cons _ r => by simp [RpA.length r]
theorem RpA.get : ∀ {v : List V} {d : List D} {i : Nat} {x : V}, RpA K H v d → v[i]? = some x → ∃ y, d[i]? = some y ∧ Rp K H x y
  | _, _, _, _, .nil, e => by simp at e
  | _, _, 0, _, .cons a r, e => by simp at e; subst e; exact ⟨_, rfl, a⟩
  | _, _, i + 1, x, .cons a r, e => by
    obtain ⟨y, h1, h2⟩ := RpA.get (i := i) (x := x) r (by simpa using e)
    exact ⟨y, by simpa using h1, h2⟩
theorem RpA.get' {v : List V} {d : List D} {i : Nat} {y : D} (r : RpA K H v d) (e : d[i]? = some y) : ∃ x, v[i]? = some x ∧ Rp K H x y := by
  have hi : i < v.length := by rw [r.length]; exact (List.getElem?_eq_some_iff.mp e).1
  obtain ⟨z, h1, h2⟩ := r.get (x := v[i]) (i := i) (by simp [hi])
  rw [e] at h1; cases h1
  exact ⟨_, by simp [hi], h2⟩
theorem RpA.app : ∀ {v w : List V} {d e : List D}, RpA K H v d → RpA K H w e → RpA K H (v ++ w) (d ++ e)
  | _, _, _, _, .nil, s => s
  | _, _, _, _, .cons a r, s => .cons a (RpA.app r s)
theorem RpA.one {v : V} {d : D} (r : Rp K H v d) : RpA K H [v] [d] := .cons r .nil
theorem RpA.take : ∀ {v : List V} {d : List D} (n : Nat), RpA K H v d → RpA K H (v.take n) (d.take n)
  | _, _, 0, _ => by simpa using RpA.nil
  | _, _, _ + 1, .nil => by simpa using RpA.nil
  | _, _, n + 1, .cons a r => .cons a (RpA.take n r)
theorem RpA.drop : ∀ {v : List V} {d : List D} (n : Nat), RpA K H v d → RpA K H (v.drop n) (d.drop n)
  | _, _, 0, r => r
  | _, _, _ + 1, .nil => .nil
  | _, _, n + 1, .cons _ r => RpA.drop n r
theorem RpA.set {x : V} {y : D} (q : Rp K H x y) : ∀ {v : List V} {d : List D} (n : Nat), RpA K H v d → RpA K H (v.set n x) (d.set n y)
  | _, _, _, .nil => .nil
  | _, _, 0, .cons _ r => .cons q r
  | _, _, n + 1, .cons a r => .cons a (RpA.set q n r)
theorem RpA.erase : ∀ {v : List V} {d : List D} (n : Nat), RpA K H v d → RpA K H (v.eraseIdx n) (d.eraseIdx n)
  | _, _, _, .nil => .nil
  | _, _, 0, .cons _ r => r
  | _, _, n + 1, .cons a r => .cons a (RpA.erase n r)
theorem RpA.rev {v : List V} {d : List D} (r : RpA K H v d) : RpA K H v.reverse d.reverse := by
  induction r using RpA.rec (motive_1 := fun _ _ _ => True) (motive_3 := fun _ _ _ => True) with
  | nil => exact .nil
  | cons a r _ ih => simp only [List.reverse_cons]; exact ih.app (.one a)
  | _ => trivial
theorem RpA.mem {v : List V} {d : List D} {x : V} (r : RpA K H v d) (h : x ∈ v) : ∃ y ∈ d, Rp K H x y := by
  obtain ⟨i, hi, e⟩ := List.getElem_of_mem h
  obtain ⟨y, e1, e2⟩ := r.get (i := i) (x := x) (by rw [List.getElem?_eq_getElem hi, e])
  exact ⟨y, List.mem_of_getElem? e1, e2⟩
theorem RpA.of_map {α : Type} (f : α → V) (g : α → D) : ∀ (l : List α), (∀ a ∈ l, Rp K H (f a) (g a)) → RpA K H (l.map f) (l.map g)
  | [], _ => .nil
  | a :: l, h => .cons (h a List.mem_cons_self) (RpA.of_map f g l fun b hb => h b (List.mem_cons_of_mem _ hb))
theorem RpA.rep {v : V} {d : D} (r : Rp K H v d) : ∀ n, RpA K H (List.replicate n v) (List.replicate n d)
  | 0 => .nil
  | n + 1 => .cons r (RpA.rep r n)
theorem RpA.flat : ∀ {vs : List (List V)} {ds : List (List D)}, Paired (RpA K H) vs ds → RpA K H vs.flatten ds.flatten
  | _, _, .nil => .nil
  | _, _, .cons a r => by simpa using RpA.app a (RpA.flat r)
end

/-- what stands at an owned address, by its datum -/
def Ob (K : PySem.W.Frag) (F : Hp) : Option HO → D → Prop
  | some (.lst vs), .list ds => RpA K F vs ds
  | some (.dK kvs), .dict ds => RpK K F kvs ds
  | _, _ => False
theorem Ob.le {K : PySem.W.Frag} {F F' : Hp} (l : Le F F') {o : Option HO} {d : D} (h : Ob K F o d) : Ob K F' o d := by
  cases o with
  | none => exact h.elim
  | some o =>
    cases o <;> cases d <;> first | exact h.elim | exact RpA.le l h | exact RpK.le l h
theorem Ob.has {K : PySem.W.Frag} {F : Hp} {o : Option HO} {d : D} (h : Ob K F o d) : ∃ u, o = some u := by
  cases o with
  | none => exact h.elim
  | some u => exact ⟨u, rfl⟩
theorem Ob.mut {K : PySem.W.Frag} {F : Hp} {o : Option HO} {d : D} (h : Ob K F o d) : Mut o := by
  cases o with
  | none => exact h.elim
  | some o => cases o <;> cases d <;> first | exact h.elim | trivial
theorem Ob.lst {K : PySem.W.Frag} {F : Hp} {o : Option HO} {ds : List D} (h : Ob K F o (.list ds)) : ∃ vs, o = some (HO.lst vs) ∧ RpA K F vs ds := by
  cases o with
  | none => exact h.elim
  | some o => cases o <;> first | exact h.elim | exact ⟨_, rfl, h⟩
/-- frozen: an owned thing is a plain one -/
theorem Ob.rp {K : PySem.W.Frag} {F : Hp} {a : Addr} {d : D} (h : Ob K F (F a) d) : Rp K F (.ref a) d := by
  cases e : F a with
  | none => rw [e] at h; exact h.elim
  | some o =>
    rw [e] at h
    cases o <;> cases d <;> first | exact h.elim | exact .lst e h | exact .dK e h

/-! ### slots -/
inductive Sl where
  /-- nothing is known; a shared (frozen) thing; an owned one; the script -/
  | no | sh (d : D) | ow (d : D) | sc (ns : List Int)
  /-- a value of which nothing but itself is known: a def handed in, an exception caught -/
  | rf (v : V)
abbrev Env := List Sl

/-- the entry: what is frozen there; the address of the parameter (slot 0) that is handed in to be changed -/
structure Cf where
  B : Hp
  io : Option Addr
  /-- what the callers own -/
  T0 : List (Addr × HO)

def OwnAt (ρ : Env) (σ : L2.St) (i : Nat) (a : Addr) : Prop := (∃ d, ρ[i]? = some (.ow d)) ∧ σ[i]? = some (some (.ref a))
def Prot (T : List (Addr × HO)) (ρ : Env) (σ : L2.St) (a : Addr) : Prop := (∃ i, OwnAt ρ σ i a) ∨ ∃ o, (a, o) ∈ T
noncomputable abbrev Fr (T : List (Addr × HO)) (ρ : Env) (σ : L2.St) (H : Hp) : Hp := Fz (Prot T ρ σ) H

def SlOk (K : PySem.W.Frag) (F H : Hp) (σ : L2.St) (i : Nat) : Sl → Prop
  | .no => True
  | .sh d => ∃ v, σ[i]? = some (some v) ∧ Rp K F v d
  | .ow d => ∃ a, σ[i]? = some (some (.ref a)) ∧ Ob K F (H a) d
  | .sc ns => ∃ a, σ[i]? = some (some (.ref a)) ∧ SqL K F a (ns.map V.int)
  | .rf v => σ[i]? = some (some v)

/-- no table of code objects, no code object -/
def Mt (o : HO) : Prop := (∀ ps, o ≠ .tbl ps) ∧ ∀ f, o ≠ .ext f
/-- what T says of a: the very thing that stands there, or (marked by the name that its code objects bear) a table -/
def Sat (H : Hp) (a : Addr) (o : HO) : Prop := (∃ q t, o = .tbl #[.str q t] ∧ LamX.TabS H a q) ∨ (H a = some o ∧ Mt o)
theorem Sat.ne {H : Hp} {a : Addr} {o : HO} (h : Sat H a o) : H a ≠ none := by
  rcases h with ⟨q, t, _, ps, e, _⟩ | ⟨e, _⟩ <;> rw [e] <;> simp
theorem Sat.le {H H' : Hp} {a : Addr} {o : HO} (h : Sat H a o) (l : Le H H') : Sat H' a o := by
  rcases h with ⟨q, t, e, h⟩ | ⟨e, m⟩
  · exact .inl ⟨q, t, e, h.ext l⟩
  · exact .inr ⟨l _ _ e, m⟩
theorem Sat.at {H : Hp} {a : Addr} {o : HO} (h : Sat H a o) (m : ∀ ps, o ≠ .tbl ps) : H a = some o := by
  rcases h with ⟨q, t, e, _⟩ | ⟨e, _⟩
  · exact absurd e (m _)
  · exact e
theorem Sat.upd {H : Hp} {a b : Addr} {u w o : HO} (h : Sat H b u) (n : b ≠ a) (e : H a = some w) (m : Mt w) : Sat (upd H a o) b u := by
  rcases h with ⟨q, t, e1, ps, h1, h2, h3⟩ | ⟨e1, m1⟩
  · refine .inl ⟨q, t, e1, ps, by rw [upd_ne n]; exact h1, h2, fun pos cv hc => ?_⟩
    obtain ⟨c, e2, e3⟩ := h3 pos cv hc
    refine ⟨c, e2, ?_⟩
    rw [upd_ne (fun z => ?_)]
    · exact e3
    · rw [z, e] at e3
      exact m.2 _ (Option.some.inj e3)
  · exact .inr ⟨by rw [upd_ne n]; exact e1, m1⟩
theorem Sat.same {H H' : Hp} {a : Addr} {o : HO} (h : Sat H a o) (w : ∃ w, H a = some w ∧ Mt w) (h' : Sat H' a o) : H' a = H a := by
  obtain ⟨w, e, m⟩ := w
  rcases h with ⟨q, t, _, ps, e1, _⟩ | ⟨e1, m1⟩
  · rw [e] at e1
    exact absurd (Option.some.inj e1) (m.1 _)
  · rw [e1, h'.at m1.1]
theorem mt_lst {xs : List V} : Mt (.lst xs) := ⟨fun _ z => (nomatch z), fun _ z => (nomatch z)⟩
theorem mt_frz {x : Obj} {o : HO} : Mt (.frz x o) := ⟨fun _ z => (nomatch z), fun _ z => (nomatch z)⟩
theorem mt_dK {xs : List (Key × V)} : Mt (.dK xs) := ⟨fun _ z => (nomatch z), fun _ z => (nomatch z)⟩
theorem Ob.mt {K : PySem.W.Frag} {F : Hp} {o : HO} {d : D} (h : Ob K F (some o) d) : Mt o := by
  cases o <;> first | exact mt_lst | exact mt_dK | (cases d <;> exact h.elim)
def IsTb (o : HO) : Prop := ∃ ps, o = .tbl ps
theorem drop_head {p : Addr} {o : HO} {q : Addr × HO} {T : List (Addr × HO)} (hm : Mt o) (h : q ∈ (p, o) :: T) (b : IsTb q.2) : q ∈ T := by
  rcases List.mem_cons.mp h with e | h
  · obtain ⟨ps, e2⟩ := b
    rw [e] at e2
    exact absurd e2 (hm.1 _)
  · exact h
structure Rel (K : PySem.W.Frag) (c : Cf) (T : List (Addr × HO)) (ρ : Env) (σ : L2.St) (H : Hp) : Prop where
  len : ρ.length = σ.length
  inj : ∀ i j a, OwnAt ρ σ i a → OwnAt ρ σ j a → i = j
  dis : ∀ i a o, OwnAt ρ σ i a → (a, o) ∉ T
  tst : ∀ a o, (a, o) ∈ T → Sat H a o
  sl : ∀ i s, ρ[i]? = some s → SlOk K (Fr T ρ σ H) H σ i s
  base : Le c.B (Fr T ρ σ H)
  io : ∀ a, c.io = some a → OwnAt ρ σ 0 a
  t0 : ∀ p : Addr × HO, IsTb p.2 → (p ∈ T ↔ p ∈ c.T0)

section
variable {K : PySem.W.Frag} {c : Cf} {T : List (Addr × HO)} {ρ : Env} {σ : L2.St} {H H' : Hp} {i : Nat} {a p : Addr} {o : HO} {d : D} {v : V}
theorem SlOk.le {F F' H H' : Hp} {s : Sl} (h : SlOk K F H σ i s) (l : Le F F') (hw : ∀ d, s = .ow d → ∀ a, σ[i]? = some (some (.ref a)) → H' a = H a) : SlOk K F' H' σ i s := by
  cases s with
  | no => trivial
  | sh d => obtain ⟨v, e, r⟩ := h; exact ⟨v, e, r.le l⟩
  | ow d => obtain ⟨a, e, r⟩ := h; exact ⟨a, e, by rw [hw d rfl a e]; exact r.le l⟩
  | sc ns => obtain ⟨a, e, r⟩ := h; exact ⟨a, e, sqL_le r l⟩
  | rf v => exact h
theorem Rel.own (R : Rel K c T ρ σ H) (h : OwnAt ρ σ i a) : ∃ d, ρ[i]? = some (.ow d) ∧ Ob K (Fr T ρ σ H) (H a) d := by
  obtain ⟨⟨d, e⟩, e2⟩ := h
  obtain ⟨a', e3, r⟩ := R.sl i _ e
  rw [e2] at e3; cases e3
  exact ⟨d, e, r⟩
theorem Rel.prot (R : Rel K c T ρ σ H) (h : Prot T ρ σ a) : H a ≠ none := by
  rcases h with ⟨i, h⟩ | ⟨o, h⟩
  · obtain ⟨d, _, r⟩ := R.own h
    obtain ⟨u, e⟩ := r.has
    rw [e]; simp
  · exact (R.tst a o h).ne
theorem Rel.owned (R : Rel K c T ρ σ H) (h : OwnAt ρ σ i a) : ∃ w, H a = some w ∧ Mt w := by
  obtain ⟨_, _, ob⟩ := R.own h
  obtain ⟨w, e⟩ := ob.has
  rw [e] at ob
  exact ⟨w, e, ob.mt⟩
/-- all tracked things stay -/
theorem Rel.grow (R : Rel K c T ρ σ H) (l : Le H H') : Rel K c T ρ σ H' where
  len := R.len
  inj := R.inj
  dis := R.dis
  tst := fun a o h => (R.tst a o h).le l
  sl := fun i s e => (R.sl i s e).le (fz_mono (fun _ _ h => h) l) fun d es a ea => by
    subst es
    obtain ⟨a', e3, r⟩ := R.sl i _ e
    rw [ea] at e3; cases e3
    obtain ⟨u, eu⟩ := r.has
    rw [eu, l _ _ eu]
  base := R.base.trans (fz_mono (fun _ _ h => h) l)
  io := R.io
  t0 := R.t0
theorem fr_grow (l : Le H H') : Le (Fr T ρ σ H) (Fr T ρ σ H') := fz_mono (fun _ _ h => h) l
/-- a new thing, held as ours -/
theorem prot_cons : Prot ((p, o) :: T) ρ σ a ↔ a = p ∨ Prot T ρ σ a := by
  unfold Prot
  constructor
  · rintro (h | ⟨u, h⟩)
    · exact .inr (.inl h)
    · rcases List.mem_cons.mp h with e | h
      · exact .inl (congrArg Prod.fst e)
      · exact .inr (.inr ⟨u, h⟩)
  · rintro (h | h | ⟨u, h⟩)
    · subst h; exact .inr ⟨o, List.mem_cons_self⟩
    · exact .inl h
    · exact .inr ⟨u, List.mem_cons_of_mem _ h⟩
theorem fr_new (hp : H p = none) : Le (Fr T ρ σ H) (Fr ((p, o) :: T) ρ σ (upd H p o)) :=
  fz_mono (fun a ha h => (prot_cons.mp h).resolve_left fun e => ha (e ▸ hp)) (le_upd hp)
theorem Rel.new (R : Rel K c T ρ σ H) (hp : H p = none) (hm : Mt o) : Rel K c ((p, o) :: T) ρ σ (upd H p o) where
  len := R.len
  inj := R.inj
  dis := fun i a u h hm => by
    rcases List.mem_cons.mp hm with e | hm
    · cases e
      exact R.prot (.inl ⟨i, h⟩) hp
    · exact R.dis i a u h hm
  tst := fun a u h => by
    rcases List.mem_cons.mp h with e | h
    · cases e; exact .inr ⟨upd_same, hm⟩
    · exact (R.tst a u h).le (le_upd hp)
  sl := fun i s e => (R.sl i s e).le (fr_new hp) fun d es a ea => by
    subst es
    obtain ⟨a', e3, r⟩ := R.sl i _ e
    rw [ea] at e3; cases e3
    obtain ⟨u, eu⟩ := r.has
    rw [eu, le_upd hp _ _ eu]
  base := R.base.trans (fr_new hp)
  io := R.io
  t0 := fun p b => ⟨fun h => (R.t0 p b).mp (drop_head hm h b), fun h => List.mem_cons_of_mem _ ((R.t0 p b).mpr h)⟩
/-- .. let go: frozen -/
theorem fr_thaw : Le (Fr ((p, o) :: T) ρ σ H) (Fr T ρ σ H) := fz_mono (fun a _ h => prot_cons.mpr (.inr h)) Le.refl
theorem Rel.thaw (R : Rel K c ((p, o) :: T) ρ σ H) (hm : Mt o) : Rel K c T ρ σ H where
  len := R.len
  inj := R.inj
  dis := fun i a u h hm => R.dis i a u h (List.mem_cons_of_mem _ hm)
  tst := fun a u h => R.tst a u (List.mem_cons_of_mem _ h)
  sl := fun i s e => (R.sl i s e).le fr_thaw fun _ _ _ _ => rfl
  base := R.base.trans fr_thaw
  io := R.io
  t0 := fun p b => ⟨fun h => (R.t0 p b).mp (List.mem_cons_of_mem _ h), fun h => drop_head hm ((R.t0 p b).mpr h) b⟩
theorem thaw_at (R : Rel K c ((p, o) :: T) ρ σ H) (hn : ∀ u, (p, u) ∉ T) (hm : Mt o) : Fr T ρ σ H p = some o := by
  refine fz_some.mpr ⟨?_, (R.tst p o List.mem_cons_self).at hm.1, hm.1⟩
  rintro (⟨i, h⟩ | ⟨u, h⟩)
  · exact R.dis i p o h List.mem_cons_self
  · exact hn u h
end
end VL

set_option Elab.async false
set_option linter.all false
set_option maxRecDepth 100000
set_option maxHeartbeats 4000000
/-! VL1: what expressions give; the judgements; names, operators, displays. -/
namespace VL
open PySem PySem.Spec PyProof.Rows L2

/-- what an expression gives: a shared datum; a new thing that nobody else holds; the owned thing of slot i, read -/
inductive Rs where
  | vl (d : D) | fr (d : D) | bo (i : Nat)
/-- an exception: its class's name, its fields -/
structure Ex where
  cls : Str
  fs : List (Str × D)
abbrev ME := Env → (Rs → Env → Prop) → (Ex → Env → Prop) → Prop
abbrev MA := Env → (List Rs → Env → Prop) → (Ex → Env → Prop) → Prop
abbrev MB := Env → (Bool → Env → Prop) → (Ex → Env → Prop) → Prop

def res (ρ : Env) : Rs → Option D
  | .vl d => some d
  | .fr d => some d
  | .bo i => match ρ[i]? with
    | some (.ow d) => some d
    | _ => none
def val : Rs → Option D
  | .vl d => some d
  | .fr d => some d
  | .bo _ => none
def vals : List Rs → Option (List D)
  | [] => some []
  | r :: rs => match val r, vals rs with
    | some d, some ds => some (d :: ds)
    | _, _ => none
def ress (ρ : Env) : List Rs → Option (List D)
  | [] => some []
  | r :: rs => match res ρ r, ress ρ rs with
    | some d, some ds => some (d :: ds)
    | _, _ => none

/-- an exception's rendering -/
def ExR (K : PySem.W.Frag) (mg : Str → Option Value) (F : Hp) (x : Ex) (cls : Value) (d : Option Addr) : Prop :=
  ∃ C, mg x.cls = some (.ref C) ∧ cls = .ref C ∧ ((d = none ∧ x.fs = []) ∨ ∃ dd fs, d = some dd ∧ x.fs ≠ [] ∧ F dd = some (.xd fs) ∧ fs.map Prod.fst = x.fs.map Prod.fst ∧ RpA K F (fs.map Prod.snd) (x.fs.map Prod.snd))

section
variable (K : PySem.W.Frag) (mg : Str → Option Value) (c : Cf) (W : WX) (T : List (Addr × HO)) (F0 : Hp) (ρ : Env) (σ : L2.St) (H : Hp)
def Res (r : Rs) (v : V) : Prop :=
  match r with
  | .vl d => Rel K c T ρ σ H ∧ Le F0 (Fr T ρ σ H) ∧ Rp K (Fr T ρ σ H) v d
  | .fr d => ∃ p o, v = .ref p ∧ Rel K c ((p, o) :: T) ρ σ H ∧ (∀ u, (p, u) ∉ T) ∧ Le F0 (Fr ((p, o) :: T) ρ σ H) ∧ Ob K (Fr ((p, o) :: T) ρ σ H) (some o) d
  | .bo i => Rel K c T ρ σ H ∧ Le F0 (Fr T ρ σ H) ∧ σ[i]? = some (some v)
/-- an operand -/
def Opr (r : Rs) (v : V) : Prop :=
  match r with
  | .vl d => Rp K (Fr T ρ σ H) v d
  | .fr d => Rp K (Fr T ρ σ H) v d
  | .bo i => σ[i]? = some (some v)
def ResA (rs : List Rs) (vs : List V) : Prop := Rel K c T ρ σ H ∧ Le F0 (Fr T ρ σ H) ∧ Paired (fun v r => Opr K T ρ σ H r v) vs rs
def ResB : Prop := Rel K c T ρ σ H ∧ Le F0 (Fr T ρ σ H)
/-- what an exception leaves -/
def kX : Ex → Env → Prop := fun x ρ' => ∀ cls d H', Rel K c T ρ' σ H' → Le F0 (Fr T ρ' σ H') → ExR K mg (Fr T ρ' σ H') x cls d → W cls d σ H'
end
section
variable (K : PySem.W.Frag) (mg : Str → Option Value) (c : Cf) (W : WX)
def rdE (m : ME) : TE := fun σ H Q => ∃ T ρ, Rel K c T ρ σ H ∧ m ρ (fun r ρ' => ∀ v H', Res K c T (Fr T ρ σ H) ρ' σ H' r v → Q v H') (kX K mg c W T (Fr T ρ σ H) σ)
def rdA (m : MA) : TA := fun σ H Q => ∃ T ρ, Rel K c T ρ σ H ∧ m ρ (fun rs ρ' => ∀ vs H', ResA K c T (Fr T ρ σ H) ρ' σ H' rs vs → Q vs H') (kX K mg c W T (Fr T ρ σ H) σ)
def rdB (m : MB) : TT := fun σ H Q => ∃ T ρ, Rel K c T ρ σ H ∧ m ρ (fun b ρ' => ∀ H', ResB K c T (Fr T ρ σ H) ρ' σ H' → Q b H') (kX K mg c W T (Fr T ρ σ H) σ)
end
def Mono {α : Type} (m : Env → (α → Env → Prop) → (Ex → Env → Prop) → Prop) : Prop :=
  ∀ ρ Q Q' X X', (∀ r ρ', Q r ρ' → Q' r ρ') → (∀ x ρ', X x ρ' → X' x ρ') → m ρ Q X → m ρ Q' X'
structure SE (X : Cx) (c : Cf) (W : WX) (e : Expr) (m : ME) : Prop where
  run : PE X e (rdE X.K X.mg c W m)
  mo : Mono m
structure SA (X : Cx) (c : Cf) (W : WX) (es : List Expr) (m : MA) : Prop where
  run : PA X es (rdA X.K X.mg c W m)
  mo : Mono m
structure ST (X : Cx) (c : Cf) (W : WX) (e : Expr) (m : MB) : Prop where
  run : PT X e (rdB X.K X.mg c W m)
  mo : Mono m
structure SW (X : Cx) (c : Cf) (W : WX) (e : Expr) (m : MB) : Prop where
  run : PW X e (rdB X.K X.mg c W m)
  mo : Mono m

section
variable {K : PySem.W.Frag} {mg : Str → Option Value} {c : Cf} {W : WX} {T : List (Addr × HO)} {F0 F1 : Hp} {ρ ρ' ρ1 : Env} {σ : L2.St} {H H' H1 : Hp} {r : Rs} {v : V} {d : D}
theorem kX_le {x : Ex} (l : Le F0 F1) (h : kX K mg c W T F0 σ x ρ) : kX K mg c W T F1 σ x ρ := fun cls d H' R l' e => h cls d H' R (l.trans l') e
theorem Res.le (l : Le F0 F1) (h : Res K c T F1 ρ σ H r v) : Res K c T F0 ρ σ H r v := by
  cases r with
  | vl d => exact ⟨h.1, l.trans h.2.1, h.2.2⟩
  | fr d => obtain ⟨p, o, e, a, b, l', ob⟩ := h; exact ⟨p, o, e, a, b, l.trans l', ob⟩
  | bo i => exact ⟨h.1, l.trans h.2.1, h.2.2⟩
/-- as an operand -/
theorem Res.opr (h : Res K c T F0 ρ σ H r v) : Rel K c T ρ σ H ∧ Le F0 (Fr T ρ σ H) ∧ Opr K T ρ σ H r v := by
  cases r with
  | vl d => exact h
  | fr d =>
    obtain ⟨p, o, e, a, b, l', ob⟩ := h
    subst e
    refine ⟨a.thaw ob.mt, l'.trans fr_thaw, ?_⟩
    have e := thaw_at a b ob.mt
    exact Ob.rp (by rw [e]; exact ob.le fr_thaw)
  | bo i => exact h
theorem Opr.le (h : Opr K T ρ σ H r v) (l : Le (Fr T ρ σ H) (Fr T ρ1 σ H1)) : Opr K T ρ1 σ H1 r v := by
  cases r with
  | vl d => exact Rp.le l h
  | fr d => exact Rp.le l h
  | bo i => exact h
theorem Opr.all_le {vs : List V} {rs : List Rs} (h : Paired (fun v r => Opr K T ρ σ H r v) vs rs) (l : Le (Fr T ρ σ H) (Fr T ρ1 σ H1)) : Paired (fun v r => Opr K T ρ1 σ H1 r v) vs rs :=
  Paired.mapP h fun _ _ q => Opr.le q l

/-- an operand with its datum: shared, or owned -/
inductive Op (K : PySem.W.Frag) (F H : Hp) : V → D → Prop
  | sh {v : V} {d : D} : Rp K F v d → Op K F H v d
  | ow {a : Addr} {d : D} : Ob K F (H a) d → Op K F H (.ref a) d
theorem Opr.op (R : Rel K c T ρ σ H) (h : Opr K T ρ σ H r v) (e : res ρ r = some d) : Op K (Fr T ρ σ H) H v d := by
  cases r with
  | vl d' => cases e; exact .sh h
  | fr d' => cases e; exact .sh h
  | bo i =>
    simp only [res] at e
    cases q : ρ[i]? with
    | none => rw [q] at e; cases e
    | some s =>
      rw [q] at e
      cases s with
      | no => cases e
      | sh _ => cases e
      | sc _ => cases e
      | rf _ => cases e
      | ow d' =>
        cases e
        obtain ⟨a, ea, ob⟩ := R.sl i _ q
        have h' : σ[i]? = some (some v) := h
        rw [ea] at h'; cases h'
        exact .ow ob
theorem Opr.rp (h : Opr K T ρ σ H r v) (e : val r = some d) : Rp K (Fr T ρ σ H) v d := by
  cases r with
  | vl d' => cases e; exact h
  | fr d' => cases e; exact h
  | bo i => cases e
theorem Opr.ops (R : Rel K c T ρ σ H) : ∀ {vs : List V} {rs : List Rs} {ds : List D}, Paired (fun v r => Opr K T ρ σ H r v) vs rs → ress ρ rs = some ds → Paired (fun v d => Op K (Fr T ρ σ H) H v d) vs ds
  | _, _, _, .nil, e => by simp only [ress] at e; cases e; exact .nil
  | _, _, _, .cons h t, e => by
    simp only [ress] at e
    split at e
    · rename_i d ds' e1 e2
      cases e
      exact .cons (Opr.op R h e1) (Opr.ops R t e2)
    · cases e
theorem Opr.rps : ∀ {vs : List V} {rs : List Rs} {ds : List D}, Paired (fun v r => Opr K T ρ σ H r v) vs rs → vals rs = some ds → RpA K (Fr T ρ σ H) vs ds
  | _, _, _, .nil, e => by simp only [vals] at e; cases e; exact .nil
  | _, _, _, .cons h t, e => by
    simp only [vals] at e
    split at e
    · rename_i d ds' e1 e2
      cases e
      exact .cons (Opr.rp h e1) (Opr.rps t e2)
    · cases e
/-- a value that nothing of the heap is asked for -/
theorem res_vl (R : Rel K c T ρ σ H) (r : Rp K (Fr T ρ σ H) v d) : Res K c T (Fr T ρ σ H) ρ σ H (.vl d) v := ⟨R, Le.refl, r⟩
/-- a new thing -/
theorem res_new {p : Addr} {o : HO} (R : Rel K c T ρ σ H) (hp : H p = none) (ob : Ob K (Fr T ρ σ H) (some o) d) : Res K c T (Fr T ρ σ H) ρ σ (upd H p o) (.fr d) (.ref p) :=
  ⟨p, o, rfl, R.new hp ob.mt, (fun u h => (R.tst p u h).ne hp), fr_new hp, ob.le (fr_new hp)⟩
/-- a new tuple -/
theorem res_tup {p : Addr} {vs : List V} {ds : List D} (R : Rel K c T ρ σ H) (hp : H p = none) (rp : RpA K (Fr T ρ σ H) vs ds) : Res K c T (Fr T ρ σ H) ρ σ (upd H p (.tup vs)) (.vl (.tuple ds)) (.ref p) := by
  have l : Le (Fr T ρ σ H) (Fr T ρ σ (upd H p (.tup vs))) := fr_grow (le_upd hp)
  refine ⟨R.grow (le_upd hp), l, .tup (SqT.of ?_) (rp.le l)⟩
  refine fz_some.mpr ⟨fun h => R.prot h hp, upd_same, fun _ z => nomatch z⟩
end

/-! ### names, constants -/
def sC (d : D) : ME := fun ρ Q _ => Q (.vl d) ρ
def sVar (i : Nat) : ME := fun ρ Q _ => match ρ[i]? with
  | some (.sh d) => Q (.vl d) ρ
  | some (.ow d) => Q (.vl d) (ρ.set i (.sh d))
  | _ => False
def sBor (i : Nat) : ME := fun ρ Q _ => match ρ[i]? with
  | some (.sh d) => Q (.vl d) ρ
  | some (.ow _) => Q (.bo i) ρ
  | _ => False
theorem mono_C {d : D} : Mono (sC d) := fun _ _ _ _ _ hq _ h => hq _ _ h
theorem mono_var {i : Nat} : Mono (sVar i) := fun ρ Q Q' X X' hq _ h => by
  unfold sVar at *
  split at h <;> first | exact hq _ _ h | exact h.elim
theorem mono_bor {i : Nat} : Mono (sBor i) := fun ρ Q Q' X X' hq _ h => by
  unfold sBor at *
  split at h <;> first | exact hq _ _ h | exact h.elim
section
variable {K : PySem.W.Frag} {c : Cf} {T : List (Addr × HO)} {ρ : Env} {σ : L2.St} {H : Hp} {i : Nat} {d : D} {a : Addr}
/-- an owned thing is let be shared -/
theorem own_set {s : Sl} {j : Nat} {b : Addr} (hs : ∀ d, s ≠ .ow d) (h : OwnAt (ρ.set i s) σ j b) : OwnAt ρ σ j b ∧ j ≠ i := by
  obtain ⟨⟨d, e⟩, e2⟩ := h
  by_cases hj : j = i
  · subst hj
    have hlt : j < ρ.length := by
      have := (List.getElem?_eq_some_iff.mp e).1
      simpa using this
    rw [List.getElem?_set_self hlt] at e
    cases e
    exact absurd rfl (hs d)
  · rw [List.getElem?_set_ne (Ne.symm hj)] at e
    exact ⟨⟨⟨d, e⟩, e2⟩, hj⟩
theorem prot_set {s : Sl} {b : Addr} (hs : ∀ d, s ≠ .ow d) (h : Prot T (ρ.set i s) σ b) : Prot T ρ σ b := by
  rcases h with ⟨j, h⟩ | h
  · exact .inl ⟨j, (own_set hs h).1⟩
  · exact .inr h
theorem Rel.freeze (R : Rel K c T ρ σ H) (e : ρ[i]? = some (.ow d)) (hio : c.io = none ∨ i ≠ 0) : ∃ a, σ[i]? = some (some (.ref a)) ∧ Rel K c T (ρ.set i (.sh d)) σ H ∧ Le (Fr T ρ σ H) (Fr T (ρ.set i (.sh d)) σ H) ∧ Rp K (Fr T (ρ.set i (.sh d)) σ H) (.ref a) d := by
  obtain ⟨a, ea, ob⟩ := R.sl i _ e
  have hs : ∀ d' : D, Sl.sh d ≠ .ow d' := fun _ q => nomatch q
  have ho : OwnAt ρ σ i a := ⟨⟨d, e⟩, ea⟩
  have l : Le (Fr T ρ σ H) (Fr T (ρ.set i (.sh d)) σ H) := fz_mono (fun _ _ h => prot_set hs h) Le.refl
  have na : ¬ Prot T (ρ.set i (.sh d)) σ a := by
    rintro (⟨j, h⟩ | ⟨o, h⟩)
    · obtain ⟨h1, h2⟩ := own_set hs h
      exact h2 (R.inj _ _ _ h1 ho)
    · exact R.dis i a o ho h
  have ea' : Fr T (ρ.set i (.sh d)) σ H a = H a := by
    obtain ⟨w, ew, mw⟩ := R.owned ho
    show Fz _ _ a = _
    rw [fz_no na, ew]
    exact dropT_nt mw.1
  have rp : Rp K (Fr T (ρ.set i (.sh d)) σ H) (.ref a) d := Ob.rp (ea'.symm ▸ ob.le l)
  refine ⟨a, ea, ⟨by simpa using R.len, fun x y b hx hy => R.inj x y b (own_set hs hx).1 (own_set hs hy).1, fun x b o hx => R.dis x b o (own_set hs hx).1, R.tst, fun j s ej => ?_, R.base.trans l, fun b eb => ?_, R.t0⟩, l, rp⟩
  · by_cases hj : j = i
    · subst hj
      have hlt : j < ρ.length := by
        have := (List.getElem?_eq_some_iff.mp ej).1
        simpa using this
      rw [List.getElem?_set_self hlt] at ej
      cases ej
      exact ⟨_, ea, rp⟩
    · rw [List.getElem?_set_ne (Ne.symm hj)] at ej
      exact (R.sl j s ej).le l fun _ _ _ _ => rfl
  · rcases hio with h | h
    · rw [h] at eb; cases eb
    · obtain ⟨⟨d', e'⟩, e2⟩ := R.io b eb
      exact ⟨⟨d', by rw [List.getElem?_set_ne h]; exact e'⟩, e2⟩
end
section
variable {X : Cx} {c : Cf} {W : WX} {pos : Pos}
theorem se_of {e : Expr} {t : TE} {m : ME} (h : PE X e t) (mo : Mono m) (hr : ∀ σ H Q, rdE X.K X.mg c W m σ H Q → t σ H Q) : SE X c W e m :=
  ⟨⟨fun pins s σ H Q I q => h.run pins s σ H Q I (hr σ H Q q)⟩, mo⟩
theorem se_c {e : Expr} {v : V} {d : D} (h : PE X e (tC v)) (r : ∀ H, Rp X.K H v d) : SE X c W e (sC d) :=
  se_of h mono_C fun σ H Q ⟨T, ρ, R, q⟩ => q v H (res_vl R (r _))
theorem se_int {i : Int} {j : Nat} : SE X c W (.Constant (.int i) j pos) (sC (.int i)) := se_c pe_int fun _ => .int i
theorem se_bool {b : Bool} {j : Nat} : SE X c W (.Constant (.bool b) j pos) (sC (.bool b)) := se_c pe_bl fun _ => .bl b
theorem se_none {j : Nat} : SE X c W (.Constant .none j pos) (sC .none) := se_c pe_non fun _ => .non
theorem se_str {x : Str} {j : Nat} : SE X c W (.Constant (.str x) j pos) (sC (.str x)) := se_c pe_str fun _ => .str x
/-- a constant of the module -/
structure GlobOk (X : Cx) (x : Str) (d : D) : Prop where
  at_ : ∃ u v, X.mg x = some u ∧ RelV v u ∧ ∀ H, Rp X.K H v d
theorem se_glob {x : Str} {d : D} (g : GlobOk X x d) (hg : Gl X x) (hd : (x == ("__debug__" : Str)) = false := by decide) : SE X c W (.Name x pos) (sC d) := by
  obtain ⟨u, v, hm, r, rp⟩ := g.at_
  exact se_c (pe_glob hg hm r hd) rp
theorem se_var {i : Nat} {x : Str} (hN : X.N[i]? = some x) (hv : Vis X.env.scope x) (hio : c.io = none ∨ i ≠ 0) (hd : (x == ("__debug__" : Str)) = false := by decide) (hcd : (x == ("__classdict__" : Str)) = false := by decide) : SE X c W (.Name x pos) (sVar i) := by
  refine se_of (pe_var hN hv hd hcd) mono_var fun σ H Q ⟨T, ρ, R, q⟩ => ?_
  unfold sVar at q
  split at q
  · rename_i d e
    obtain ⟨v, ev, r⟩ := R.sl i _ e
    exact ⟨v, ev, q v H (res_vl R r)⟩
  · rename_i d e
    obtain ⟨a, ea, R', l, rp⟩ := R.freeze e hio
    exact ⟨_, ea, q _ H ⟨R', l, rp⟩⟩
  · exact q.elim
theorem se_bor {i : Nat} {x : Str} (hN : X.N[i]? = some x) (hv : Vis X.env.scope x) (hd : (x == ("__debug__" : Str)) = false := by decide) (hcd : (x == ("__classdict__" : Str)) = false := by decide) : SE X c W (.Name x pos) (sBor i) := by
  refine se_of (pe_var hN hv hd hcd) mono_bor fun σ H Q ⟨T, ρ, R, q⟩ => ?_
  unfold sBor at q
  split at q
  · rename_i d e
    obtain ⟨v, ev, r⟩ := R.sl i _ e
    exact ⟨v, ev, q v H (res_vl R r)⟩
  · rename_i d e
    obtain ⟨a, ea, ob⟩ := R.sl i _ e
    exact ⟨_, ea, q _ H ⟨R, Le.refl, ea⟩⟩
  · exact q.elim
end

/-! ### argument lists, displays -/
def sNil : MA := fun ρ Q _ => Q [] ρ
def sCons (m : ME) (ms : MA) : MA := fun ρ Q X => m ρ (fun r ρ1 => ms ρ1 (fun rs ρ2 => Q (r :: rs) ρ2) X) X
theorem mono_nil : Mono sNil := fun _ _ _ _ _ hq _ h => hq _ _ h
theorem mono_cons {m : ME} {ms : MA} (h1 : Mono m) (h2 : Mono ms) : Mono (sCons m ms) := fun ρ Q Q' X X' hq hx h =>
  h1 ρ _ _ X X' (fun r ρ1 h => h2 ρ1 _ _ X X' (fun rs ρ2 h => hq _ _ h) hx h) hx h
section
variable {X : Cx} {c : Cf} {W : WX} {pos : Pos}
theorem sa_nil : SA X c W [] sNil := ⟨⟨fun p pins s σ H Q I ⟨T, ρ, R, q⟩ => (pa_nil (X := X)).run p pins s σ H Q I (q [] H ⟨R, Le.refl, .nil⟩)⟩, mono_nil⟩
theorem sa_cons {e : Expr} {es : List Expr} {m : ME} {ms : MA} (h1 : SE X c W e m) (h2 : SA X c W es ms) (hs : starEach (e :: es) X.env = (false, eval e X.env) :: starEach es X.env := by rfl) : SA X c W (e :: es) (sCons m ms) := by
  refine ⟨⟨fun p pins s σ H Q I ⟨T, ρ, R, q⟩ => (pa_cons h1.run h2.run hs).run p pins s σ H Q I ?_⟩, mono_cons h1.mo h2.mo⟩
  refine ⟨T, ρ, R, h1.mo _ _ _ _ _ (fun r ρ1 q1 v H1 hr => ?_) (fun _ _ h => h) q⟩
  obtain ⟨R1, l1, o1⟩ := hr.opr
  refine ⟨T, ρ1, R1, h2.mo _ _ _ _ _ (fun rs ρ2 q2 vs H2 hA => ?_) (fun x ρ' h => kX_le l1 h) q1⟩
  obtain ⟨R2, l2, o2⟩ := hA
  exact q2 (v :: vs) H2 ⟨R2, l1.trans l2, .cons (o1.le l2) o2⟩
end
def sTup (ms : MA) : ME := fun ρ Q X => ms ρ (fun rs ρ' => ∃ ds, vals rs = some ds ∧ ds.length ≤ 1000 ∧ Q (.vl (.tuple ds)) ρ') X
def sLst (ms : MA) : ME := fun ρ Q X => ms ρ (fun rs ρ' => ∃ ds, vals rs = some ds ∧ ds.length ≤ 1000 ∧ Q (.fr (.list ds)) ρ') X
theorem mono_tup {ms : MA} (h : Mono ms) : Mono (sTup ms) := fun ρ Q Q' X X' hq hx => h ρ _ _ X X' (fun _ _ ⟨ds, a, b, q⟩ => ⟨ds, a, b, hq _ _ q⟩) hx
theorem mono_lst {ms : MA} (h : Mono ms) : Mono (sLst ms) := fun ρ Q Q' X X' hq hx => h ρ _ _ X X' (fun _ _ ⟨ds, a, b, q⟩ => ⟨ds, a, b, hq _ _ q⟩) hx
theorem line1000 {n : Nat} (h : n ≤ 1000) : n ≤ sizeLine := by rw [sizeLine_eq]; omega
section
variable {X : Cx} {c : Cf} {W : WX} {pos : Pos} {es : List Expr} {ms : MA}
theorem se_tup {k : Nat} (h : SA X c W es ms) : SE X c W (.Tuple es k pos) (sTup ms) := by
  refine se_of (pe_tup h.run) (mono_tup h.mo) fun σ H Q ⟨T, ρ, R, q⟩ => ?_
  refine ⟨T, ρ, R, h.mo _ _ _ _ _ (fun rs ρ' ⟨ds, e, hl, q⟩ vs H' ⟨R', l, o⟩ => ?_) (fun _ _ h => h) q⟩
  have rp := Opr.rps o e
  exact ⟨by rw [rp.length]; exact line1000 hl, fun p hp => q _ _ ((res_tup R' hp rp).le l)⟩
theorem se_lst (h : SA X c W es ms) : SE X c W (.List es pos) (sLst ms) := by
  refine se_of (pe_lst h.run) (mono_lst h.mo) fun σ H Q ⟨T, ρ, R, q⟩ => ?_
  refine ⟨T, ρ, R, h.mo _ _ _ _ _ (fun rs ρ' ⟨ds, e, hl, q⟩ vs H' ⟨R', l, o⟩ => ?_) (fun _ _ h => h) q⟩
  have rp := Opr.rps o e
  exact ⟨by rw [rp.length]; exact line1000 hl, fun p hp => q _ _ ((res_new (o := .lst vs) (d := .list ds) R' hp rp).le l)⟩
end

/-! ### two-place operators, by data -/
/-- what an operator makes of data -/
abbrev S2 := D → D → (Rs → Prop) → Prop
def Mono2 (s : S2) : Prop := ∀ d e (k k' : Rs → Prop), (∀ r, k r → k' r) → s d e k → s d e k'
/-- the operator r on values does s on data -/
def OpS (K : PySem.W.Frag) (r : R2) (s : S2) : Prop := ∀ (c : Cf) (T : List (Addr × HO)) (ρ : Env) (σ : L2.St) (H : Hp) (x y : V) (d e : D) (Q : VK), Rel K c T ρ σ H → Op K (Fr T ρ σ H) H x d → Op K (Fr T ρ σ H) H y e →
  s d e (fun rr => ∀ v H', Res K c T (Fr T ρ σ H) ρ σ H' rr v → Q v H') → r x y H Q
def sBin (s : S2) (ma mb : ME) : ME := fun ρ Q X => ma ρ (fun ra ρ1 => mb ρ1 (fun rb ρ2 => ∃ d e, res ρ2 ra = some d ∧ res ρ2 rb = some e ∧ s d e fun r => Q r ρ2) X) X
theorem mono_bin {s : S2} {ma mb : ME} (hs : Mono2 s) (h1 : Mono ma) (h2 : Mono mb) : Mono (sBin s ma mb) := fun ρ Q Q' X X' hq hx h =>
  h1 ρ _ _ X X' (fun r ρ1 h => h2 ρ1 _ _ X X' (fun rs ρ2 ⟨d, e, h1, h2, h3⟩ => ⟨d, e, h1, h2, hs _ _ _ _ (fun r q => hq _ _ q) h3⟩) hx h) hx h
section
variable {X : Cx} {c : Cf} {W : WX} {pos : Pos} {a b : Expr} {ma mb : ME} {r : R2} {s : S2}
theorem bin_core (os : OpS X.K r s) (hs : Mono2 s) (ha : SE X c W a ma) (hb : SE X c W b mb) {σ : L2.St} {H : Hp} {Q : VK} (h : rdE X.K X.mg c W (sBin s ma mb) σ H Q) : tOp r (rdE X.K X.mg c W ma) (rdE X.K X.mg c W mb) σ H Q := by
  obtain ⟨T, ρ, R, q⟩ := h
  refine ⟨T, ρ, R, ha.mo _ _ _ _ _ (fun r1 ρ1 q1 v1 H1 hr1 => ?_) (fun _ _ h => h) q⟩
  obtain ⟨R1, l1, o1⟩ := hr1.opr
  refine ⟨T, ρ1, R1, hb.mo _ _ _ _ _ (fun r2 ρ2 q2 v2 H2 hr2 => ?_) (fun x ρ' h => kX_le l1 h) q1⟩
  obtain ⟨R2, l2, o2⟩ := hr2.opr
  obtain ⟨d, e, e1, e2, q3⟩ := q2
  exact os c T ρ2 σ H2 v1 v2 d e Q R2 ((o1.le l2).op R2 e1) (o2.op R2 e2) (hs _ _ _ _ (fun rr k v H' hr => k v H' (hr.le (l1.trans l2))) q3)
theorem se_bin {op : Operator} (ho : OpR X (binaryOp op) r) (os : OpS X.K r s) (hs : Mono2 s) (ha : SE X c W a ma) (hb : SE X c W b mb) : SE X c W (.BinOp a op b pos) (sBin s ma mb) :=
  se_of (pe_op ho ha.run hb.run) (mono_bin hs ha.mo hb.mo) fun _ _ _ h => bin_core os hs ha hb h
theorem se_cmp {op : CmpOp} (ho : OpR X (compareOp op) r) (os : OpS X.K r s) (hs : Mono2 s) (ha : SE X c W a ma) (hb : SE X c W b mb) (hm : behindInMarks op b = false := by rfl) : SE X c W (.Compare a [op] [b] pos) (sBin s ma mb) :=
  se_of (pe_cmpR ho ha.run hb.run hm) (mono_bin hs ha.mo hb.mo) fun _ _ _ h => bin_core os hs ha hb h
end
/-- a chain a op1 b op2 c -/
def sChain (s s' : S2) (ma mb mc : ME) : ME := fun ρ Q X => ma ρ (fun ra ρ1 => mb ρ1 (fun rb ρ2 => ∃ d e, res ρ2 ra = some d ∧ res ρ2 rb = some e ∧ s d e fun r => ∃ k, r = .vl (.bool k) ∧
  if k = true then mc ρ2 (fun rc ρ3 => ∃ e' f, res ρ3 rb = some e' ∧ res ρ3 rc = some f ∧ s' e' f fun r => Q r ρ3) X else Q (.vl (.bool false)) ρ2) X) X
theorem mono_chain {s s' : S2} {ma mb mc : ME} (hs : Mono2 s) (hs' : Mono2 s') (h1 : Mono ma) (h2 : Mono mb) (h3 : Mono mc) : Mono (sChain s s' ma mb mc) := fun ρ Q Q' X X' hq hx h =>
  h1 ρ _ _ X X' (fun r ρ1 h => h2 ρ1 _ _ X X' (fun rs ρ2 ⟨d, e, e1, e2, h⟩ => ⟨d, e, e1, e2, hs _ _ _ _ (fun r ⟨k, ek, q⟩ => ⟨k, ek, by
    cases k with
    | true => exact h3 _ _ _ X X' (fun r ρ3 ⟨e', f, a1, a2, q⟩ => ⟨e', f, a1, a2, hs' _ _ _ _ (fun r q => hq _ _ q) q⟩) hx q
    | false => exact hq _ _ q⟩) h⟩) hx h) hx h
section
variable {X : Cx} {c : Cf} {W : WX} {pos : Pos} {a b e3 : Expr} {ma mb mc : ME} {r r' : R2} {s s' : S2}
theorem rp_bool {K : PySem.W.Frag} {H : Hp} {v : V} {k : Bool} (h : Rp K H v (.bool k)) : v = .bl k := by cases h; rfl
theorem chain_core (os : OpS X.K r s) (os' : OpS X.K r' s') (hs : Mono2 s) (hs' : Mono2 s') (ha : SE X c W a ma) (hb : SE X c W b mb) (hc : SE X c W e3 mc) {σ : L2.St} {H : Hp} {Q : VK}
    (h : rdE X.K X.mg c W (sChain s s' ma mb mc) σ H Q) : tChain r r' (rdE X.K X.mg c W ma) (rdE X.K X.mg c W mb) (rdE X.K X.mg c W mc) σ H Q := by
  obtain ⟨T, ρ, R, q⟩ := h
  refine ⟨T, ρ, R, ha.mo _ _ _ _ _ (fun r1 ρ1 q1 v1 H1 hr1 => ?_) (fun _ _ h => h) q⟩
  obtain ⟨R1, l1, o1⟩ := hr1.opr
  refine ⟨T, ρ1, R1, hb.mo _ _ _ _ _ (fun r2 ρ2 q2 v2 H2 hr2 => ?_) (fun x ρ' h => kX_le l1 h) q1⟩
  obtain ⟨R2, l2, o2⟩ := hr2.opr
  obtain ⟨d, e, e1, e2, q3⟩ := q2
  refine os c T ρ2 σ H2 v1 v2 d e _ R2 ((o1.le l2).op R2 e1) (o2.op R2 e2) (hs _ _ _ _ (fun rr k v H' hr => ?_) q3)
  obtain ⟨kb, ek, k⟩ := k
  subst ek
  obtain ⟨R3, l3, rp⟩ := hr
  refine ⟨kb, rp_bool rp, ?_⟩
  cases kb with
  | true =>
    rw [if_pos rfl] at k ⊢
    refine ⟨T, ρ2, R3, hc.mo _ _ _ _ _ (fun r4 ρ4 q4 v4 H4 hr4 => ?_) (fun x ρ' h => kX_le (l1.trans (l2.trans l3)) h) k⟩
    obtain ⟨R4, l4, o4⟩ := hr4.opr
    obtain ⟨e', f, a1, a2, q5⟩ := q4
    exact os' c T ρ4 σ H4 v2 v4 e' f Q R4 (((o2.le l3).le l4).op R4 a1) (o4.op R4 a2) (hs' _ _ _ _ (fun rr k v H' hr => k v H' (hr.le (l1.trans (l2.trans (l3.trans l4))))) q5)
  | false =>
    rw [if_neg Bool.false_ne_true] at k ⊢
    exact k _ _ ⟨R3, l1.trans (l2.trans l3), .bl false⟩
theorem se_chain {op op' : CmpOp} (ho : OpR X (compareOp op) r) (ho' : OpR X (compareOp op') r') (os : OpS X.K r s) (os' : OpS X.K r' s') (hs : Mono2 s) (hs' : Mono2 s') (ha : SE X c W a ma) (hb : SE X c W b mb) (hc : SE X c W e3 mc)
    (hm : lastMarks [op, op'] [b, e3] = false := by with_unfolding_all rfl) : SE X c W (.Compare a [op, op'] [b, e3] pos) (sChain s s' ma mb mc) :=
  se_of (pe_chain ho ho' ha.run hb.run hc.run hm) (mono_chain hs hs' ha.mo hb.mo hc.mo) fun _ _ _ h => chain_core os os' hs hs' ha hb hc h
end
end VL

set_option Elab.async false
set_option linter.all false
set_option maxRecDepth 100000
set_option maxHeartbeats 4000000
/-! VL2: the operators on data; tests. -/
namespace VL
open PySem PySem.Spec PyProof.Rows L2

section
variable {K : PySem.W.Frag} {F H : Hp} {v : V} {d : D} {ds : List D} {kds : List (D × D)}
theorem Op.int {i : Int} (h : Op K F H v (.int i)) : v = .int i := by
  cases h with
  | sh h => cases h; rfl
  | ow h => cases e : H _ <;> rw [e] at h <;> first | exact h.elim | (rename_i o; cases o <;> exact h.elim)
theorem Op.bool {i : Bool} (h : Op K F H v (.bool i)) : v = .bl i := by
  cases h with
  | sh h => cases h; rfl
  | ow h => cases e : H _ <;> rw [e] at h <;> first | exact h.elim | (rename_i o; cases o <;> exact h.elim)
theorem Op.str {i : Str} (h : Op K F H v (.str i)) : v = .str i := by
  cases h with
  | sh h => cases h; rfl
  | ow h => cases e : H _ <;> rw [e] at h <;> first | exact h.elim | (rename_i o; cases o <;> exact h.elim)
theorem Op.none (h : Op K F H v .none) : v = .non := by
  cases h with
  | sh h => cases h; rfl
  | ow h => cases e : H _ <;> rw [e] at h <;> first | exact h.elim | (rename_i o; cases o <;> exact h.elim)
theorem Op.list (l : Le F H) (h : Op K F H v (.list ds)) : ∃ a vs, v = .ref a ∧ H a = some (.lst vs) ∧ RpA K F vs ds := by
  cases h with
  | sh h => cases h with
    | lst s r => exact ⟨_, _, rfl, l _ _ s, r⟩
  | ow h =>
    obtain ⟨vs, e, r⟩ := h.lst
    exact ⟨_, _, rfl, e, r⟩
theorem Op.tup (l : Le F H) (h : Op K F H v (.tuple ds)) : ∃ a vs, v = .ref a ∧ SqT K F a vs ∧ SqT K H a vs ∧ RpA K F vs ds := by
  cases h with
  | sh h => cases h with
    | tup s r => exact ⟨_, _, rfl, s, sqT_le s l, r⟩
  | ow h => cases e : H _ <;> rw [e] at h <;> first | exact h.elim | (rename_i o; cases o <;> exact h.elim)
theorem Op.rp (l : Le F H) (h : Op K F H v d) : Rp K H v d := by
  cases h with
  | sh h => exact h.le l
  | ow h => exact Ob.rp (h.le l)
/-- what is not a thing that can be changed is shared -/
theorem Op.fz {imm : D → Prop} (h : Op K F H v d) (hl : ∀ ds, d ≠ .list ds) (hd : ∀ ds, d ≠ .dict ds) : Rp K F v d := by
  cases h with
  | sh h => exact h
  | ow h =>
    cases e : H _ with
    | none => rw [e] at h; exact h.elim
    | some o =>
      rw [e] at h
      cases o <;> cases d <;> first | exact h.elim | exact absurd rfl (hl _) | exact absurd rfl (hd _)
end

/-! ### data operators -/
def s_add : S2 := fun d e k => match d, e with
  | .int i, .int j => k (.vl (.int (i + j)))
  | .int i, .bool b => k (.vl (.int (i + b2i b)))
  | .str x, .str y => x.length + y.length ≤ sizeLine ∧ k (.vl (.str (x ++ y)))
  | .tuple xs, .tuple ys => xs.length + ys.length ≤ sizeLine ∧ k (.vl (.tuple (xs ++ ys)))
  | .list xs, .list ys => xs.length + ys.length ≤ sizeLine ∧ k (.fr (.list (xs ++ ys)))
  | _, _ => False
def s_sub : S2 := fun d e k => match d, e with
  | .int i, .int j => k (.vl (.int (i - j)))
  | _, _ => False
def s_mul : S2 := fun d e k => match d, e with
  | .int i, .int j => (CMul i j ∨ CMulW i j) ∧ k (.vl (.int (i * j)))
  | .list xs, .int n => -(2 ^ 63) ≤ n ∧ n < 2 ^ 63 ∧ xs.length * n.toNat ≤ sizeLine ∧ k (.fr (.list (List.replicate n.toNat xs).flatten))
  | .tuple xs, .int n => xs ≠ [] ∧ 2 ≤ n ∧ n ≤ 1000 ∧ xs.length ≤ 1000 ∧ k (.vl (.tuple (List.replicate n.toNat xs).flatten))
  | _, _ => False
def s_fdiv : S2 := fun d e k => match d, e with
  | .int i, .int j => ((0 < j ∧ j.natAbs.log2 < 9000 ∧ k (.vl (.int (i / j)))) ∨ (j ≠ 0 ∧ j.natAbs < 1073741824 ∧ k (.vl (.int (i.fdiv j)))))
  | _, _ => False
def s_mod : S2 := fun d e k => match d, e with
  | .int i, .int j => j ≠ 0 ∧ k (.vl (.int (i.fmod j)))
  | _, _ => False
def s_pow : S2 := fun d e k => match d, e with
  | .int i, .int j => (0 ≤ j ∧ j ≤ 1000000 ∧ i.natAbs < 2 ^ 64) ∧ k (.vl (.int (i ^ j.toNat)))
  | _, _ => False
def s_shl : S2 := fun d e k => match d, e with
  | .int i, .int j => (0 ≤ j ∧ j ≤ 1000000 ∧ i.natAbs < 2 ^ 64) ∧ k (.vl (.int (i * 2 ^ j.toNat)))
  | _, _ => False
def s_and : S2 := fun d e k => match d, e with
  | .int i, .int j => k (.vl (.int (Builtin.bitAnd i j)))
  | _, _ => False
def s_xor : S2 := fun d e k => match d, e with
  | .int i, .int j => k (.vl (.int (Builtin.bitXor i j)))
  | _, _ => False
section
variable {K : PySem.W.Frag}
theorem m_add : Mono2 s_add := by
  intro d e k k' h q
  cases d <;> cases e <;> first | exact q.elim | exact h _ q | exact ⟨q.1, h _ q.2⟩
theorem m_sub : Mono2 s_sub := by
  intro d e k k' h q
  cases d <;> cases e <;> first | exact q.elim | exact h _ q
theorem m_mul : Mono2 s_mul := by
  intro d e k k' h q
  cases d <;> cases e <;> first | exact q.elim | exact ⟨q.1, h _ q.2⟩ | exact ⟨q.1, q.2.1, q.2.2.1, h _ q.2.2.2⟩ | exact ⟨q.1, q.2.1, q.2.2.1, q.2.2.2.1, h _ q.2.2.2.2⟩
theorem m_fdiv : Mono2 s_fdiv := by
  intro d e k k' h q
  cases d <;> cases e <;> first | exact q.elim | exact q.imp (fun q => ⟨q.1, q.2.1, h _ q.2.2⟩) (fun q => ⟨q.1, q.2.1, h _ q.2.2⟩)
theorem m_mod : Mono2 s_mod := by
  intro d e k k' h q
  cases d <;> cases e <;> first | exact q.elim | exact ⟨q.1, h _ q.2⟩
theorem m_pow : Mono2 s_pow := by
  intro d e k k' h q
  cases d <;> cases e <;> first | exact q.elim | exact ⟨q.1, h _ q.2⟩
theorem m_shl : Mono2 s_shl := by
  intro d e k k' h q
  cases d <;> cases e <;> first | exact q.elim | exact ⟨q.1, h _ q.2⟩
theorem m_and : Mono2 s_and := by
  intro d e k k' h q
  cases d <;> cases e <;> first | exact q.elim | exact h _ q
theorem m_xor : Mono2 s_xor := by
  intro d e k k' h q
  cases d <;> cases e <;> first | exact q.elim | exact h _ q
end
end VL

set_option Elab.async false
set_option linter.all false
set_option maxRecDepth 100000
set_option maxHeartbeats 4000000
/-! VL3: the operators' rules. -/
namespace VL
open PySem PySem.Spec PyProof.Rows L2

section
variable {K : PySem.W.Frag} {H : Hp}
mutual
theorem Rp.dp : ∀ {v : V} {d : D}, Rp K H v d → d.canLay0 = true → Dp K H v d
  | _, _, .non, _ => .non
  | _, _, .bl b, _ => .bl b
  | _, _, .int i, _ => .int i
  | _, _, .str x, _ => .str x
  | _, _, .lst s r, h => .lst (SqL.of s) (RpA.dp r (by simpa [PyData.canLay0] using h))
  | _, _, .tup s r, h => .tup s (RpA.dp r (by simpa [PyData.canLay0] using h))
  | _, _, .dK _ _, h => by simp [PyData.canLay0] at h
theorem RpA.dp : ∀ {v : List V} {d : List D}, RpA K H v d → PyData.canLayAll0 d = true → DpAll K H v d
  | _, _, .nil, _ => .nil
  | _, _, .cons a r, h => by
    simp only [PyData.canLayAll0, Bool.and_eq_true] at h
    exact .cons (Rp.dp a h.1) (RpA.dp r h.2)
end
end
def shp (d : D) : Bool := SeqAt.shaped d
theorem shp_lay {d : D} (h : shp d = true) : d.canLay0 = true := SeqAt.canLay_of_shaped h
section
variable {X : Cx} {c : Cf} {W : WX} {pos : Pos} {a b : Expr} {ma mb : ME} {k : Nat}
theorem units_of (hr : Room k X.A) : X.A.units + 65 < cLine := by have := hr.un; omega
/-- the frozen part lies within -/
theorem fr_le {T : List (Addr × HO)} {ρ : Env} {σ : L2.St} {H : Hp} : Le (Fr T ρ σ H) H := fz_le

def r_add (K : PySem.W.Frag) : R2 := fun x y H Q => (rI0 fun i j => .int (i + j)) x y H Q ∨ (∃ i k, x = .int i ∧ y = .bl k ∧ Q (.int (i + b2i k)) H) ∨ (∃ i j, x = .str i ∧ y = .str j ∧ i.length + j.length ≤ sizeLine ∧ Q (.str (i ++ j)) H) ∨ rCatA K x y H Q ∨ rCat x y H Q
theorem or_add : OpR X (binaryOp .Add) (r_add X.K) := OpR.or op_add (OpR.or op_add_ib (OpR.or op_add_str (OpR.or op_catA op_cat)))
theorem os_add {K : PySem.W.Frag} : OpS K (r_add K) s_add := by
  intro c T ρ σ H x y d e Q R hx hy q
  cases d <;> cases e <;> first | exact q.elim | skip
  · cases hx.int; cases hy.bool
    exact .inr (.inl ⟨_, _, rfl, rfl, q _ _ (res_vl R (.int _))⟩)
  · cases hx.int; cases hy.int
    exact .inl ⟨_, _, rfl, rfl, q _ _ (res_vl R (.int _))⟩
  · cases hx.str; cases hy.str
    exact .inr (.inr (.inl ⟨_, _, rfl, rfl, q.1, q.2 _ _ (res_vl R (.str _))⟩))
  · obtain ⟨l, xs, rfl, e1, r1⟩ := hx.list fr_le
    obtain ⟨l2, ys, rfl, e2, r2⟩ := hy.list fr_le
    refine .inr (.inr (.inr (.inr ⟨l, l2, xs, ys, rfl, rfl, e1, e2, by rw [r1.length, r2.length]; exact q.1, fun p hp => q.2 _ _ (res_new (d := .list _) R hp (r1.app r2))⟩)))
  · obtain ⟨l, xs, rfl, f1, e1, r1⟩ := hx.tup fr_le
    obtain ⟨l2, ys, rfl, f2, e2, r2⟩ := hy.tup fr_le
    refine .inr (.inr (.inr (.inl ⟨l, l2, xs, ys, rfl, rfl, e1, e2, by rw [r1.length, r2.length]; exact q.1, fun en => ?_, fun _ en => ?_, fun _ _ p hp => q.2 _ _ (res_tup R hp (r1.app r2))⟩)))
    · subst en
      cases r1
      exact q.2 _ _ (res_vl R (.tup f2 r2))
    · subst en
      cases r2
      exact q.2 _ _ (res_vl R (by simpa using Rp.tup f1 r1))
theorem se_add (ha : SE X c W a ma) (hb : SE X c W b mb) : SE X c W (.BinOp a .Add b pos) (sBin s_add ma mb) := se_bin or_add os_add m_add ha hb

theorem os_sub {K : PySem.W.Frag} : OpS K (rI0 fun i j => .int (i - j)) s_sub := by
  intro c T ρ σ H x y d e Q R hx hy q
  cases d <;> cases e <;> first | exact q.elim | skip
  cases hx.int; cases hy.int
  exact ⟨_, _, rfl, rfl, q _ _ (res_vl R (.int _))⟩
theorem se_sub (ha : SE X c W a ma) (hb : SE X c W b mb) : SE X c W (.BinOp a .Sub b pos) (sBin s_sub ma mb) := se_bin op_sub os_sub m_sub ha hb

def r_mul (K : PySem.W.Frag) : R2 := fun x y H Q => ((rI CMul fun i j => .int (i * j)) x y H Q ∨ (rI CMulW fun i j => .int (i * j)) x y H Q) ∨ rRep x y H Q ∨ rRepT K x y H Q
theorem rep_flat {K : PySem.W.Frag} {F : Hp} {vs : List V} {ds : List D} (r : RpA K F vs ds) : ∀ n : Nat, RpA K F (List.replicate n vs).flatten (List.replicate n ds).flatten
  | 0 => .nil
  | n + 1 => by simp only [List.replicate_succ, List.flatten_cons]; exact r.app (rep_flat r n)
theorem os_mul {K : PySem.W.Frag} : OpS K (r_mul K) s_mul := by
  intro c T ρ σ H x y d e Q R hx hy q
  cases d <;> cases e <;> first | exact q.elim | skip
  · cases hx.int; cases hy.int
    rcases q with ⟨q1 | q1, q2⟩
    · exact .inl (.inl ⟨_, _, rfl, rfl, q1, q2 _ _ (res_vl R (.int _))⟩)
    · exact .inl (.inr ⟨_, _, rfl, rfl, q1, q2 _ _ (res_vl R (.int _))⟩)
  · cases hy.int
    obtain ⟨l, xs, rfl, e1, r1⟩ := hx.list fr_le
    exact .inr (.inl ⟨l, _, xs, rfl, rfl, e1, q.1, q.2.1, by rw [r1.length]; exact q.2.2.1, fun p hp => q.2.2.2 _ _ (res_new (d := .list _) R hp (rep_flat r1 _))⟩)
  · cases hy.int
    obtain ⟨l, xs, rfl, f1, e1, r1⟩ := hx.tup fr_le
    refine .inr (.inr ⟨l, _, xs, rfl, rfl, e1, fun z => ?_, q.2.1, q.2.2.1, by rw [r1.length]; exact q.2.2.2.1, fun p hp => q.2.2.2.2 _ _ (res_tup R hp (rep_flat r1 _))⟩)
    subst z
    cases r1
    exact q.1 rfl
theorem se_mul (ha : SE X c W a ma) (hb : SE X c W b mb) : SE X c W (.BinOp a .Mult b pos) (sBin s_mul ma mb) := se_bin (OpR.or (OpR.or op_mul op_mulW) (OpR.or op_rep op_repT)) os_mul m_mul ha hb

def r_fdiv : R2 := fun x y H Q => (rI CDivW fun i j => .int (i / j)) x y H Q ∨ (rI CDivN fun i j => .int (i.fdiv j)) x y H Q
theorem os_fdiv {K : PySem.W.Frag} : OpS K r_fdiv s_fdiv := by
  intro c T ρ σ H x y d e Q R hx hy q
  cases d <;> cases e <;> first | exact q.elim | skip
  cases hx.int; cases hy.int
  rcases q with q | q
  · exact .inl ⟨_, _, rfl, rfl, ⟨q.1, q.2.1⟩, q.2.2 _ _ (res_vl R (.int _))⟩
  · exact .inr ⟨_, _, rfl, rfl, ⟨q.1, q.2.1⟩, q.2.2 _ _ (res_vl R (.int _))⟩
theorem se_fdiv (ha : SE X c W a ma) (hb : SE X c W b mb) : SE X c W (.BinOp a .FloorDiv b pos) (sBin s_fdiv ma mb) := se_bin (OpR.or op_fdivW op_fdivN) os_fdiv m_fdiv ha hb
theorem os_mod {K : PySem.W.Frag} : OpS K (rI (fun _ j => j ≠ 0) fun i j => .int (i.fmod j)) s_mod := by
  intro c T ρ σ H x y d e Q R hx hy q
  cases d <;> cases e <;> first | exact q.elim | skip
  cases hx.int; cases hy.int
  exact ⟨_, _, rfl, rfl, q.1, q.2 _ _ (res_vl R (.int _))⟩
theorem se_mod (ha : SE X c W a ma) (hb : SE X c W b mb) : SE X c W (.BinOp a .Mod b pos) (sBin s_mod ma mb) := se_bin op_modN os_mod m_mod ha hb
theorem os_pow {K : PySem.W.Frag} : OpS K (rI CPow fun i j => .int (i ^ j.toNat)) s_pow := by
  intro c T ρ σ H x y d e Q R hx hy q
  cases d <;> cases e <;> first | exact q.elim | skip
  cases hx.int; cases hy.int
  exact ⟨_, _, rfl, rfl, q.1, q.2 _ _ (res_vl R (.int _))⟩
theorem se_pow (ha : SE X c W a ma) (hb : SE X c W b mb) : SE X c W (.BinOp a .Pow b pos) (sBin s_pow ma mb) := se_bin op_pow os_pow m_pow ha hb
theorem os_shl {K : PySem.W.Frag} : OpS K (rI CPow fun i j => .int (i * 2 ^ j.toNat)) s_shl := by
  intro c T ρ σ H x y d e Q R hx hy q
  cases d <;> cases e <;> first | exact q.elim | skip
  cases hx.int; cases hy.int
  exact ⟨_, _, rfl, rfl, q.1, q.2 _ _ (res_vl R (.int _))⟩
theorem se_shl (ha : SE X c W a ma) (hb : SE X c W b mb) : SE X c W (.BinOp a .LShift b pos) (sBin s_shl ma mb) := se_bin op_shl os_shl m_shl ha hb
theorem os_and {K : PySem.W.Frag} : OpS K (rI0 fun i j => .int (Builtin.bitAnd i j)) s_and := by
  intro c T ρ σ H x y d e Q R hx hy q
  cases d <;> cases e <;> first | exact q.elim | skip
  cases hx.int; cases hy.int
  exact ⟨_, _, rfl, rfl, q _ _ (res_vl R (.int _))⟩
theorem se_andI (ha : SE X c W a ma) (hb : SE X c W b mb) : SE X c W (.BinOp a .BitAnd b pos) (sBin s_and ma mb) := se_bin op_and os_and m_and ha hb
theorem os_xor {K : PySem.W.Frag} : OpS K (rI0 fun i j => .int (Builtin.bitXor i j)) s_xor := by
  intro c T ρ σ H x y d e Q R hx hy q
  cases d <;> cases e <;> first | exact q.elim | skip
  cases hx.int; cases hy.int
  exact ⟨_, _, rfl, rfl, q _ _ (res_vl R (.int _))⟩
theorem se_xorI (ha : SE X c W a ma) (hb : SE X c W b mb) : SE X c W (.BinOp a .BitXor b pos) (sBin s_xor ma mb) := se_bin op_xor os_xor m_xor ha hb

/-! ### comparisons -/
def s_eq : S2 := fun d e k => shp d = true ∧ shp e = true ∧ k (.vl (.bool (PyData.eqv d e)))
def s_ne : S2 := fun d e k => shp d = true ∧ shp e = true ∧ k (.vl (.bool (!PyData.eqv d e)))
theorem m_eq : Mono2 s_eq := fun _ _ _ _ h q => ⟨q.1, q.2.1, h _ q.2.2⟩
theorem m_ne : Mono2 s_ne := fun _ _ _ _ h q => ⟨q.1, q.2.1, h _ q.2.2⟩
theorem os_eq {K : PySem.W.Frag} : OpS K (rEqD K) s_eq := by
  intro c T ρ σ H x y d e Q R hx hy q
  exact ⟨d, e, (hx.rp fr_le).dp (shp_lay q.1), (hy.rp fr_le).dp (shp_lay q.2.1), q.1, q.2.1, q.2.2 _ _ (res_vl R (.bl _))⟩
theorem os_ne {K : PySem.W.Frag} : OpS K (rNeD K) s_ne := by
  intro c T ρ σ H x y d e Q R hx hy q
  exact ⟨d, e, (hx.rp fr_le).dp (shp_lay q.1), (hy.rp fr_le).dp (shp_lay q.2.1), q.1, q.2.1, q.2.2 _ _ (res_vl R (.bl _))⟩
theorem se_eq (hr : Room k X.A) (ha : SE X c W a ma) (hb : SE X c W b mb) (hm : behindInMarks .Eq b = false := by rfl) : SE X c W (.Compare a [.Eq] [b] pos) (sBin s_eq ma mb) :=
  se_cmp (op_eqD (by have := units_of hr; omega)) os_eq m_eq ha hb hm
theorem se_ne (hr : Room k X.A) (ha : SE X c W a ma) (hb : SE X c W b mb) (hm : behindInMarks .NotEq b = false := by rfl) : SE X c W (.Compare a [.NotEq] [b] pos) (sBin s_ne ma mb) :=
  se_cmp (op_neD (by have := units_of hr; omega)) os_ne m_ne ha hb hm
end
end VL

set_option Elab.async false
set_option linter.all false
set_option maxRecDepth 100000
set_option maxHeartbeats 4000000
/-! VL4: order of data at any depth; in; is. -/
namespace VL
open PySem PySem.Spec PyProof.Rows L2

def ordI (i j : Int) : Ordering := if i < j then .lt else if j < i then .gt else .eq
def ordS (x y : Str) : Ordering := if x.cps.toList < y.cps.toList then .lt else if y.cps.toList < x.cps.toList then .gt else .eq
mutual
/-- the order of data: ints, texts, tuples of such -/
def ordD : D → D → Ordering
  | .int i, .int j => ordI i j
  | .str x, .str y => ordS x y
  | .tuple xs, .tuple ys => ordA xs ys
  | _, _ => .eq
def ordA : List D → List D → Ordering
  | [], [] => .eq
  | [], _ :: _ => .lt
  | _ :: _, [] => .gt
  | x :: xs, y :: ys => if PyData.eqv x y = true then ordA xs ys else ordD x y
end
mutual
/-- what can be ordered -/
def cmb : D → D → Bool
  | .int _, .int _ => true
  | .str _, .str _ => true
  | .tuple xs, .tuple ys => cmbA xs ys
  | _, _ => false
def cmbA : List D → List D → Bool
  | [], _ => true
  | _ :: _, [] => true
  | x :: xs, y :: ys => (PyData.eqv x y || cmb x y) && cmbA xs ys
end
def opB : CmpOp → Ordering → Bool
  | .Lt, o => o == .lt
  | .LtE, o => o != .gt
  | .Gt, o => o == .gt
  | .GtE, o => o != .lt
  | _, _ => false
def isOrd : CmpOp → Bool
  | .Lt | .LtE | .Gt | .GtE => true
  | _ => false
theorem opB_int {op : CmpOp} (h : isOrd op = true) (i j : Int) : opB op (ordI i j) = (match op with | .Lt => decide (i < j) | .LtE => decide (i ≤ j) | .Gt => decide (j < i) | .GtE => decide (j ≤ i) | _ => false) := by
  unfold ordI
  cases op <;> simp only [isOrd, reduceCtorEq, Bool.false_eq_true] at h
  all_goals
    by_cases h1 : i < j
    · have h2 : ¬ j < i := by omega
      have h3 : i ≤ j := by omega
      have h4 : ¬ j ≤ i := by omega
      simp [opB, h1, h2, h3, h4]
    · by_cases h2 : j < i
      · have h3 : ¬ i ≤ j := by omega
        have h4 : j ≤ i := by omega
        simp [opB, h1, h2, h3, h4]
      · have h3 : i ≤ j := by omega
        have h4 : j ≤ i := by omega
        simp [opB, h1, h2, h3, h4]

/-- the lists' order as the tuples' methods reckon it -/
def lexZ (op : CmpOp) (n m : Nat) : Bool := opB op (if n < m then .lt else if m < n then .gt else .eq)
theorem lexAt_shift {e r e' r' : Nat → Bool} {z : Bool} : ∀ (k i : Nat), (∀ j, e' (j + 1) = e j) → (∀ j, r' (j + 1) = r j) → Ob.lexAt e' r' z (i + 1) k = Ob.lexAt e r z i k
  | 0, i, _, _ => rfl
  | k + 1, i, he, hr => by
    rw [Ob.lexAt_succ, Ob.lexAt_succ, he i, hr i, lexAt_shift k (i + 1) he hr]
theorem lex_ord (op : CmpOp) (f : D → D → Bool) (hf : ∀ x y, f x y = opB op (ordD x y)) : ∀ (xs ys : List D) (z : Bool), z = lexZ op xs.length ys.length →
    Ob.lexAt (fun j => PyData.eqv (xs.getD j .none) (ys.getD j .none)) (fun j => f (xs.getD j .none) (ys.getD j .none)) z 0 (min xs.length ys.length) = opB op (ordA xs ys)
  | [], [], z, hz => by
    subst hz
    rfl
  | [], y :: ys, z, hz => by
    subst hz
    simp [Ob.lexAt_zero, lexZ, ordA]
  | x :: xs, [], z, hz => by
    subst hz
    simp [Ob.lexAt_zero, lexZ, ordA]
  | x :: xs, y :: ys, z, hz => by
    have ih := lex_ord op f hf xs ys z (by subst hz; simp [lexZ])
    rw [List.length_cons, List.length_cons, Nat.add_min_add_right, Ob.lexAt_succ]
    by_cases hx : PyData.eqv x y = true
    · rw [if_pos (by simpa using hx)]
      rw [lexAt_shift (e := fun j => PyData.eqv (xs.getD j .none) (ys.getD j .none)) (r := fun j => f (xs.getD j .none) (ys.getD j .none)) _ 0 (fun j => by simp) (fun j => by simp), ih]
      simp [ordA, hx]
    · rw [if_neg (by simpa using hx)]
      simp [ordA, hx, hf]

theorem rc_str {op : CmpOp} (h : isOrd op = true) {A : Around} {s : Shared} (x y : Str) (t u : Tok) : Ob.RcOp op A s (.str x t) (.str y u) (opB op (ordS x y)) := by
  have tri : ∀ a b : List Nat, a < b → ¬ b < a := fun a b h1 h2 => List.lt_irrefl a (List.lt_trans h1 h2)
  have e : opB op (ordS x y) = (match op with | .Lt => decide (x.cps.toList < y.cps.toList) | .LtE => !decide (y.cps.toList < x.cps.toList) | .Gt => decide (y.cps.toList < x.cps.toList) | .GtE => !decide (x.cps.toList < y.cps.toList) | _ => false) := by
    unfold ordS
    cases op <;> simp only [isOrd, reduceCtorEq, Bool.false_eq_true] at h
    all_goals
      by_cases h1 : x.cps.toList < y.cps.toList
      · simp [opB, h1, tri _ _ h1]
      · by_cases h2 : y.cps.toList < x.cps.toList
        · simp [opB, h1, h2]
        · simp [opB, h1, h2]
  rw [e]
  intro prog w E Q hq
  cases op <;> simp only [isOrd, reduceCtorEq, Bool.false_eq_true] at h
  · exact PyProof.Rows.lt_str (t := t) (u := u) hq
  · exact PySem.P.le_str (t := t) (u := u) hq
  · exact PySem.P.gt_str (t := t) (u := u) hq
  · exact PySem.P.ge_str (t := t) (u := u) hq

theorem readsAll_at {h : Heap} : ∀ {vs : List Value} {ds : List D} {as : List Addr}, ReadsAll h vs ds as → vs.length = ds.length ∧ ∀ j (hj : j < vs.length), ∃ bs, Reads h vs[j] (ds.getD j .none) bs
  | [], [], _, .nil => ⟨rfl, fun j hj => absurd hj (Nat.not_lt_zero _)⟩
  | v :: vs, d :: ds, _, .cons a r => by
    obtain ⟨h1, h2⟩ := readsAll_at r
    refine ⟨by simp [h1], fun j hj => ?_⟩
    cases j with
    | zero => exact ⟨_, by simpa using a⟩
    | succ j =>
      obtain ⟨bs, q⟩ := h2 j (by simpa using hj)
      exact ⟨bs, by simpa using q⟩
theorem layAll_at : ∀ {ds : List D} (j : Nat), PyData.canLayAll0 ds = true → (ds.getD j .none).canLay0 = true
  | [], _, _ => by simp [PyData.canLay0]
  | d :: ds, 0, h => by simp only [PyData.canLayAll0, Bool.and_eq_true] at h; simpa using h.1
  | d :: ds, j + 1, h => by simp only [PyData.canLayAll0, Bool.and_eq_true] at h; simpa using layAll_at (ds := ds) j h.2
theorem depthAll_at : ∀ {ds : List D} (j : Nat), (ds.getD j .none).depth ≤ PyData.depthAll ds
  | [], _ => by simp [PyData.depth]
  | d :: ds, 0 => by simp only [PyData.depthAll]; exact Nat.le_max_left _ _
  | d :: ds, j + 1 => by
    have ih := depthAll_at (ds := ds) j
    simp only [PyData.depthAll]
    exact Nat.le_trans (by simpa using ih) (Nat.le_max_right _ _)
theorem cmbA_at : ∀ {xs ys : List D} (j : Nat), cmbA xs ys = true → j < xs.length → j < ys.length → PyData.eqv (xs.getD j .none) (ys.getD j .none) = false → cmb (xs.getD j .none) (ys.getD j .none) = true
  | [], _, _, _, h, _, _ => absurd h (Nat.not_lt_zero _)
  | _ :: _, [], _, _, _, h, _ => absurd h (Nat.not_lt_zero _)
  | x :: xs, y :: ys, 0, h, _, _, e => by
    simp only [cmbA, Bool.and_eq_true, Bool.or_eq_true] at h
    rcases h.1 with q | q
    · have e' : PyData.eqv x y = false := by simpa using e
      rw [e'] at q; cases q
    · simpa using q
  | x :: xs, y :: ys, j + 1, h, h1, h2, e => by
    simp only [cmbA, Bool.and_eq_true] at h
    simpa using cmbA_at (xs := xs) (ys := ys) j h.2 (by simpa using h1) (by simpa using h2) (by simpa using e)
/-- data are ordered as told -/
theorem rc_data {op : CmpOp} (ho : isOrd op = true) {s : Shared} : ∀ (n : Nat) (A : Around) (d e : D) (u v : Value) (as bs : List Addr), d.depth ≤ n → A.units + n < cLine → cmb d e = true → d.canLay0 = true → e.canLay0 = true → Reads s.heap u d as → Reads s.heap v e bs →
    Ob.RcOp op A s u v (opB op (ordD d e)) := by
  intro n
  induction n with
  | zero =>
    intro A d e u v as bs hd hu hc l1 l2 r1 r2
    cases d <;> cases e <;> first | (simp [cmb] at hc; done) | skip
    · cases r1; cases r2
      rename_i i j t t'
      have e0 := opB_int ho i j
      show Ob.RcOp op A s _ _ (opB op (ordI i j))
      rw [e0]
      cases op <;> simp only [isOrd, reduceCtorEq, Bool.false_eq_true] at ho
      · exact Ob.RcOp.lt_int _ _ _ _
      · exact Ob.RcOp.le_int _ _ _ _
      · exact Ob.RcOp.gt_int _ _ _ _
      · exact Ob.RcOp.ge_int _ _ _ _
    · cases r1; cases r2
      exact rc_str ho _ _ _ _
    · simp [PyData.depth] at hd
  | succ n ih =>
    intro A d e u v as bs hd hu hc l1 l2 r1 r2
    cases d <;> cases e <;> first | (simp [cmb] at hc; done) | skip
    · cases r1; cases r2
      rename_i i j t t'
      have e0 := opB_int ho i j
      show Ob.RcOp op A s _ _ (opB op (ordI i j))
      rw [e0]
      cases op <;> simp only [isOrd, reduceCtorEq, Bool.false_eq_true] at ho
      · exact Ob.RcOp.lt_int _ _ _ _
      · exact Ob.RcOp.le_int _ _ _ _
      · exact Ob.RcOp.gt_int _ _ _ _
      · exact Ob.RcOp.ge_int _ _ _ _
    · cases r1; cases r2
      exact rc_str ho _ _ _ _
    · rename_i xs ys
      cases r1 with
      | tuple h1 h2 h3 h4 =>
      cases r2 with
      | tuple k1 k2 k3 k4 =>
      rename_i a o items n1 b o2 items2 n2
      have hc' : cmbA xs ys = true := by simpa [cmb] using hc
      have lx : PyData.canLayAll0 xs = true := by simpa [PyData.canLay0] using l1
      have ly : PyData.canLayAll0 ys = true := by simpa [PyData.canLay0] using l2
      have hd' : PyData.depthAll xs ≤ n := by
        simp only [PyData.depth] at hd
        omega
      obtain ⟨z1, g1⟩ := readsAll_at h4
      obtain ⟨z2, g2⟩ := readsAll_at k4
      have t1 : s.heap.IsTuple a items := ⟨_, h1, h2, _, h3⟩
      have t2 : s.heap.IsTuple b items2 := ⟨_, k1, k2, _, k3⟩
      have s1 : items.size = xs.length := by simpa using z1
      have s2 : items2.size = ys.length := by simpa using z2
      have he : ∀ j (h1 : j < items.size) (h2 : j < items2.size), SeqAt.EqAt A.in1 s items[j] items2[j] (PyData.eqv (xs.getD j .none) (ys.getD j .none)) := fun j q1 q2 => by
        obtain ⟨bs1, w1⟩ := g1 j (by simpa using q1)
        obtain ⟨bs2, w2⟩ := g2 j (by simpa using q2)
        refine SeqAt.eqAt_reads _ _ _ s _ _ _ _ (by simpa using w1) (by simpa using w2) (layAll_at j lx) (layAll_at j ly) ?_
        have := depthAll_at (ds := xs) j
        have := Nat.min_le_left (xs.getD j .none).depth (ys.getD j .none).depth
        show A.units + 1 + _ < cLine
        omega
      have hr : ∀ j (h1 : j < items.size) (h2 : j < items2.size), PyData.eqv (xs.getD j .none) (ys.getD j .none) = false → Ob.RcOp op A.in1 s items[j] items2[j] (opB op (ordD (xs.getD j .none) (ys.getD j .none))) := fun j q1 q2 e => by
        obtain ⟨bs1, w1⟩ := g1 j (by simpa using q1)
        obtain ⟨bs2, w2⟩ := g2 j (by simpa using q2)
        refine ih A.in1 _ _ _ _ bs1 bs2 (Nat.le_trans (depthAll_at (ds := xs) j) hd') ?_ (cmbA_at j hc' (by omega) (by omega) e) (layAll_at j lx) (layAll_at j ly) (by simpa using w1) (by simpa using w2)
        show A.units + 1 + n < cLine
        omega
      have L := fun z hz => lex_ord op (fun x y => opB op (ordD x y)) (fun _ _ => rfl) xs ys z hz
      show Ob.RcOp op A s _ _ (opB op (ordA xs ys))
      have hu' : A.units < cLine := by omega
      cases op <;> simp only [isOrd, reduceCtorEq, Bool.false_eq_true] at ho
      · have R := Ob.RcOp.tuples_lt t1 t2 hu' he hr
        rw [s1, s2, L _ (by unfold lexZ; by_cases q : xs.length < ys.length <;> by_cases q' : ys.length < xs.length <;> simp [opB, q, q'])] at R
        exact R
      · have R := Ob.RcOp.tuples_le t1 t2 hu' he hr
        rw [s1, s2, L _ (by
          unfold lexZ
          by_cases q : xs.length < ys.length
          · simp [opB, q, Nat.le_of_lt q]
          · by_cases q' : ys.length < xs.length
            · simp [opB, q, q']
            · have q2 : xs.length ≤ ys.length := by omega
              simp [opB, q, q', q2])] at R
        exact R
      · have R := Ob.RcOp.tuples_gt t1 t2 hu' he hr
        rw [s1, s2, L _ (by
          unfold lexZ
          by_cases q : xs.length < ys.length
          · have q2 : ¬ ys.length < xs.length := by omega
            simp [opB, q, q2]
          · by_cases q' : ys.length < xs.length <;> simp [opB, q, q'])] at R
        exact R
      · have R := Ob.RcOp.tuples_ge t1 t2 hu' he hr
        rw [s1, s2, L _ (by
          unfold lexZ
          by_cases q : xs.length < ys.length
          · have q2 : ¬ ys.length ≤ xs.length := by omega
            simp [opB, q, q2]
          · by_cases q' : ys.length < xs.length
            · simp [opB, q, q', Nat.le_of_lt q']
            · have q2 : ys.length ≤ xs.length := by omega
              simp [opB, q, q', q2])] at R
        exact R

def s_ord (op : CmpOp) : S2 := fun d e k => cmb d e = true ∧ shp d = true ∧ shp e = true ∧ k (.vl (.bool (opB op (ordD d e))))
theorem m_ord {op : CmpOp} : Mono2 (s_ord op) := fun _ _ _ _ h q => ⟨q.1, q.2.1, q.2.2.1, h _ q.2.2.2⟩
def r_ord (K : PySem.W.Frag) (op : CmpOp) : R2 := fun x y H Q => ∃ d e, Dp K H x d ∧ Dp K H y e ∧ cmb d e = true ∧ shp d = true ∧ shp e = true ∧ Q (.bl (opB op (ordD d e))) H
section
variable {X : Cx} {c : Cf} {W : WX} {pos : Pos} {a b : Expr} {ma mb : ME} {k : Nat}
theorem or_ord {op : CmpOp} (ho : isOrd op = true) (hr : Room k X.A) : OpR X (compareOp op) (r_ord X.K op) := by
  intro pins s σ H x y v u Q I rx ry h
  obtain ⟨d, e, hd, he, hc, s1, s2, q⟩ := h
  obtain ⟨as, r1⟩ := Dp.reads I d x v hd rx
  obtain ⟨bs, r2⟩ := Dp.reads I e y u he ry
  have hu := units_of hr
  have dd : d.depth ≤ 64 := SeqAt.depth_of_shaped s1
  have R := rc_data ho 64 X.A d e v u as bs dd (by omega) hc (shp_lay s1) (shp_lay s2) r1 r2 X.prog X.w X.xe (EP X pins σ Q) ⟨.bl _, H, I, rfl, q⟩
  cases op <;> simp only [isOrd, reduceCtorEq, Bool.false_eq_true] at ho
  all_goals exact R
theorem os_ord {K : PySem.W.Frag} {op : CmpOp} : OpS K (r_ord K op) (s_ord op) := by
  intro c T ρ σ H x y d e Q R hx hy q
  exact ⟨d, e, (hx.rp fr_le).dp (shp_lay q.2.1), (hy.rp fr_le).dp (shp_lay q.2.2.1), q.1, q.2.1, q.2.2.1, q.2.2.2 _ _ (res_vl R (.bl _))⟩
theorem se_ord {op : CmpOp} (ho : isOrd op = true) (hr : Room k X.A) (ha : SE X c W a ma) (hb : SE X c W b mb) (hm : behindInMarks op b = false := by rfl) : SE X c W (.Compare a [op] [b] pos) (sBin (s_ord op) ma mb) :=
  se_cmp (or_ord ho hr) os_ord m_ord ha hb hm
theorem se_ord2 {op op' : CmpOp} {e3 : Expr} {mc : ME} (ho : isOrd op = true) (ho' : isOrd op' = true) (hr : Room k X.A) (ha : SE X c W a ma) (hb : SE X c W b mb) (hc : SE X c W e3 mc) (hm : lastMarks [op, op'] [b, e3] = false := by with_unfolding_all rfl) :
    SE X c W (.Compare a [op, op'] [b, e3] pos) (sChain (s_ord op) (s_ord op') ma mb mc) := se_chain (or_ord ho hr) (or_ord ho' hr) os_ord os_ord m_ord m_ord ha hb hc hm
theorem se_ordEq {op : CmpOp} {e3 : Expr} {mc : ME} (ho : isOrd op = true) (hr : Room k X.A) (ha : SE X c W a ma) (hb : SE X c W b mb) (hc : SE X c W e3 mc) (hm : lastMarks [op, .Eq] [b, e3] = false := by with_unfolding_all rfl) :
    SE X c W (.Compare a [op, .Eq] [b, e3] pos) (sChain (s_ord op) s_eq ma mb mc) := se_chain (or_ord ho hr) (op_eqD (by have := units_of hr; omega)) os_ord os_eq m_ord m_eq ha hb hc hm

/-! ### in -/
/-- one sign, or a text, within a text -/
def s_in (neg : Bool) : S2 := fun d e k => match e with
  | .list ds => shp d = true ∧ shp e = true ∧ k (.vl (.bool (neg ^^ ds.any fun z => PyData.eqv z d)))
  | .tuple ds => shp d = true ∧ shp e = true ∧ k (.vl (.bool (neg ^^ ds.any fun z => PyData.eqv z d)))
  | .str y => match d with
    | .str x => k (.vl (.bool (neg ^^ !(Builtin.Str.occurrences y x 0 y.length 1).isEmpty)))
    | _ => False
  | _ => False
theorem m_in {n : Bool} : Mono2 (s_in n) := by
  intro d e k k' h q
  cases e <;> first | exact q.elim | exact ⟨q.1, q.2.1, h _ q.2.2⟩ | skip
  cases d <;> first | exact q.elim | exact h _ q
def r_in (K : PySem.W.Frag) (neg : Bool) : R2 := fun x y H Q => (∃ d ds, Dp K H x d ∧ Dp K H y (.list ds) ∧ shp d = true ∧ shp (.list ds) = true ∧ Q (.bl (neg ^^ ds.any fun z => PyData.eqv z d)) H) ∨
  (∃ d ds, Dp K H x d ∧ Dp K H y (.tuple ds) ∧ shp d = true ∧ shp (.tuple ds) = true ∧ Q (.bl (neg ^^ ds.any fun z => PyData.eqv z d)) H) ∨
  (∃ i j, x = .str i ∧ y = .str j ∧ Q (.bl (neg ^^ !(Builtin.Str.occurrences j i 0 j.length 1).isEmpty)) H)
theorem lay_items {ds : List D} (h : shp (.list ds) = true) : PyData.canLayAll0 ds = true := by
  have := shp_lay h
  simpa [PyData.canLay0] using this
theorem lay_itemsT {ds : List D} (h : shp (.tuple ds) = true) : PyData.canLayAll0 ds = true := by
  have := shp_lay h
  simpa [PyData.canLay0] using this
theorem or_in (hr : Room k X.A) : OpR X (compareOp .In) (r_in X.K false) := by
  have hu := units_of hr
  intro pins s σ H x y v u Q I rx ry h
  have dep : ∀ (d : D) (n : Nat), shp d = true → X.A.units + 1 + min n d.depth < cLine := fun d n h => by
    have := SeqAt.depth_of_shaped h
    have := Nat.min_le_right n d.depth
    omega
  rcases h with ⟨d, ds, hd, he, s1, s2, q⟩ | ⟨d, ds, hd, he, s1, s2, q⟩ | ⟨i, j, rfl, rfl, q⟩
  · obtain ⟨as, r1⟩ := Dp.reads I d x v hd rx
    obtain ⟨bs, r2⟩ := Dp.reads I (.list ds) y u he ry
    exact SeqAt.in_list_reads r2 r1 (lay_items s2) (shp_lay s1) (dep d _ s1) ⟨.bl _, H, I, rfl, by simpa using q⟩
  · obtain ⟨as, r1⟩ := Dp.reads I d x v hd rx
    obtain ⟨bs, r2⟩ := Dp.reads I (.tuple ds) y u he ry
    exact SeqAt.in_tuple_reads r2 r1 (lay_itemsT s2) (shp_lay s1) (dep d _ s1) ⟨.bl _, H, I, rfl, by simpa using q⟩
  · exact op_in_str pins s σ H _ _ v u Q I rx ry ⟨i, j, rfl, rfl, by simpa using q⟩
theorem or_notIn (hr : Room k X.A) : OpR X (compareOp .NotIn) (r_in X.K true) := by
  have hu := units_of hr
  intro pins s σ H x y v u Q I rx ry h
  have dep : ∀ (d : D) (n : Nat), shp d = true → X.A.units + 1 + min n d.depth < cLine := fun d n h => by
    have := SeqAt.depth_of_shaped h
    have := Nat.min_le_right n d.depth
    omega
  rcases h with ⟨d, ds, hd, he, s1, s2, q⟩ | ⟨d, ds, hd, he, s1, s2, q⟩ | ⟨i, j, rfl, rfl, q⟩
  · obtain ⟨as, r1⟩ := Dp.reads I d x v hd rx
    obtain ⟨bs, r2⟩ := Dp.reads I (.list ds) y u he ry
    exact SeqAt.notIn_list_reads r2 r1 (lay_items s2) (shp_lay s1) (dep d _ s1) ⟨.bl _, H, I, rfl, by simpa using q⟩
  · obtain ⟨as, r1⟩ := Dp.reads I d x v hd rx
    obtain ⟨bs, r2⟩ := Dp.reads I (.tuple ds) y u he ry
    exact SeqAt.notIn_tuple_reads r2 r1 (lay_itemsT s2) (shp_lay s1) (dep d _ s1) ⟨.bl _, H, I, rfl, by simpa using q⟩
  · exact op_notin_str pins s σ H _ _ v u Q I rx ry ⟨i, j, rfl, rfl, by simpa using q⟩
theorem os_in {K : PySem.W.Frag} {n : Bool} : OpS K (r_in K n) (s_in n) := by
  intro c T ρ σ H x y d e Q R hx hy q
  cases e <;> first | exact q.elim | skip
  · cases d <;> first | exact q.elim | skip
    cases hx.str; cases hy.str
    exact .inr (.inr ⟨_, _, rfl, rfl, q _ _ (res_vl R (.bl _))⟩)
  · exact .inl ⟨d, _, (hx.rp fr_le).dp (shp_lay q.1), (hy.rp fr_le).dp (shp_lay q.2.1), q.1, q.2.1, q.2.2 _ _ (res_vl R (.bl _))⟩
  · exact .inr (.inl ⟨d, _, (hx.rp fr_le).dp (shp_lay q.1), (hy.rp fr_le).dp (shp_lay q.2.1), q.1, q.2.1, q.2.2 _ _ (res_vl R (.bl _))⟩)
theorem se_in (hr : Room k X.A) (ha : SE X c W a ma) (hb : SE X c W b mb) (hm : behindInMarks .In b = false := by rfl) : SE X c W (.Compare a [.In] [b] pos) (sBin (s_in false) ma mb) := se_cmp (or_in hr) os_in m_in ha hb hm
theorem se_notIn (hr : Room k X.A) (ha : SE X c W a ma) (hb : SE X c W b mb) (hm : behindInMarks .NotIn b = false := by rfl) : SE X c W (.Compare a [.NotIn] [b] pos) (sBin (s_in true) ma mb) := se_cmp (or_notIn hr) os_in m_in ha hb hm

/-! ### is -/
def isNone : D → Bool
  | .none => true
  | _ => false
def s_is (neg : Bool) : S2 := fun d e k => match e with
  | .none => k (.vl (.bool (neg ^^ (isNone d))))
  | .bool b => match d with
    | .bool a => k (.vl (.bool (neg ^^ decide (a = b))))
    | _ => False
  | _ => False
theorem m_is {n : Bool} : Mono2 (s_is n) := by
  intro d e k k' h q
  cases e <;> first | exact q.elim | exact h _ q | skip
  cases d <;> first | exact q.elim | exact h _ q
def r_is : R2 := fun x y H Q => (y = .non ∧ Q (.bl (decide (x = .non))) H) ∨ (∃ a b, x = .bl a ∧ y = .bl b ∧ Q (.bl (decide (a = b))) H)
def r_isnot : R2 := fun x y H Q => (y = .non ∧ Q (.bl (!decide (x = .non))) H) ∨ (∃ a b, x = .bl a ∧ y = .bl b ∧ Q (.bl (!decide (a = b))) H)
theorem Op.isnon {K : PySem.W.Frag} {F H : Hp} {v : V} {d : D} (h : Op K F H v d) : decide (v = .non) = (isNone d) := by
  cases h with
  | sh h => cases h <;> simp [isNone]
  | ow h => cases e : H _ <;> rw [e] at h <;> first | exact h.elim | (rename_i o; cases o <;> cases d <;> first | exact h.elim | simp [isNone])
theorem os_is {K : PySem.W.Frag} : OpS K r_is (s_is false) := by
  intro c T ρ σ H x y d e Q R hx hy q
  cases e <;> first | exact q.elim | skip
  · cases hy.none
    refine .inl ⟨rfl, ?_⟩
    rw [hx.isnon]
    exact q _ _ (res_vl R (by simp only [Bool.false_bne, Bool.false_xor, Bool.true_xor]; exact Rp.bl _))
  · cases d <;> first | exact q.elim | skip
    cases hx.bool; cases hy.bool
    exact .inr ⟨_, _, rfl, rfl, q _ _ (res_vl R (by simpa using Rp.bl _))⟩
theorem os_isnot {K : PySem.W.Frag} : OpS K r_isnot (s_is true) := by
  intro c T ρ σ H x y d e Q R hx hy q
  cases e <;> first | exact q.elim | skip
  · cases hy.none
    refine .inl ⟨rfl, ?_⟩
    rw [hx.isnon]
    exact q _ _ (res_vl R (by simp only [Bool.false_bne, Bool.false_xor, Bool.true_xor]; exact Rp.bl _))
  · cases d <;> first | exact q.elim | skip
    cases hx.bool; cases hy.bool
    exact .inr ⟨_, _, rfl, rfl, q _ _ (res_vl R (by simpa using Rp.bl _))⟩
theorem se_is (ha : SE X c W a ma) (hb : SE X c W b mb) : SE X c W (.Compare a [.Is] [b] pos) (sBin (s_is false) ma mb) := se_cmp (OpR.or op_isN op_is_bl) os_is m_is ha hb (nomark _)
theorem se_isnot (ha : SE X c W a ma) (hb : SE X c W b mb) : SE X c W (.Compare a [.IsNot] [b] pos) (sBin (s_is true) ma mb) := se_cmp (OpR.or op_notN op_isnot_bl) os_isnot m_is ha hb (nomark _)
end
end VL

set_option Elab.async false
set_option linter.all false
set_option maxRecDepth 100000
set_option maxHeartbeats 4000000
/-! VL5: truth, and, or, not, if; statements; targets. -/
namespace VL
open PySem PySem.Spec PyProof.Rows L2

/-! ### truth -/
def tru : D → Option Bool
  | .none => some false
  | .bool b => some b
  | .int i => some (i != 0)
  | .list ds => some (!ds.isEmpty)
  | .tuple ds => some (!ds.isEmpty)
  | _ => none
/-- a value's truth -/
def sTru (m : ME) : MB := fun ρ Q X => m ρ (fun r ρ' => ∃ d b, res ρ' r = some d ∧ tru d = some b ∧ Q b ρ') X
/-- a bool as a test -/
def sBl (m : ME) : MB := fun ρ Q X => m ρ (fun r ρ' => ∃ b, r = .vl (.bool b) ∧ Q b ρ') X
theorem mono_tru {m : ME} (h : Mono m) : Mono (sTru m) := fun ρ Q Q' X X' hq hx => h ρ _ _ X X' (fun _ _ ⟨d, b, e1, e2, q⟩ => ⟨d, b, e1, e2, hq _ _ q⟩) hx
theorem mono_bl {m : ME} (h : Mono m) : Mono (sBl m) := fun ρ Q Q' X X' hq hx => h ρ _ _ X X' (fun _ _ ⟨b, e, q⟩ => ⟨b, e, hq _ _ q⟩) hx
def sAndB (m n : MB) : MB := fun ρ Q X => m ρ (fun b ρ' => if b = true then n ρ' Q X else Q false ρ') X
def sOrB (m n : MB) : MB := fun ρ Q X => m ρ (fun b ρ' => if b = true then Q true ρ' else n ρ' Q X) X
def sNotB (m : MB) : MB := fun ρ Q X => m ρ (fun b ρ' => Q (!b) ρ') X
theorem mono_andB {m n : MB} (h : Mono m) (h' : Mono n) : Mono (sAndB m n) := fun ρ Q Q' X X' hq hx => h ρ _ _ X X' (fun b _ q => by
  cases b with
  | true => exact h' _ _ _ _ _ hq hx q
  | false => exact hq _ _ q) hx
theorem mono_orB {m n : MB} (h : Mono m) (h' : Mono n) : Mono (sOrB m n) := fun ρ Q Q' X X' hq hx => h ρ _ _ X X' (fun b _ q => by
  cases b with
  | false => exact h' _ _ _ _ _ hq hx q
  | true => exact hq _ _ q) hx
theorem mono_notB {m : MB} (h : Mono m) : Mono (sNotB m) := fun ρ Q Q' X X' hq hx => h ρ _ _ X X' (fun b _ q => hq _ _ q) hx
def sAnd (m n : ME) : ME := fun ρ Q X => m ρ (fun r ρ' => ∃ b, r = .vl (.bool b) ∧ if b = true then n ρ' Q X else Q (.vl (.bool false)) ρ') X
def sOr (m n : ME) : ME := fun ρ Q X => m ρ (fun r ρ' => ∃ b, r = .vl (.bool b) ∧ if b = true then Q (.vl (.bool true)) ρ' else n ρ' Q X) X
def sNot (m : ME) : ME := fun ρ Q X => m ρ (fun r ρ' => ∃ b, r = .vl (.bool b) ∧ Q (.vl (.bool (!b))) ρ') X
def sNeg (m : ME) : ME := fun ρ Q X => m ρ (fun r ρ' => ∃ i, r = .vl (.int i) ∧ Q (.vl (.int (-i))) ρ') X
def sIf (t : MB) (m n : ME) : ME := fun ρ Q X => t ρ (fun b ρ' => if b = true then m ρ' Q X else n ρ' Q X) X
theorem mono_and {m n : ME} (h : Mono m) (h' : Mono n) : Mono (sAnd m n) := fun ρ Q Q' X X' hq hx => h ρ _ _ X X' (fun r _ ⟨b, e, q⟩ => ⟨b, e, by
  cases b with
  | true => exact h' _ _ _ _ _ hq hx q
  | false => exact hq _ _ q⟩) hx
theorem mono_or {m n : ME} (h : Mono m) (h' : Mono n) : Mono (sOr m n) := fun ρ Q Q' X X' hq hx => h ρ _ _ X X' (fun r _ ⟨b, e, q⟩ => ⟨b, e, by
  cases b with
  | false => exact h' _ _ _ _ _ hq hx q
  | true => exact hq _ _ q⟩) hx
theorem mono_not {m : ME} (h : Mono m) : Mono (sNot m) := fun ρ Q Q' X X' hq hx => h ρ _ _ X X' (fun r _ ⟨b, e, q⟩ => ⟨b, e, hq _ _ q⟩) hx
theorem mono_neg {m : ME} (h : Mono m) : Mono (sNeg m) := fun ρ Q Q' X X' hq hx => h ρ _ _ X X' (fun r _ ⟨b, e, q⟩ => ⟨b, e, hq _ _ q⟩) hx
theorem mono_if {t : MB} {m n : ME} (ht : Mono t) (h : Mono m) (h' : Mono n) : Mono (sIf t m n) := fun ρ Q Q' X X' hq hx => ht ρ _ _ X X' (fun b _ q => by
  cases b with
  | true => exact h _ _ _ _ _ hq hx q
  | false => exact h' _ _ _ _ _ hq hx q) hx

section
variable {X : Cx} {c : Cf} {W : WX} {pos : Pos} {a b e : Expr} {ma mb m : ME} {ta tb : MB} {k : Nat} {rest : List Expr}
theorem Res.bool {K : PySem.W.Frag} {T : List (Addr × HO)} {F0 : Hp} {ρ : Env} {σ : L2.St} {H : Hp} {b : Bool} {v : V} (h : Res K c T F0 ρ σ H (.vl (.bool b)) v) : v = .bl b ∧ Rel K c T ρ σ H ∧ Le F0 (Fr T ρ σ H) := ⟨rp_bool h.2.2, h.1, h.2.1⟩
theorem Res.vlb {K : PySem.W.Frag} {T : List (Addr × HO)} {F0 : Hp} {ρ : Env} {σ : L2.St} {H : Hp} {b : Bool} (R : Rel K c T ρ σ H) (l : Le F0 (Fr T ρ σ H)) : Res K c T F0 ρ σ H (.vl (.bool b)) (.bl b) := ⟨R, l, .bl b⟩
theorem st_of {e : Expr} {t : TT} {m : MB} (h : PT X e t) (mo : Mono m) (hr : ∀ σ H Q, rdB X.K X.mg c W m σ H Q → t σ H Q) : ST X c W e m :=
  ⟨⟨fun pins s σ H Q I q => h.run pins s σ H Q I (hr σ H Q q)⟩, mo⟩
/-- an expression that gives a bool, as a test -/
theorem st_bl (h : SE X c W e m) (he : ∀ whole, isTrue e X.env whole = (do let v ← whole; standAt e.pos; holding [v] (truthy v)) := by intro _; rfl) : ST X c W e (sBl m) := by
  refine st_of (pt_val h.run he) (mono_bl h.mo) fun σ H Q ⟨T, ρ, R, q⟩ => ?_
  refine ⟨T, ρ, R, h.mo _ _ _ _ _ (fun r ρ1 ⟨b, eb, q⟩ v H1 hr => ?_) (fun _ _ h => h) q⟩
  subst eb
  obtain ⟨ev, R1, l1⟩ := hr.bool
  exact ⟨b, ev, q H1 ⟨R1, l1⟩⟩
theorem Op.tru {K : PySem.W.Frag} {F H : Hp} {v : V} {d : D} {b : Bool} (l : Le F H) (h : Op K F H v d) (e : tru d = some b) : TruV K v H b := by
  cases d with
  | none => cases h.none; cases e; rfl
  | bool b => cases h.bool; cases e; rfl
  | int i => cases h.int; cases e; rfl
  | str x => cases e
  | dict _ => cases e
  | list ds =>
    obtain ⟨a, vs, rfl, ea, r⟩ := h.list l
    cases e
    refine .inl ⟨vs, SqL.of ea, ?_⟩
    cases r <;> rfl
  | tuple ds =>
    obtain ⟨a, vs, rfl, _, ea, r⟩ := h.tup l
    cases e
    refine .inr (.inl ⟨vs, ea, ?_⟩)
    cases r <;> rfl
theorem st_tru (h : SE X c W e m) (he : ∀ whole, isTrue e X.env whole = (do let v ← whole; standAt e.pos; holding [v] (truthy v)) := by intro _; rfl) : ST X c W e (sTru m) := by
  refine st_of (pt_truth h.run he) (mono_tru h.mo) fun σ H Q ⟨T, ρ, R, q⟩ => ?_
  refine ⟨T, ρ, R, h.mo _ _ _ _ _ (fun r ρ1 ⟨d, b, e1, e2, q⟩ v H1 hr => ?_) (fun _ _ h => h) q⟩
  obtain ⟨R1, l1, o1⟩ := hr.opr
  exact ⟨b, (o1.op R1 e1).tru fr_le e2, q H1 ⟨R1, l1⟩⟩
/-- one comparison as a test -/
theorem st_cmp {op : CmpOp} {r : R2} {s : S2} (ho : OpR X (compareOp op) r) (os : OpS X.K r s) (hs : Mono2 s) (ha : SE X c W a ma) (hb : SE X c W b mb) (hm : behindInMarks op b = false := by rfl) : ST X c W (.Compare a [op] [b] pos) (sBl (sBin s ma mb)) := by
  refine st_of (pt_cmpR ho ha.run hb.run hm) (mono_bl (mono_bin hs ha.mo hb.mo)) fun σ H Q ⟨T, ρ, R, q⟩ => ?_
  refine bin_core os hs ha hb ⟨T, ρ, R, mono_bin hs ha.mo hb.mo _ _ _ _ _ (fun r ρ1 ⟨b, eb, q⟩ v H1 hr => ?_) (fun _ _ h => h) q⟩
  subst eb
  obtain ⟨ev, R1, l1⟩ := hr.bool
  exact ⟨b, ev, q H1 ⟨R1, l1⟩⟩
theorem st_chain {op op' : CmpOp} {r r' : R2} {s s' : S2} {e3 : Expr} {mc : ME} (ho : OpR X (compareOp op) r) (ho' : OpR X (compareOp op') r') (os : OpS X.K r s) (os' : OpS X.K r' s') (hs : Mono2 s) (hs' : Mono2 s') (ha : SE X c W a ma) (hb : SE X c W b mb) (hc : SE X c W e3 mc)
    (hm : lastMarks [op, op'] [b, e3] = false := by with_unfolding_all rfl) : ST X c W (.Compare a [op, op'] [b, e3] pos) (sBl (sChain s s' ma mb mc)) := by
  have E := se_chain (pos := pos) ho ho' os os' hs hs' ha hb hc hm
  refine ⟨⟨fun pins s σ H Q I q => ?_⟩, mono_bl E.mo⟩
  refine (pt_chain (pos := pos) ho ho' ha.run hb.run hc.run hm).run pins s σ H Q I ?_
  obtain ⟨T, ρ, R, q⟩ := q
  refine chain_core os os' hs hs' ha hb hc ⟨T, ρ, R, E.mo _ _ _ _ _ (fun r ρ1 ⟨b, eb, q⟩ v H1 hr => ?_) (fun _ _ h => h) q⟩
  subst eb
  obtain ⟨ev, R1, l1⟩ := hr.bool
  exact ⟨b, ev, q H1 ⟨R1, l1⟩⟩
theorem st_not (h : ST X c W a ta) : ST X c W (.UnaryOp .Not a pos) (sNotB ta) :=
  st_of (pt_not h.run) (mono_notB h.mo) fun σ H Q ⟨T, ρ, R, q⟩ => ⟨T, ρ, R, q⟩
theorem sw_and1 (h : ST X c W a ta) : SW X c W (.BoolOp .And [a] pos) ta := ⟨pw_and1 h.run, h.mo⟩
theorem sw_or1 (h : ST X c W a ta) : SW X c W (.BoolOp .Or [a] pos) ta := ⟨pw_or1 h.run, h.mo⟩
theorem bb_core {σ : L2.St} {H : Hp} {Q : Bool → Hp → Prop} {m n : MB} {f : Bool → Bool} (hm : Mono m) (hn : Mono n) (u : Bool) {T : List (Addr × HO)} {ρ : Env} (R : Rel X.K c T ρ σ H)
    (q : m ρ (fun b ρ' => if b = u then n ρ' (fun b ρ' => ∀ H', ResB X.K c T (Fr T ρ σ H) ρ' σ H' → Q b H') (kX X.K X.mg c W T (Fr T ρ σ H) σ) else ∀ H', ResB X.K c T (Fr T ρ σ H) ρ' σ H' → Q (!u) H') (kX X.K X.mg c W T (Fr T ρ σ H) σ)) :
    rdB X.K X.mg c W m σ H fun b H1 => if b = u then rdB X.K X.mg c W n σ H1 Q else Q (!u) H1 := by
  refine ⟨T, ρ, R, hm _ _ _ _ _ (fun b ρ1 q1 H1 ⟨R1, l1⟩ => ?_) (fun _ _ h => h) q⟩
  by_cases hb : b = u
  · rw [if_pos hb] at q1 ⊢
    exact ⟨T, ρ1, R1, hn _ _ _ _ _ (fun b ρ2 q2 H2 ⟨R2, l2⟩ => q2 H2 ⟨R2, l1.trans l2⟩) (fun x ρ' h => kX_le l1 h) q1⟩
  · rw [if_neg hb] at q1 ⊢
    exact q1 H1 ⟨R1, l1⟩
theorem sw_and (ha : ST X c W a ta) (hb : SW X c W (.BoolOp .And (b :: rest) pos) tb) : SW X c W (.BoolOp .And (a :: b :: rest) pos) (sAndB ta tb) := by
  refine ⟨⟨fun wh pins s σ H Q I ⟨T, ρ, R, q⟩ => (pw_and ha.run hb.run).run wh pins s σ H Q I ?_⟩, mono_andB ha.mo hb.mo⟩
  have z := bb_core (f := id) (Q := Q) ha.mo hb.mo true R (ha.mo _ _ _ _ _ (fun b ρ' q => by cases b with | true => exact q | false => exact q) (fun _ _ h => h) q)
  exact z
theorem sw_or (ha : ST X c W a ta) (hb : SW X c W (.BoolOp .Or (b :: rest) pos) tb) : SW X c W (.BoolOp .Or (a :: b :: rest) pos) (sOrB ta tb) := by
  refine ⟨⟨fun wh pins s σ H Q I ⟨T, ρ, R, q⟩ => (pw_or ha.run hb.run).run wh pins s σ H Q I ?_⟩, mono_orB ha.mo hb.mo⟩
  have z := bb_core (f := id) (Q := Q) ha.mo hb.mo false R (ha.mo _ _ _ _ _ (fun b ρ' q => by cases b with | true => exact q | false => exact q) (fun _ _ h => h) q)
  obtain ⟨T, ρ, R, z⟩ := z
  exact ⟨T, ρ, R, ha.mo _ _ _ _ _ (fun b ρ' q H1 h1 => by cases b with | true => exact q H1 h1 | false => exact q H1 h1) (fun _ _ h => h) z⟩
theorem SW.st {op : BoolOp} {vs : List Expr} (h : SW X c W (.BoolOp op vs pos) ta) : ST X c W (.BoolOp op vs pos) ta := ⟨h.run.pt, h.mo⟩
/-- as values -/
theorem se_one {op : BoolOp} (h : SE X c W a ma) : SE X c W (.BoolOp op [a] pos) ma := ⟨pe_one h.run, h.mo⟩
theorem se_and (ha : SE X c W a ma) (hb : SE X c W (.BoolOp .And (b :: rest) pos) mb) : SE X c W (.BoolOp .And (a :: b :: rest) pos) (sAnd ma mb) := by
  refine se_of (pe_and ha.run hb.run) (mono_and ha.mo hb.mo) fun σ H Q ⟨T, ρ, R, q⟩ => ?_
  refine ⟨T, ρ, R, ha.mo _ _ _ _ _ (fun r ρ1 ⟨b, eb, q⟩ v H1 hr => ?_) (fun _ _ h => h) q⟩
  subst eb
  obtain ⟨ev, R1, l1⟩ := hr.bool
  refine ⟨b, ev, ?_⟩
  cases b with
  | true =>
    rw [if_pos rfl] at q ⊢
    exact ⟨T, ρ1, R1, hb.mo _ _ _ _ _ (fun r ρ2 q2 v H2 hr => q2 v H2 (hr.le l1)) (fun x ρ' h => kX_le l1 h) q⟩
  | false => exact q _ _ (Res.vlb R1 l1)
theorem se_or (ha : SE X c W a ma) (hb : SE X c W (.BoolOp .Or (b :: rest) pos) mb) : SE X c W (.BoolOp .Or (a :: b :: rest) pos) (sOr ma mb) := by
  refine se_of (pe_or ha.run hb.run) (mono_or ha.mo hb.mo) fun σ H Q ⟨T, ρ, R, q⟩ => ?_
  refine ⟨T, ρ, R, ha.mo _ _ _ _ _ (fun r ρ1 ⟨b, eb, q⟩ v H1 hr => ?_) (fun _ _ h => h) q⟩
  subst eb
  obtain ⟨ev, R1, l1⟩ := hr.bool
  refine ⟨b, ev, ?_⟩
  cases b with
  | false =>
    rw [if_neg Bool.false_ne_true] at q ⊢
    exact ⟨T, ρ1, R1, hb.mo _ _ _ _ _ (fun r ρ2 q2 v H2 hr => q2 v H2 (hr.le l1)) (fun x ρ' h => kX_le l1 h) q⟩
  | true => exact q _ _ (Res.vlb R1 l1)
theorem se_not (ha : SE X c W a ma) : SE X c W (.UnaryOp .Not a pos) (sNot ma) := by
  refine se_of (pe_not ha.run) (mono_not ha.mo) fun σ H Q ⟨T, ρ, R, q⟩ => ?_
  refine ⟨T, ρ, R, ha.mo _ _ _ _ _ (fun r ρ1 ⟨b, eb, q⟩ v H1 hr => ?_) (fun _ _ h => h) q⟩
  subst eb
  obtain ⟨ev, R1, l1⟩ := hr.bool
  exact ⟨b, ev, q _ _ (Res.vlb R1 l1)⟩
theorem se_neg (ha : SE X c W a ma) : SE X c W (.UnaryOp .USub a pos) (sNeg ma) := by
  refine se_of (pe_un un_neg ha.run) (mono_neg ha.mo) fun σ H Q ⟨T, ρ, R, q⟩ => ?_
  refine ⟨T, ρ, R, ha.mo _ _ _ _ _ (fun r ρ1 ⟨i, eb, q⟩ v H1 hr => ?_) (fun _ _ h => h) q⟩
  subst eb
  obtain ⟨R1, l1, rp⟩ := hr
  cases rp
  exact ⟨i, rfl, q _ _ ⟨R1, l1, .int _⟩⟩
theorem se_if {t : Expr} (ht : ST X c W t ta) (ha : SE X c W a ma) (hb : SE X c W b mb) : SE X c W (.IfExp t a b pos) (sIf ta ma mb) := by
  refine se_of (pe_ifExp ht.run ha.run hb.run) (mono_if ht.mo ha.mo hb.mo) fun σ H Q ⟨T, ρ, R, q⟩ => ?_
  refine ⟨T, ρ, R, ht.mo _ _ _ _ _ (fun b ρ1 q H1 ⟨R1, l1⟩ => ?_) (fun _ _ h => h) q⟩
  cases b with
  | true => exact ⟨T, ρ1, R1, ha.mo _ _ _ _ _ (fun r ρ2 q2 v H2 hr => q2 v H2 (hr.le l1)) (fun x ρ' h => kX_le l1 h) q⟩
  | false => exact ⟨T, ρ1, R1, hb.mo _ _ _ _ _ (fun r ρ2 q2 v H2 hr => q2 v H2 (hr.le l1)) (fun x ρ' h => kX_le l1 h) q⟩
end
end VL

set_option Elab.async false
set_option linter.all false
set_option maxRecDepth 100000
set_option maxHeartbeats 4000000
/-! VL6: statements and targets. -/
namespace VL
open PySem PySem.Spec PyProof.Rows L2

/-- what is wanted behind a statement -/
structure Ks where
  nx : Env → Prop
  rt : Rs → Env → Prop
  bk : Env → Prop
  ct : Env → Prop
  ex : Ex → Env → Prop
abbrev MS := Env → Ks → Prop
structure Ks.Le (k k' : Ks) : Prop where
  nx : ∀ ρ, k.nx ρ → k'.nx ρ
  rt : ∀ r ρ, k.rt r ρ → k'.rt r ρ
  bk : ∀ ρ, k.bk ρ → k'.bk ρ
  ct : ∀ ρ, k.ct ρ → k'.ct ρ
  ex : ∀ x ρ, k.ex x ρ → k'.ex x ρ
theorem Ks.Le.refl (k : Ks) : Ks.Le k k := ⟨fun _ h => h, fun _ _ h => h, fun _ h => h, fun _ h => h, fun _ _ h => h⟩
def MonoS (m : MS) : Prop := ∀ ρ k k', Ks.Le k k' → m ρ k → m ρ k'
section
variable (K : PySem.W.Frag) (mg : Str → Option Value) (c : Cf) (W : WX)
/-- the wishes at the level of values -/
def ksOf (D : Ends) : Ks where
  nx := fun ρ' => ∀ σ' H', Rel K c c.T0 ρ' σ' H' → D.nx σ' H'
  rt := fun r ρ' => ∀ v σ' H', Res K c c.T0 c.B ρ' σ' H' r v → D.rt v H'
  bk := fun ρ' => ∀ σ' H', Rel K c c.T0 ρ' σ' H' → D.bk σ' H'
  ct := fun ρ' => ∀ σ' H', Rel K c c.T0 ρ' σ' H' → D.ct σ' H'
  ex := fun x ρ' => ∀ cls d σ' H', Rel K c c.T0 ρ' σ' H' → ExR K mg (Fr c.T0 ρ' σ' H') x cls d → W cls d σ' H'
def rdS (m : MS) : TS := fun D σ H => ∃ ρ, Rel K c c.T0 ρ σ H ∧ m ρ (ksOf K mg c W D)
end
structure SS (X : Cx) (c : Cf) (W : WX) (st : Stmt) (m : MS) : Prop where
  run : PS X st (rdS X.K X.mg c W m)
  mo : MonoS m
structure SSs (X : Cx) (c : Cf) (W : WX) (st : List Stmt) (m : MS) : Prop where
  run : PSs X st (rdS X.K X.mg c W m)
  mo : MonoS m
section
variable {X : Cx} {c : Cf} {W : WX} {pos : Pos}
theorem ss_of {st : Stmt} {t : TS} {m : MS} (h : PS X st t) (mo : MonoS m) (hr : ∀ D σ H, rdS X.K X.mg c W m D σ H → t D σ H) : SS X c W st m :=
  ⟨⟨fun pins s σ H D I q => h.run pins s σ H D I (hr D σ H q)⟩, mo⟩
/-- the exceptions' wish, from a statement to its expression -/
theorem kx_of {D : Ends} {T : List (Addr × HO)} {σ : L2.St} {F0 : Hp} {x : Ex} {ρ' : Env} (h : (ksOf X.K X.mg c W D).ex x ρ') : kX X.K X.mg c W c.T0 F0 σ x ρ' := fun cls d H' R _ e => h cls d σ H' R e
end

/-! ### small statements -/
def sSkip : MS := fun ρ k => k.nx ρ
def sSeq (m n : MS) : MS := fun ρ k => m ρ { k with nx := fun ρ' => n ρ' k }
def sExpr (m : ME) : MS := fun ρ k => m ρ (fun _ ρ' => k.nx ρ') k.ex
def sRet (m : ME) : MS := fun ρ k => m ρ (fun r ρ' => k.rt r ρ') k.ex
def sRetN : MS := fun ρ k => k.rt (.vl .none) ρ
def sBrk : MS := fun ρ k => k.bk ρ
def sCnt : MS := fun ρ k => k.ct ρ
def sIte (t : MB) (m n : MS) : MS := fun ρ k => t ρ (fun b ρ' => if b = true then m ρ' k else n ρ' k) k.ex
def sNever : MS := fun _ _ => False
theorem monoS_skip : MonoS sSkip := fun _ _ _ l h => l.nx _ h
theorem monoS_seq {m n : MS} (h : MonoS m) (h' : MonoS n) : MonoS (sSeq m n) := fun ρ k k' l q => h ρ { k with nx := fun ρ' => n ρ' k } { k' with nx := fun ρ' => n ρ' k' } ⟨fun _ q => h' _ _ _ l q, l.rt, l.bk, l.ct, l.ex⟩ q
theorem monoS_expr {m : ME} (h : Mono m) : MonoS (sExpr m) := fun ρ k k' l q => h _ _ _ _ _ (fun _ _ q => l.nx _ q) l.ex q
theorem monoS_ret {m : ME} (h : Mono m) : MonoS (sRet m) := fun ρ k k' l q => h _ _ _ _ _ (fun _ _ q => l.rt _ _ q) l.ex q
theorem monoS_retN : MonoS sRetN := fun ρ k k' l q => l.rt _ _ q
theorem monoS_brk : MonoS sBrk := fun ρ k k' l q => l.bk _ q
theorem monoS_cnt : MonoS sCnt := fun ρ k k' l q => l.ct _ q
theorem monoS_never : MonoS sNever := fun ρ k k' l q => q
theorem monoS_ite {t : MB} {m n : MS} (ht : Mono t) (h : MonoS m) (h' : MonoS n) : MonoS (sIte t m n) := fun ρ k k' l => ht _ _ _ _ _ (fun b _ q => by
  cases b with
  | true => exact h _ _ _ l q
  | false => exact h' _ _ _ l q) l.ex
section
variable {X : Cx} {c : Cf} {W : WX} {pos : Pos} {st : Stmt} {rest : List Stmt} {m n : MS} {e : Expr} {me : ME}
theorem sss_nil : SSs X c W [] sSkip := ⟨⟨fun pins s σ H D I ⟨ρ, R, q⟩ => (pss_nil (X := X)).run pins s σ H D I (q σ H R)⟩, monoS_skip⟩
theorem seq_core {D : Ends} {σ : L2.St} {H : Hp} (h : rdS X.K X.mg c W (sSeq m n) D σ H) (hm : MonoS m) : tSeq (rdS X.K X.mg c W m) (rdS X.K X.mg c W n) D σ H := by
  obtain ⟨ρ, R, q⟩ := h
  exact ⟨ρ, R, hm ρ { ksOf X.K X.mg c W D with nx := fun ρ' => n ρ' (ksOf X.K X.mg c W D) } _ ⟨fun ρ' q σ' H' R' => ⟨ρ', R', q⟩, fun _ _ h => h, fun _ h => h, fun _ h => h, fun _ _ h => h⟩ q⟩
theorem sss_cons (h1 : SS X c W st m) (h2 : SSs X c W rest n) : SSs X c W (st :: rest) (sSeq m n) :=
  ⟨⟨fun pins s σ H D I q => (pss_cons h1.run h2.run).run pins s σ H D I (seq_core q h1.mo)⟩, monoS_seq h1.mo h2.mo⟩
theorem sss_one (h1 : SS X c W st m) : SSs X c W [st] m := ⟨pss_one h1.run, h1.mo⟩
theorem ss_pass : SS X c W (.Pass pos) sSkip := ss_of ps_pass monoS_skip fun D σ H ⟨ρ, R, q⟩ => q σ H R
theorem ss_doc {x : Str} {j : Nat} {p2 : Pos} : SS X c W (.Expr (.Constant (.str x) j p2) pos) sSkip := ss_of ps_doc monoS_skip fun D σ H ⟨ρ, R, q⟩ => q σ H R
theorem ss_break : SS X c W (.Break pos) sBrk := ss_of ps_break monoS_brk fun D σ H ⟨ρ, R, q⟩ => q σ H R
theorem ss_continue : SS X c W (.Continue pos) sCnt := ss_of ps_continue monoS_cnt fun D σ H ⟨ρ, R, q⟩ => q σ H R
theorem ss_never : SS X c W st sNever := ss_of ps_never monoS_never fun D σ H ⟨ρ, R, q⟩ => q
theorem ss_expr (h : SE X c W e me) (hs : swapsWith e none pos.line X.env = pure false := by rfl) : SS X c W (.Expr e pos) (sExpr me) := by
  refine ss_of (ps_expr h.run hs) (monoS_expr h.mo) fun D σ H ⟨ρ, R, q⟩ => ?_
  exact ⟨c.T0, ρ, R, h.mo _ _ _ _ _ (fun r ρ' q v H' hr => q σ H' (Res.opr hr).1) (fun x ρ' q => kx_of (T := c.T0) q) q⟩
theorem ss_ret (h : SE X c W e me) : SS X c W (.Return (some e) pos) (sRet me) := by
  refine ss_of (ps_ret h.run) (monoS_ret h.mo) fun D σ H ⟨ρ, R, q⟩ => ?_
  exact ⟨c.T0, ρ, R, h.mo _ _ _ _ _ (fun r ρ' q v H' hr => q v σ H' (hr.le R.base)) (fun x ρ' q => kx_of (T := c.T0) q) q⟩
theorem ss_retN : SS X c W (.Return none pos) sRetN := ss_of ps_retN monoS_retN fun D σ H ⟨ρ, R, q⟩ => q .non σ H ⟨R, R.base, .non⟩
theorem ss_if {t : Expr} {a b : List Stmt} {mt : MB} (ht : ST X c W t mt) (ha : SSs X c W a m) (hb : SSs X c W b n) : SS X c W (.If t a b pos) (sIte mt m n) := by
  refine ss_of (ps_if ht.run ha.run hb.run) (monoS_ite ht.mo ha.mo hb.mo) fun D σ H ⟨ρ, R, q⟩ => ?_
  refine ⟨c.T0, ρ, R, ht.mo _ _ _ _ _ (fun b ρ' q H' ⟨R', _⟩ => ?_) (fun x ρ' q => kx_of (T := c.T0) q) q⟩
  cases b with
  | true => exact ⟨ρ', R', q⟩
  | false => exact ⟨ρ', R', q⟩
end

/-! ### a slot is stored -/
section
variable {K : PySem.W.Frag} {c : Cf} {T : List (Addr × HO)} {ρ : Env} {σ : L2.St} {H : Hp} {i : Nat} {d : D} {v : V}
theorem own_store {s : Sl} {j : Nat} {b : Addr} (h : OwnAt (ρ.set i s) (σ.set i (some v)) j b) : (j ≠ i ∧ OwnAt ρ σ j b) ∨ (j = i ∧ v = .ref b ∧ ∃ d, s = .ow d) := by
  obtain ⟨⟨d, e⟩, e2⟩ := h
  by_cases hj : j = i
  · subst hj
    have h1 : j < ρ.length := by simpa using (List.getElem?_eq_some_iff.mp e).1
    have h2 : j < σ.length := by simpa using (List.getElem?_eq_some_iff.mp e2).1
    rw [List.getElem?_set_self h1] at e
    rw [List.getElem?_set_self h2] at e2
    cases e; cases e2
    exact .inr ⟨rfl, rfl, d, rfl⟩
  · rw [List.getElem?_set_ne (Ne.symm hj)] at e e2
    exact .inl ⟨hj, ⟨d, e⟩, e2⟩
theorem store_io {s : Sl} {x : V} (R : Rel K c T ρ σ H) (hio : c.io = none ∨ i ≠ 0) : ∀ a, c.io = some a → OwnAt (ρ.set i s) (σ.set i (some x)) 0 a := fun b eb => by
  rcases hio with h | h
  · rw [h] at eb; cases eb
  · obtain ⟨⟨d', e'⟩, e2⟩ := R.io b eb
    exact ⟨⟨d', by rw [List.getElem?_set_ne h]; exact e'⟩, by rw [List.getElem?_set_ne h]; exact e2⟩
/-- a shared value (or nothing known) -/
theorem Rel.store {s : Sl} (R : Rel K c T ρ σ H) (hio : c.io = none ∨ i ≠ 0) (hs : s = .no ∨ ∃ d, s = .sh d ∧ Rp K (Fr T ρ σ H) v d) : Rel K c T (ρ.set i s) (σ.set i (some v)) H ∧ Le (Fr T ρ σ H) (Fr T (ρ.set i s) (σ.set i (some v)) H) := by
  have nw : ∀ d, s ≠ .ow d := fun d e => by
    rcases hs with h | ⟨d', h, _⟩ <;> · rw [h] at e; cases e
  have od : ∀ {j b}, OwnAt (ρ.set i s) (σ.set i (some v)) j b → OwnAt ρ σ j b := fun h => by
    rcases own_store h with q | ⟨_, _, d, e⟩
    · exact q.2
    · exact absurd e (nw d)
  have l : Le (Fr T ρ σ H) (Fr T (ρ.set i s) (σ.set i (some v)) H) := fz_mono (fun a _ h => by
    rcases h with ⟨j, h⟩ | h
    · exact .inl ⟨j, od h⟩
    · exact .inr h) Le.refl
  refine ⟨⟨by simpa using R.len, fun x y b hx hy => R.inj x y b (od hx) (od hy), fun x b o hx => R.dis x b o (od hx), R.tst, fun j t ej => ?_, R.base.trans l, store_io R hio, R.t0⟩, l⟩
  by_cases hj : j = i
  · subst hj
    have h1 : j < ρ.length := by simpa using (List.getElem?_eq_some_iff.mp ej).1
    rw [List.getElem?_set_self h1] at ej
    cases ej
    rcases hs with h | ⟨d', h, r⟩
    · subst h; trivial
    · subst h
      exact ⟨v, by rw [List.getElem?_set_self (by rw [← R.len]; exact h1)], r.le l⟩
  · rw [List.getElem?_set_ne (Ne.symm hj)] at ej
    have q := (R.sl j t ej).le l (H' := H) (fun _ _ _ _ => rfl)
    cases t with
    | no => trivial
    | sh d => obtain ⟨w, e, r⟩ := q; exact ⟨w, by rw [List.getElem?_set_ne (Ne.symm hj)]; exact e, r⟩
    | ow d => obtain ⟨w, e, r⟩ := q; exact ⟨w, by rw [List.getElem?_set_ne (Ne.symm hj)]; exact e, r⟩
    | sc ns => obtain ⟨w, e, r⟩ := q; exact ⟨w, by rw [List.getElem?_set_ne (Ne.symm hj)]; exact e, r⟩
    | rf v => exact (List.getElem?_set_ne (Ne.symm hj)).trans q
/-- a new thing becomes the slot's own -/
theorem Rel.storeO {p : Addr} {o : HO} (R : Rel K c ((p, o) :: T) ρ σ H) (hn : ∀ u, (p, u) ∉ T) (ob : Ob K (Fr ((p, o) :: T) ρ σ H) (some o) d) (hio : c.io = none ∨ i ≠ 0) :
    Rel K c T (ρ.set i (.ow d)) (σ.set i (some (.ref p))) H ∧ Le (Fr ((p, o) :: T) ρ σ H) (Fr T (ρ.set i (.ow d)) (σ.set i (some (.ref p))) H) := by
  have od : ∀ {j b}, OwnAt (ρ.set i (.ow d)) (σ.set i (some (.ref p))) j b → (j ≠ i ∧ OwnAt ρ σ j b) ∨ (j = i ∧ b = p) := fun h => by
    rcases own_store h with q | ⟨h1, h2, _⟩
    · exact .inl q
    · cases h2; exact .inr ⟨h1, rfl⟩
  have pn : ∀ {j}, ¬ OwnAt ρ σ j p := fun h => R.dis _ _ _ h List.mem_cons_self
  have l : Le (Fr ((p, o) :: T) ρ σ H) (Fr T (ρ.set i (.ow d)) (σ.set i (some (.ref p))) H) := fz_mono (fun a _ h => by
    rcases h with ⟨j, h⟩ | ⟨u, h⟩
    · rcases od h with h | h
      · exact .inl ⟨j, h.2⟩
      · rw [h.2]; exact .inr ⟨o, List.mem_cons_self⟩
    · exact .inr ⟨u, List.mem_cons_of_mem _ h⟩) Le.refl
  refine ⟨⟨by simpa using R.len, fun x y b hx hy => ?_, fun x b u hx hm => ?_, fun a u h => R.tst a u (List.mem_cons_of_mem _ h), fun j t ej => ?_, R.base.trans l, store_io R hio, fun q b => ⟨fun h => (R.t0 q b).mp (List.mem_cons_of_mem _ h), fun h => drop_head ob.mt ((R.t0 q b).mpr h) b⟩⟩, l⟩
  · rcases od hx with h1 | h1 <;> rcases od hy with h2 | h2
    · exact R.inj x y b h1.2 h2.2
    · exact absurd (h2.2 ▸ h1.2) pn
    · exact absurd (h1.2 ▸ h2.2) pn
    · exact h1.1.trans h2.1.symm
  · rcases od hx with h1 | h1
    · exact R.dis x b u h1.2 (List.mem_cons_of_mem _ hm)
    · exact hn u (h1.2 ▸ hm)
  · by_cases hj : j = i
    · subst hj
      have h1 : j < ρ.length := by simpa using (List.getElem?_eq_some_iff.mp ej).1
      rw [List.getElem?_set_self h1] at ej
      cases ej
      exact ⟨p, by rw [List.getElem?_set_self (by rw [← R.len]; exact h1)], by rw [(R.tst p o List.mem_cons_self).at ob.mt.1]; exact ob.le l⟩
    · rw [List.getElem?_set_ne (Ne.symm hj)] at ej
      have q := (R.sl j t ej).le l (H' := H) (fun _ _ _ _ => rfl)
      cases t with
      | no => trivial
      | sh d => obtain ⟨w, e, r⟩ := q; exact ⟨w, by rw [List.getElem?_set_ne (Ne.symm hj)]; exact e, r⟩
      | ow d => obtain ⟨w, e, r⟩ := q; exact ⟨w, by rw [List.getElem?_set_ne (Ne.symm hj)]; exact e, r⟩
      | sc ns => obtain ⟨w, e, r⟩ := q; exact ⟨w, by rw [List.getElem?_set_ne (Ne.symm hj)]; exact e, r⟩
      | rf v => exact (List.getElem?_set_ne (Ne.symm hj)).trans q
end

/-- name = value -/
def put (i : Nat) (r : Rs) (ρ : Env) (k : Env → Prop) : Prop :=
  match r with
  | .vl d => k (ρ.set i (.sh d))
  | .fr d => k (ρ.set i (.ow d))
  | .bo _ => False
def sAsg (i : Nat) (m : ME) : MS := fun ρ k => m ρ (fun r ρ' => put i r ρ' k.nx) k.ex
theorem put_mono {i : Nat} {r : Rs} {ρ : Env} {k k' : Env → Prop} (h : ∀ ρ, k ρ → k' ρ) (q : put i r ρ k) : put i r ρ k' := by
  cases r <;> first | exact h _ q | exact q.elim
theorem monoS_asg {i : Nat} {m : ME} (h : Mono m) : MonoS (sAsg i m) := fun ρ k k' l q => h _ _ _ _ _ (fun _ _ q => put_mono l.nx q) l.ex q
section
variable {X : Cx} {c : Cf} {W : WX} {pos : Pos} {e : Expr} {me : ME} {i : Nat} {x : Str} {p2 : Pos}
theorem put_ok {K : PySem.W.Frag} {T : List (Addr × HO)} {F0 : Hp} {ρ : Env} {σ : L2.St} {H : Hp} {r : Rs} {v : V} {k : Env → Prop} (hr : Res K c T F0 ρ σ H r v) (q : put i r ρ k) (hio : c.io = none ∨ i ≠ 0) : ∃ ρ', k ρ' ∧ Rel K c T ρ' (σ.set i (some v)) H ∧ Le F0 (Fr T ρ' (σ.set i (some v)) H) := by
  cases r with
  | vl d =>
    obtain ⟨R, l, rp⟩ := hr
    obtain ⟨R', l'⟩ := R.store (s := .sh d) hio (.inr ⟨d, rfl, rp⟩)
    exact ⟨_, q, R', l.trans l'⟩
  | fr d =>
    obtain ⟨p, o, rfl, R, hn, l, ob⟩ := hr
    obtain ⟨R', l'⟩ := R.storeO hn ob hio
    exact ⟨_, q, R', l.trans l'⟩
  | bo j => exact q.elim
theorem asg_core {D : Ends} {σ : L2.St} {H : Hp} (hm : Mono me) (hio : c.io = none ∨ i ≠ 0) (h : rdS X.K X.mg c W (sAsg i me) D σ H) : tAsg (rdE X.K X.mg c W me) (gName i) D σ H := by
  obtain ⟨ρ, R, q⟩ := h
  refine ⟨c.T0, ρ, R, hm _ _ _ _ _ (fun r ρ' q v H' hr => ?_) (fun x ρ' q => kx_of (T := c.T0) q) q⟩
  obtain ⟨ρ2, q2, R2, _⟩ := put_ok hr q hio
  exact q2 _ _ R2
theorem ss_asg (hN : X.N.Nodup) (hi : X.N[i]? = some x) (hx : Loc X.env.scope x) (hio : c.io = none ∨ i ≠ 0) (he : SE X c W e me) (hs : swapsWith e (some (.Name x p2)) pos.line X.env = pure false := by rfl) (hf : X.fn x = true ∨ X.env.scope.names.lookup x = some .local := by first | exact .inl rfl | exact .inr rfl | assumption) :
    SS X c W (.Assign [.Name x p2] e pos) (sAsg i me) :=
  ss_of (ps_set hN hi hx he.run hs hf) (monoS_asg he.mo) fun _ _ _ h => asg_core he.mo hio h
end

/-! ### targets of tuples -/
mutual
inductive Tg where
  | nm (i : Nat)
  | tp (l : TgL)
inductive TgL where
  | nil
  | cons (t : Tg) (l : TgL)
end
mutual
def Tg.slots : Tg → List Nat
  | .nm i => [i]
  | .tp l => TgL.slots l
def TgL.slots : TgL → List Nat
  | .nil => []
  | .cons t l => Tg.slots t ++ TgL.slots l
end
def TgL.len : TgL → Nat
  | .nil => 0
  | .cons _ l => TgL.len l + 1
mutual
/-- a shared datum stored in a target -/
def Tg.put : Tg → D → Env → (Env → Prop) → Prop
  | .nm i, d, ρ, k => k (ρ.set i (.sh d))
  | .tp l, d, ρ, k => match d with
    | .tuple ds => ds.length = l.len ∧ TgL.put l ds ρ k
    | .list ds => ds.length = l.len ∧ TgL.put l ds ρ k
    | _ => False
def TgL.put : TgL → List D → Env → (Env → Prop) → Prop
  | .nil, ds, ρ, k => match ds with
    | [] => k ρ
    | _ :: _ => False
  | .cons t l, ds, ρ, k => match ds with
    | d :: ds => Tg.put t d ρ fun ρ' => TgL.put l ds ρ' k
    | [] => False
end
mutual
theorem Tg.put_mono : ∀ (t : Tg) (d : D) (ρ : Env) (k k' : Env → Prop), (∀ ρ, k ρ → k' ρ) → Tg.put t d ρ k → Tg.put t d ρ k'
  | .nm i, d, ρ, k, k', h, q => h _ q
  | .tp l, d, ρ, k, k', h, q => by
    cases d <;> simp only [Tg.put] at q ⊢
    · exact ⟨q.1, TgL.put_mono l _ ρ k k' h q.2⟩
    · exact ⟨q.1, TgL.put_mono l _ ρ k k' h q.2⟩
theorem TgL.put_mono : ∀ (l : TgL) (ds : List D) (ρ : Env) (k k' : Env → Prop), (∀ ρ, k ρ → k' ρ) → TgL.put l ds ρ k → TgL.put l ds ρ k'
  | .nil, ds, ρ, k, k', h, q => by
    cases ds <;> simp only [TgL.put] at q ⊢
    exact h _ q
  | .cons t l, ds, ρ, k, k', h, q => by
    cases ds <;> simp only [TgL.put] at q ⊢
    exact Tg.put_mono t _ ρ _ _ (fun ρ' q => TgL.put_mono l _ ρ' k k' h q) q
end
/-- stored from the slots on: only these change -/
structure Put (σ σ' : L2.St) (vs : List Nat) : Prop where
  len : σ'.length = σ.length
  same : ∀ i, i ∉ vs → σ'[i]? = σ[i]?
theorem Put.refl {σ : L2.St} {vs : List Nat} : Put σ σ vs := ⟨rfl, fun _ _ => rfl⟩
theorem Put.trans {σ σ1 σ2 : L2.St} {vs ws : List Nat} (a : Put σ σ1 vs) (b : Put σ1 σ2 ws) : Put σ σ2 (vs ++ ws) :=
  ⟨b.len.trans a.len, fun i hi => (b.same i fun h => hi (List.mem_append_right _ h)).trans (a.same i fun h => hi (List.mem_append_left _ h))⟩
section
variable (K : PySem.W.Frag) (c : Cf)
def gRd (t : Tg) : TG := fun v σ H Q => ∃ T ρ d, Rel K c T ρ σ H ∧ Rp K (Fr T ρ σ H) v d ∧ Tg.put t d ρ (fun ρ' => ∀ σ', Rel K c T ρ' σ' H → Le (Fr T ρ σ H) (Fr T ρ' σ' H) → Put σ σ' t.slots → Q σ' H)
def gRdL (l : TgL) : TGs := fun vs σ H Q => ∃ T ρ ds, Rel K c T ρ σ H ∧ RpA K (Fr T ρ σ H) vs ds ∧ TgL.put l ds ρ (fun ρ' => ∀ σ', Rel K c T ρ' σ' H → Le (Fr T ρ σ H) (Fr T ρ' σ' H) → Put σ σ' l.slots → Q σ' H)
end
structure SG (X : Cx) (c : Cf) (tg : Expr) (t : Tg) : Prop where
  run : PG X tg (gRd X.K c t)
structure SGs (X : Cx) (c : Cf) (ts : List Expr) (l : TgL) : Prop where
  run : PGs X ts (gRdL X.K c l)
  n : ts.length = l.len
section
variable {X : Cx} {c : Cf} {W : WX} {pos : Pos} {i : Nat} {x : Str} {ts : List Expr} {tg : Expr} {t : Tg} {l : TgL}
theorem sg_name (hN : X.N.Nodup) (hi : X.N[i]? = some x) (hx : Loc X.env.scope x) (hio : c.io = none ∨ i ≠ 0) (hf : X.fn x = true ∨ X.env.scope.names.lookup x = some .local := by first | exact .inl rfl | exact .inr rfl | assumption) : SG X c (.Name x pos) (.nm i) := by
  refine ⟨⟨fun pins s σ H v u Q I r ⟨T, ρ, d, R, rp, q⟩ => (pg_name hN hi hx hf).run pins s σ H v u Q I r ?_⟩⟩
  obtain ⟨R', l'⟩ := R.store (i := i) (s := .sh d) hio (.inr ⟨d, rfl, rp⟩)
  exact q _ R' l' ⟨by simp, fun j hj => by rw [List.getElem?_set_ne (fun e => hj (by simp [Tg.slots, e]))]⟩
theorem sgs_nil : SGs X c [] .nil := by
  refine ⟨⟨fun pins s σ H vs us Q I r ⟨T, ρ, ds, R, rp, q⟩ => (pgs_nil (X := X)).run pins s σ H vs us Q I r ?_⟩, rfl⟩
  cases rp with
  | nil => exact ⟨rfl, q σ R Le.refl Put.refl⟩
  | cons _ _ => exact q.elim
theorem sgs_cons (h1 : SG X c tg t) (h2 : SGs X c ts l) (hs : (assignEach (tg :: ts) X.env).map (·.2) = assign tg X.env :: (assignEach ts X.env).map (·.2) := by rfl) : SGs X c (tg :: ts) (.cons t l) := by
  refine ⟨⟨fun pins s σ H vs us Q I r ⟨T, ρ, ds, R, rp, q⟩ => (pgs_cons h1.run h2.run hs).run pins s σ H vs us Q I r ?_⟩, by simp [TgL.len, h2.n]⟩
  cases rp with
  | nil => exact q.elim
  | cons a b =>
    refine ⟨_, _, rfl, T, ρ, _, R, a, Tg.put_mono _ _ _ _ _ (fun ρ1 q1 σ1 R1 l1 p1 => ?_) q⟩
    refine ⟨T, ρ1, _, R1, b.le l1, TgL.put_mono _ _ _ _ _ (fun ρ2 q2 σ2 R2 l2 p2 => q2 σ2 R2 (l1.trans l2) ?_) q1⟩
    exact p1.trans p2
theorem sg_tup {k : Nat} (hc : X.calm = true) (h : SGs X c ts l) (hn : (assignEach ts X.env).length = l.len := by rfl) (hst : (assignEach ts X.env).findIdx? (·.1) = none := by rfl) : SG X c (.Tuple ts k pos) (.tp l) := by
  refine ⟨⟨fun pins s σ H v u Q I r ⟨T, ρ, d, R, rp, q⟩ => ?_⟩⟩
  cases d <;> simp only [Tg.put] at q
  · obtain ⟨a, xs, rfl, e, r'⟩ := (Op.list (K := X.K) fr_le (.sh rp))
    exact (pg_unl (n := l.len) hc h.run hn hst).run pins s σ H _ u Q I r ⟨_, _, rfl, SqL.of e, by rw [r'.length]; exact q.1, T, ρ, _, R, r', q.2⟩
  · refine (pg_tup (n := l.len) hc h.run hn hst).run pins s σ H v u Q I r ?_
    cases rp with
    | tup e r' => exact ⟨_, _, rfl, sqT_le e fr_le, by rw [r'.length]; exact q.1, T, ρ, _, R, r', q.2⟩
end

section
variable {K : PySem.W.Frag} {mg : Str → Option Value} {c : Cf} {T T' : List (Addr × HO)} {ρ : Env} {σ : L2.St} {H F F' : Hp}
theorem exR_le {x : Ex} {cls : Value} {d : Option Addr} (l : Le F F') (h : ExR K mg F x cls d) : ExR K mg F' x cls d := by
  obtain ⟨C, h1, h2, h3⟩ := h
  refine ⟨C, h1, h2, h3.imp id fun ⟨dd, fs, a, n, b, e, r⟩ => ⟨dd, fs, a, n, l _ _ b, e, r.le l⟩⟩
theorem prot_perm (h : ∀ x, x ∈ T ↔ x ∈ T') {a : Addr} : Prot T ρ σ a ↔ Prot T' ρ σ a := by
  unfold Prot
  exact or_congr Iff.rfl (exists_congr fun o => h _)
theorem fr_perm (h : ∀ x, x ∈ T ↔ x ∈ T') : Fr T ρ σ H = Fr T' ρ σ H := by
  funext a
  by_cases q : Prot T ρ σ a
  · exact (fz_yes q).trans (fz_yes ((prot_perm h).mp q)).symm
  · exact (fz_no q).trans (fz_no fun z => q ((prot_perm h).mpr z)).symm
theorem Rel.perm (h : ∀ x, x ∈ T ↔ x ∈ T') (R : Rel K c T ρ σ H) : Rel K c T' ρ σ H :=
  ⟨R.len, R.inj, fun i a o q m => R.dis i a o q ((h _).mpr m), fun a o m => R.tst a o ((h _).mpr m), fun i s e => by rw [← fr_perm h]; exact R.sl i s e, by rw [← fr_perm h]; exact R.base, R.io, fun p b => (h p).symm.trans (R.t0 p b)⟩
theorem mem_swap {p q : Addr × HO} : ∀ x, x ∈ p :: q :: T ↔ x ∈ q :: p :: T := fun x => by
  simp only [List.mem_cons]
  exact ⟨fun h => by rcases h with h | h | h <;> simp [h], fun h => by rcases h with h | h | h <;> simp [h]⟩
end
/-- target = value, the value shared -/
def sAsgT (t : Tg) (m : ME) : MS := fun ρ k => m ρ (fun r ρ' => ∃ d, val r = some d ∧ Tg.put t d ρ' k.nx) k.ex
theorem monoS_asgT {t : Tg} {m : ME} (h : Mono m) : MonoS (sAsgT t m) := fun ρ k k' l q => h _ _ _ _ _ (fun _ _ ⟨d, e, q⟩ => ⟨d, e, Tg.put_mono _ _ _ _ _ l.nx q⟩) l.ex q
/-- a, b = x, y: both values, then both stores -/
def sPar (i j : Nat) (ma mb : ME) : MS := fun ρ k => ma ρ (fun ra ρ1 => mb ρ1 (fun rb ρ2 => put i ra ρ2 fun ρ3 => put j rb ρ3 k.nx) k.ex) k.ex
theorem monoS_par {i j : Nat} {ma mb : ME} (h : Mono ma) (h' : Mono mb) : MonoS (sPar i j ma mb) := fun ρ k k' l q => h _ _ _ _ _ (fun _ _ q => h' _ _ _ _ _ (fun _ _ q => put_mono (fun _ q => put_mono l.nx q) q) l.ex q) l.ex q
/-- name op= value -/
def sAug (i : Nat) (s : S2) (m : ME) : MS := fun ρ k => ∃ d, ρ[i]? = some (.sh d) ∧ m ρ (fun r ρ' => ∃ e, res ρ' r = some e ∧ s d e fun rr => put i rr ρ' k.nx) k.ex
theorem monoS_aug {i : Nat} {s : S2} {m : ME} (hs : Mono2 s) (h : Mono m) : MonoS (sAug i s m) := fun ρ k k' l ⟨d, e, q⟩ => ⟨d, e, h _ _ _ _ _ (fun _ _ ⟨e, a, q⟩ => ⟨e, a, hs _ _ _ _ (fun _ q => put_mono l.nx q) q⟩) l.ex q⟩
section
variable {X : Cx} {c : Cf} {W : WX} {pos : Pos} {e a b : Expr} {me ma mb : ME} {i j : Nat} {x y : Str} {tg : Expr} {t : Tg}
theorem ss_asgT (he : SE X c W e me) (hg : SG X c tg t) (hs : swapsWithSole [tg] e pos.line X.env = pure false := by rfl) (hw : swappedStores [tg] e X.env = pure none := by rfl)
    (h1 : (assignEach [tg] X.env).map (·.2) = [assign tg X.env] := by rfl) : SS X c W (.Assign [tg] e pos) (sAsgT t me) := by
  refine ss_of (ps_asg he.run hg.run hs hw h1) (monoS_asgT he.mo) fun D σ H ⟨ρ, R, q⟩ => ?_
  refine ⟨c.T0, ρ, R, he.mo _ _ _ _ _ (fun r ρ' ⟨d, ed, q⟩ v H' hr => ?_) (fun x ρ' q => kx_of (T := c.T0) q) q⟩
  obtain ⟨R1, l1, o1⟩ := hr.opr
  exact ⟨c.T0, ρ', d, R1, o1.rp ed, Tg.put_mono _ _ _ _ _ (fun ρ2 q2 σ2 R2 l2 _ => q2 σ2 H' R2) q⟩
theorem ss_par {px py pt pt2 : Pos} {kt k2 : Nat} (hc : X.calm = true) (hN : X.N.Nodup) (hi : X.N[i]? = some x) (hj : X.N[j]? = some y) (hij : i ≠ j) (hx : X.env.scope.names.lookup x = some .local) (hy : X.env.scope.names.lookup y = some .local)
    (hio : c.io = none ∨ (i ≠ 0 ∧ j ≠ 0)) (ha : SE X c W a ma) (hb : SE X c W b mb) (hw : swappedStores [.Tuple [.Name x px, .Name y py] kt pt] (.Tuple [a, b] k2 pt2) X.env = pure (some [x, y]))
    (hs : swapsWithSole [.Tuple [.Name x px, .Name y py] kt pt] (.Tuple [a, b] k2 pt2) pos.line X.env = pure false := by rfl)
    (h1 : starEach [a, b] X.env = (false, eval a X.env) :: starEach [b] X.env := by rfl) (h2 : starEach [b] X.env = (false, eval b X.env) :: starEach [] X.env := by rfl) :
    SS X c W (.Assign [.Tuple [.Name x px, .Name y py] kt pt] (.Tuple [a, b] k2 pt2) pos) (sPar i j ma mb) := by
  refine ss_of (ps_par hc hN hi hj hij hx hy (pa_cons ha.run (pa_cons hb.run pa_nil h2) h1) hw hs) (monoS_par ha.mo hb.mo) fun D σ H ⟨ρ, R, q⟩ => ?_
  have io1 : c.io = none ∨ i ≠ 0 := hio.imp id (·.1)
  have io2 : c.io = none ∨ j ≠ 0 := hio.imp id (·.2)
  refine ⟨c.T0, ρ, R, ha.mo _ _ _ _ _ (fun ra ρ1 q v H1 hr => ?_) (fun x ρ' q => kx_of (T := c.T0) q) q⟩
  -- the first value is held while the second one is reckoned
  cases ra with
  | vl d =>
    obtain ⟨R1, l1, rp1⟩ := hr
    refine ⟨c.T0, ρ1, R1, hb.mo _ _ _ _ _ (fun rb ρ2 q w H2 hr2 => ?_) (fun x ρ' q => kx_of (T := c.T0) q) q⟩
    refine ⟨v, w, rfl, ?_⟩
    have q' : put i (.vl d) ρ2 fun ρ3 => put j rb ρ3 (ksOf X.K X.mg c W D).nx := q
    have fin : ∀ {F : Hp}, Res X.K c c.T0 F (ρ2.set i (.sh d)) (σ.set i (some v)) H2 rb w → D.nx ((σ.set i (some v)).set j (some w)) H2 := fun h => by
      obtain ⟨ρ3, q3, R3, _⟩ := put_ok h q' io2
      exact q3 _ _ R3
    cases rb with
    | vl e =>
      obtain ⟨R2, l2, rp2⟩ := hr2
      obtain ⟨R3, l3⟩ := R2.store (i := i) (s := .sh d) io1 (.inr ⟨d, rfl, rp1.le l2⟩)
      exact fin ⟨R3, l3, rp2.le l3⟩
    | fr e =>
      obtain ⟨p, o, rfl, R2, hn, l2, ob⟩ := hr2
      obtain ⟨R3, l3⟩ := R2.store (i := i) (s := .sh d) io1 (.inr ⟨d, rfl, rp1.le l2⟩)
      exact fin ⟨p, o, rfl, R3, hn, l3, ob.le l3⟩
    | bo e => exact q'.elim
  | fr d =>
    obtain ⟨p, o, rfl, R1, hn1, l1, ob1⟩ := hr
    refine ⟨((p, o) :: c.T0), ρ1, R1, hb.mo _ _ _ _ _ (fun rb ρ2 q w H2 hr2 => ?_) (fun x ρ' q cls dd H' RR ll er => q cls dd σ H' (RR.thaw ob1.mt) (exR_le fr_thaw er)) q⟩
    refine ⟨_, w, rfl, ?_⟩
    have q' : put i (.fr d) ρ2 fun ρ3 => put j rb ρ3 (ksOf X.K X.mg c W D).nx := q
    have fin : ∀ {F : Hp}, Res X.K c c.T0 F (ρ2.set i (.ow d)) (σ.set i (some (.ref p))) H2 rb w → D.nx ((σ.set i (some (.ref p))).set j (some w)) H2 := fun h => by
      obtain ⟨ρ3, q3, R3, _⟩ := put_ok h q' io2
      exact q3 _ _ R3
    cases rb with
    | vl e =>
      obtain ⟨R2, l2, rp2⟩ := hr2
      obtain ⟨R3, l3⟩ := R2.storeO (i := i) (d := d) hn1 (ob1.le l2) io1
      exact fin ⟨R3, l3, rp2.le l3⟩
    | fr e =>
      obtain ⟨p2, o2, rfl, R2, hn, l2, ob⟩ := hr2
      obtain ⟨R3, l3⟩ := (R2.perm mem_swap).storeO (i := i) (d := d) (fun u h => by
        rcases List.mem_cons.mp h with z | z
        · cases z; exact hn o List.mem_cons_self
        · exact hn1 _ z) (by rw [← fr_perm mem_swap]; exact ob1.le l2) io1
      rw [← fr_perm mem_swap] at l3
      exact fin ⟨p2, o2, rfl, R3, (fun u h => hn u (List.mem_cons_of_mem _ h)), l3, ob.le l3⟩
    | bo e => exact q'.elim
  | bo d => exact ⟨c.T0, ρ1, hr.1, hb.mo _ _ _ _ _ (fun rb ρ2 q => q.elim) (fun x ρ' q => kx_of (T := c.T0) q) q⟩
def s_iadd : S2 := fun d e k => match d, e with
  | .int i, .int j => k (.vl (.int (i + j)))
  | .str x, .str y => x.length + y.length ≤ sizeLine ∧ k (.vl (.str (x ++ y)))
  | _, _ => False
theorem m_iadd : Mono2 s_iadd := by
  intro d e k k' h q
  cases d <;> cases e <;> first | exact q.elim | exact h _ q | exact ⟨q.1, h _ q.2⟩
def r_iadd : R2 := fun x y H Q => (rI0 fun i j => .int (i + j)) x y H Q ∨ (∃ i j, x = .str i ∧ y = .str j ∧ i.length + j.length ≤ sizeLine ∧ Q (.str (i ++ j)) H)
theorem os_iadd {K : PySem.W.Frag} : OpS K r_iadd s_iadd := by
  intro c T ρ σ H x y d e Q R hx hy q
  cases d <;> cases e <;> first | exact q.elim | skip
  · cases hx.int; cases hy.int
    exact .inl ⟨_, _, rfl, rfl, q _ _ (res_vl R (.int _))⟩
  · cases hx.str; cases hy.str
    exact .inr ⟨_, _, rfl, rfl, q.1, q.2 _ _ (res_vl R (.str _))⟩
theorem os_isub {K : PySem.W.Frag} : OpS K (rI0 fun i j => .int (i - j)) s_sub := os_sub
theorem ss_augC {p2 : Pos} {op : Operator} {r : R2} {s : S2} (ho : OpR X (inplaceOp op) r) (os : OpS X.K r s) (hs : Mono2 s) (hN : X.N.Nodup) (hi : X.N[i]? = some x) (hx : Loc X.env.scope x) (hio : c.io = none ∨ i ≠ 0) (he : SE X c W e me)
    (hf : X.fn x = true ∨ X.env.scope.names.lookup x = some .local := by first | exact .inl rfl | exact .inr rfl | assumption) : SS X c W (.AugAssign (.Name x p2) op e pos) (sAug i s me) := by
  refine ss_of (ps_aug (ti := r) hN hi hx he.run ho hf) (monoS_aug hs he.mo) fun D σ H ⟨ρ, R, d, ed, q⟩ => ?_
  obtain ⟨v, ev, rp⟩ := R.sl i _ ed
  refine ⟨v, ev, c.T0, ρ, R, he.mo _ _ _ _ _ (fun r1 ρ1 ⟨e, e1, q⟩ w H1 hr => ?_) (fun x ρ' q => kx_of (T := c.T0) q) q⟩
  obtain ⟨R1, l1, o1⟩ := hr.opr
  refine os c c.T0 ρ1 σ H1 v w d e _ R1 (.sh (rp.le l1)) (o1.op R1 e1) (hs _ _ _ _ (fun rr q z H2 hr2 => ?_) q)
  obtain ⟨ρ3, q3, R3, _⟩ := put_ok hr2 q hio
  exact q3 _ _ R3
theorem ss_augAdd {p2 : Pos} (hN : X.N.Nodup) (hi : X.N[i]? = some x) (hx : Loc X.env.scope x) (hio : c.io = none ∨ i ≠ 0) (he : SE X c W e me)
    (hf : X.fn x = true ∨ X.env.scope.names.lookup x = some .local := by first | exact .inl rfl | exact .inr rfl | assumption) : SS X c W (.AugAssign (.Name x p2) .Add e pos) (sAug i s_iadd me) := ss_augC (OpR.or iop_add iop_add_str) os_iadd m_iadd hN hi hx hio he hf
theorem ss_augSub {p2 : Pos} (hN : X.N.Nodup) (hi : X.N[i]? = some x) (hx : Loc X.env.scope x) (hio : c.io = none ∨ i ≠ 0) (he : SE X c W e me)
    (hf : X.fn x = true ∨ X.env.scope.names.lookup x = some .local := by first | exact .inl rfl | exact .inr rfl | assumption) : SS X c W (.AugAssign (.Name x p2) .Sub e pos) (sAug i s_sub me) := ss_augC iop_sub os_isub m_sub hN hi hx hio he hf
end
end VL

set_option Elab.async false
set_option linter.all false
set_option maxRecDepth 100000
set_option maxHeartbeats 4000000
/-! VL7: iterators over lists and tuples in any mix: zip of two and three, enumerate. -/
namespace VL
open PySem PySem.Spec PyProof.Rows L2

/-- a list or a tuple -/
inductive SK where
  | l | t
def SrcS (K : PySem.W.Frag) (H : Hp) (κ : SK) (a : Addr) (xs : List V) : Prop := match κ with
  | .l => SqL K H a xs
  | .t => SqT K H a xs
def OwnIt (κ : SK) (h : Heap) (it a : Addr) (i : Nat) : Prop := match κ with
  | .l => h.IsListIter it a i
  | .t => h.IsTupleIter it a i
def SrcH (κ : SK) (h : Heap) (a : Addr) (items : Array Value) : Prop := match κ with
  | .l => h.IsList a items
  | .t => h.IsTuple a items
def itObj (κ : SK) (a : Addr) : Obj := match κ with
  | .l => { cls := .type "list_iterator", data := .fields #[.ref a, .int 0 0] }
  | .t => { cls := .type "tuple_iterator", data := .fields #[.ref a, .int 0 0] }
section
variable {X : Cx} {pins : List (Addr × Obj)} {σ : L2.St} {H : Hp} {s : Shared} {κ : SK} {a it : Addr} {xs : List V} {i : Nat}
theorem SrcS.get (I : Inv X pins σ H s) (h : SrcS X.K H κ a xs) : ∃ its : List Value, Vals xs its ∧ SrcH κ s.heap a its.toArray := by
  cases κ with
  | l => obtain ⟨its, r, p, _⟩ := I.list h; exact ⟨its, r, p.isList⟩
  | t => obtain ⟨its, r, p, _⟩ := I.tuple h; exact ⟨its, r, p⟩
theorem SrcS.inj (I : Inv X pins σ H s) {ys : List V} (h : SrcS X.K H κ a xs) (h' : SrcS X.K H κ a ys) : xs = ys := by
  cases κ with
  | l => exact I.list_inj h h'
  | t => exact I.tuple_inj h h'
theorem SrcS.le {K : PySem.W.Frag} {H' : Hp} (h : SrcS K H κ a xs) (l : Le H H') : SrcS K H' κ a xs := by
  cases κ with
  | l => exact sqL_le h l
  | t => exact sqT_le h l
theorem SrcH.lt {h : Heap} {items : Array Value} (x : SrcH κ h a items) : a < h.objs.size := by
  cases κ with
  | l => obtain ⟨o, e, _⟩ := x; exact Heap.lt_size e
  | t => obtain ⟨o, e, _⟩ := x; exact Heap.lt_size e
theorem OwnIt.there {h : Heap} (x : OwnIt κ h it a i) : ∃ o, h.get? it = some o ∧ ∀ v, o.data ≠ .cell v := by
  cases κ with
  | l => obtain ⟨o, e, _, d⟩ := x; exact ⟨o, e, fun v q => by rw [d] at q; cases q⟩
  | t => obtain ⟨o, e, _, d⟩ := x; exact ⟨o, e, fun v q => by rw [d] at q; cases q⟩
theorem OwnIt.at {h h' : Heap} (x : OwnIt κ h it a i) (e : ∀ o, h.get? it = some o → h'.get? it = some o) : OwnIt κ h' it a i := by
  cases κ with
  | l => exact Heap.IsListIter.at x e
  | t => exact Heap.IsTupleIter.at x e
theorem draws_src {prog : Program} {w : World} {A : Around} (hh : A.handled = none) (κ : SK) (it a : Addr) (hne : a ≠ it) (items : Array Value) :
    Draws prog w A it [it, a] items.size (fun i v => items[i]? = some v) (fun i h => OwnIt κ h it a i ∧ SrcH κ h a items) := by
  cases κ with
  | l => exact Draws.list hh it a hne items
  | t => exact Draws.tuple hh it a hne items
theorem begins_src (κ : SK) (a : Addr) (items : Array Value) : Begins (.ref a) (itObj κ a) fun h => SrcH κ h a items := by
  cases κ with
  | l => exact begins_list a items
  | t => exact begins_tuple a items
theorem own_begun {h : Heap} (e : h.get? it = some (itObj κ a)) : OwnIt κ h it a 0 := by
  cases κ with
  | l => exact ⟨_, e, rfl, rfl⟩
  | t => exact ⟨_, e, rfl, rfl⟩
end

/-- each turn gives a new tuple of what stands at the turn's place in the sources -/
def JT (K : PySem.W.Frag) (ss : List (SK × Addr)) (pre : Nat → List V) : It :=
  ⟨fun i H => ∃ vs : List V, Paired (fun s v => ∃ xs, SrcS K H s.1 s.2 xs ∧ xs[i]? = some v) ss vs,
   fun i H v H' => ∃ (T : Addr) (vs : List V), v = .ref T ∧ H T = none ∧ H' = upd H T (.tup (pre i ++ vs)) ∧ Paired (fun s v => ∀ xs, SrcS K H s.1 s.2 xs → xs[i]? = some v) ss vs,
   fun i H => (∀ s ∈ ss, ∃ xs, SrcS K H s.1 s.2 xs ∧ i ≤ xs.length) ∧ ∃ s ∈ ss, ∃ xs, SrcS K H s.1 s.2 xs ∧ xs.length = i⟩

section
variable {P : Program} {w : World} {K : PySem.W.Frag} {elts : List Expr} {kk : Nat} {tpos : Pos}
/-- the new tuple is laid -/
theorem tup_laid {X : Cx} {pins : List (Addr × Obj)} {σ : L2.St} {H : Hp} {s : Shared} {wr : List Addr} {T : Addr} {vals : List Value} {vs : List V} {h' : Heap} {tk : Nat} (I : Inv X pins σ H s) (hf : ∀ b ∈ wr, FpOk X pins H b)
    (hk : ∀ b o, b ∉ wr → s.heap.get? b = some o → h'.get? b = some o) (hn : s.heap.objs.size ≤ T) (hT : h'.IsTuple T vals.toArray) (r : Vals vs vals) (hz : vs.length ≤ sizeLine) :
    Inv X pins σ (upd H T (.tup vs)) { s with heap := h', toks := tk } :=
  I.turnedNew (ch := wr) hk hf hn ⟨hz, vals, r, hT⟩
theorem turn_zip2 {κ1 κ2 : SK} {a b z TI TO i1 i2 : Addr} (S : ZipSep2 z TI TO i1 i2 [i1, a] [i2, b]) (h1 : a ≠ i1) (h2 : b ≠ i2) :
    Turn P w K (.Tuple elts kk tpos) (JT K [(κ1, a), (κ2, b)] fun _ => []) [z, TI, TO, i1, i2] z (fun i h => IsZip h z TI TO .none ∧ IsTupOf2 h TI (.ref i1) (.ref i2) ∧ (∃ x y, IsTupOf2 h TO x y) ∧ OwnIt κ1 h i1 a i ∧ OwnIt κ2 h i2 b i) where
  mem := by simp
  obj := fun i h st c hc => by
    obtain ⟨hz, hTI, ⟨x, y, hTO⟩, o1, o2⟩ := st
    simp only [List.mem_cons, List.not_mem_nil, or_false] at hc
    rcases hc with q | q | q | q | q <;> rw [q]
    · exact ⟨_, hz, fun v q => nomatch q⟩
    · exact ⟨_, hTI, fun v q => nomatch q⟩
    · exact ⟨_, hTO, fun v q => nomatch q⟩
    · exact o1.there
    · exact o2.there
  keep := fun i h h' st k => by
    obtain ⟨hz, hTI, ⟨x, y, hTO⟩, o1, o2⟩ := st
    exact ⟨k z (by simp) _ hz, k TI (by simp) _ hTI, ⟨x, y, k TO (by simp) _ hTO⟩, o1.at (k i1 (by simp)), o2.at (k i2 (by simp))⟩
  item := by
    intro X hP hw hK hc i pins s σ H E I hf st hg
    subst hP hw hK
    obtain ⟨hz, hTI, hTO, o1, o2⟩ := st
    obtain ⟨vs, hg⟩ := hg
    cases hg with
    | cons g1 hg =>
    cases hg with
    | cons g2 hg =>
    cases hg
    obtain ⟨xs, s1, e1⟩ := g1
    obtain ⟨ys, s2, e2⟩ := g2
    obtain ⟨its, r1, p1⟩ := s1.get I
    obtain ⟨its2, r2, p2⟩ := s2.get I
    have hh : X.A.in1.handled = none := I.ok.hd hc
    have W := GoesN.zip2 (prog := X.prog) (w := X.w) (A := X.A) (elts := elts) (x1 := kk) (pos := tpos) S (draws_src hh κ1 i1 a h1 its.toArray) (draws_src hh κ2 i2 b h2 its2.toArray)
    obtain ⟨u1, f1, ru1⟩ := r1.get e1
    obtain ⟨u2, f2, ru2⟩ := r2.get e2
    have l1 := (List.getElem?_eq_some_iff.mp f1).1
    have l2 := (List.getElem?_eq_some_iff.mp f2).1
    refine W.goes i s _ E (by simp; omega) ⟨hz, hTI, hTO, ⟨o1, p1⟩, ⟨o2, p2⟩⟩ fun v h' tk hY st' hk _ => ?_
    obtain ⟨T, x, y, rfl, hn, hx, hy, hT⟩ := hY
    have ex : x = u1 := by
      have q : its.toArray[i]? = some x := hx
      rw [List.getElem?_toArray, f1] at q
      exact (Option.some.inj q).symm
    have ey : y = u2 := by
      have q : its2.toArray[i]? = some y := hy
      rw [List.getElem?_toArray, f2] at q
      exact (Option.some.inj q).symm
    subst ex ey
    obtain ⟨hz', hTI', hTO', ⟨q1, _⟩, ⟨q2, _⟩⟩ := st'
    have fin := tup_laid (tk := tk) (vals := [x, y]) (vs := [_, _]) I (fun b hb => hf b (by
      simp only [List.mem_cons, List.not_mem_nil, or_false] at hb ⊢
      rcases hb with q | q | q | q <;> simp [q])) hk hn hT (.cons ru1 (.cons ru2 .nil)) (by show 2 ≤ sizeLine; decide)
    refine ⟨.ref T, _, fin, rfl, ⟨T, [_, _], rfl, I.hok.fresh hn, rfl, .cons (fun xs' h => ?_) (.cons (fun xs' h => ?_) .nil)⟩, ⟨hz', hTI', hTO', q1, q2⟩, fun c hc' => ?_⟩
    · rw [SrcS.inj I h s1]; exact e1
    · rw [SrcS.inj I h s2]; exact e2
    · rw [upd_ne]
      · exact (hf c hc').1
      · rintro rfl
        obtain ⟨o, eo, _⟩ : ∃ o, s.heap.get? c = some o ∧ True := by
          simp only [List.mem_cons, List.not_mem_nil, or_false] at hc'
          rcases hc' with q | q | q | q | q <;> rw [q]
          · exact ⟨_, hz, trivial⟩
          · exact ⟨_, hTI, trivial⟩
          · obtain ⟨_, _, e⟩ := hTO; exact ⟨_, e, trivial⟩
          · obtain ⟨o, e, _⟩ := o1.there; exact ⟨o, e, trivial⟩
          · obtain ⟨o, e, _⟩ := o2.there; exact ⟨o, e, trivial⟩
        exact absurd (Heap.lt_size eo) (Nat.not_lt.mpr hn)
  done := by
    intro X hP hw hK hc i pins s σ H E I hf st hg
    subst hP hw hK
    obtain ⟨hz, hTI, hTO, o1, o2⟩ := st
    obtain ⟨hall, s0, hs0, zs, hzs, hle⟩ := hg
    obtain ⟨xs, s1, n1⟩ := hall (κ1, a) (by simp)
    obtain ⟨ys, s2, n2⟩ := hall (κ2, b) (by simp)
    obtain ⟨its, r1, p1⟩ := SrcS.get I s1
    obtain ⟨its2, r2, p2⟩ := SrcS.get I s2
    have hh : X.A.in1.handled = none := I.ok.hd hc
    have W := GoesN.zip2 (prog := X.prog) (w := X.w) (A := X.A) (elts := elts) (x1 := kk) (pos := tpos) S (draws_src hh κ1 i1 a h1 its.toArray) (draws_src hh κ2 i2 b h2 its2.toArray)
    have hn : min its.toArray.size its2.toArray.size = i := by
      have z1 := r1.length
      have z2 := r2.length
      rw [List.size_toArray, List.size_toArray]
      simp only [List.mem_cons, List.not_mem_nil, or_false] at hs0
      rcases hs0 with q | q
      · subst q
        rw [SrcS.inj I hzs s1] at hle
        omega
      · subst q
        rw [SrcS.inj I hzs s2] at hle
        omega
    rw [hn] at W
    exact W.stops s _ E ⟨hz, hTI, hTO, ⟨o1, p1⟩, ⟨o2, p2⟩⟩ fun h' tk hk _ => I.turnedL (ch := [z, TO, i1, i2]) hk fun b hb => hf b (by
      simp only [List.mem_cons, List.not_mem_nil, or_false] at hb ⊢
      rcases hb with q | q | q | q <;> simp [q])
  self := fun A i s Q E st h => wpAny_pyIter_zip st.1 h
theorem turn_zip3 {κ1 κ2 κ3 : SK} {a b d z TI TO i1 i2 i3 : Addr} (S : ZipSep3 z TI TO i1 i2 i3 [i1, a] [i2, b] [i3, d]) (h1 : a ≠ i1) (h2 : b ≠ i2) (h3 : d ≠ i3) :
    Turn P w K (.Tuple elts kk tpos) (JT K [(κ1, a), (κ2, b), (κ3, d)] fun _ => []) [z, TI, TO, i1, i2, i3] z (fun i h => IsZip h z TI TO .none ∧ IsTupOf3 h TI (.ref i1) (.ref i2) (.ref i3) ∧ (∃ x y u, IsTupOf3 h TO x y u) ∧ OwnIt κ1 h i1 a i ∧ OwnIt κ2 h i2 b i ∧ OwnIt κ3 h i3 d i) where
  mem := by simp
  obj := fun i h st c hc => by
    obtain ⟨hz, hTI, ⟨x, y, u, hTO⟩, o1, o2, o3⟩ := st
    simp only [List.mem_cons, List.not_mem_nil, or_false] at hc
    rcases hc with q | q | q | q | q | q <;> rw [q]
    · exact ⟨_, hz, fun v q => nomatch q⟩
    · exact ⟨_, hTI, fun v q => nomatch q⟩
    · exact ⟨_, hTO, fun v q => nomatch q⟩
    · exact o1.there
    · exact o2.there
    · exact o3.there
  keep := fun i h h' st k => by
    obtain ⟨hz, hTI, ⟨x, y, u, hTO⟩, o1, o2, o3⟩ := st
    exact ⟨k z (by simp) _ hz, k TI (by simp) _ hTI, ⟨x, y, u, k TO (by simp) _ hTO⟩, o1.at (k i1 (by simp)), o2.at (k i2 (by simp)), o3.at (k i3 (by simp))⟩
  item := by
    intro X hP hw hK hc i pins s σ H E I hf st hg
    subst hP hw hK
    obtain ⟨hz, hTI, hTO, o1, o2, o3⟩ := st
    obtain ⟨vs, hg⟩ := hg
    cases hg with
    | cons g1 hg =>
    cases hg with
    | cons g2 hg =>
    cases hg with
    | cons g3 hg =>
    cases hg
    obtain ⟨xs, s1, e1⟩ := g1
    obtain ⟨ys, s2, e2⟩ := g2
    obtain ⟨zs, s3, e3⟩ := g3
    obtain ⟨its, r1, p1⟩ := s1.get I
    obtain ⟨its2, r2, p2⟩ := s2.get I
    obtain ⟨its3, r3, p3⟩ := s3.get I
    have hh : X.A.in1.handled = none := I.ok.hd hc
    have W := GoesN.zip3 (prog := X.prog) (w := X.w) (A := X.A) (elts := elts) (x1 := kk) (pos := tpos) S (draws_src hh κ1 i1 a h1 its.toArray) (draws_src hh κ2 i2 b h2 its2.toArray) (draws_src hh κ3 i3 d h3 its3.toArray)
    obtain ⟨u1, f1, ru1⟩ := r1.get e1
    obtain ⟨u2, f2, ru2⟩ := r2.get e2
    obtain ⟨u3, f3, ru3⟩ := r3.get e3
    have l1 := (List.getElem?_eq_some_iff.mp f1).1
    have l2 := (List.getElem?_eq_some_iff.mp f2).1
    have l3 := (List.getElem?_eq_some_iff.mp f3).1
    refine W.goes i s _ E (by simp; omega) ⟨hz, hTI, hTO, ⟨o1, p1⟩, ⟨o2, p2⟩, ⟨o3, p3⟩⟩ fun v h' tk hY st' hk _ => ?_
    obtain ⟨T, x, y, u, rfl, hn, hx, hy, hu, hT⟩ := hY
    have ex : x = u1 := by
      have q : its.toArray[i]? = some x := hx
      rw [List.getElem?_toArray, f1] at q
      exact (Option.some.inj q).symm
    have ey : y = u2 := by
      have q : its2.toArray[i]? = some y := hy
      rw [List.getElem?_toArray, f2] at q
      exact (Option.some.inj q).symm
    have ez : u = u3 := by
      have q : its3.toArray[i]? = some u := hu
      rw [List.getElem?_toArray, f3] at q
      exact (Option.some.inj q).symm
    subst ex ey ez
    obtain ⟨hz', hTI', hTO', ⟨q1, _⟩, ⟨q2, _⟩, ⟨q3, _⟩⟩ := st'
    have fin := tup_laid (tk := tk) (vals := [x, y, u]) (vs := [_, _, _]) I (fun b hb => hf b (by
      simp only [List.mem_cons, List.not_mem_nil, or_false] at hb ⊢
      rcases hb with q | q | q | q | q <;> simp [q])) hk hn hT (.cons ru1 (.cons ru2 (.cons ru3 .nil))) (by show 3 ≤ sizeLine; decide)
    refine ⟨.ref T, _, fin, rfl, ⟨T, [_, _, _], rfl, I.hok.fresh hn, rfl, .cons (fun xs' h => ?_) (.cons (fun xs' h => ?_) (.cons (fun xs' h => ?_) .nil))⟩, ⟨hz', hTI', hTO', q1, q2, q3⟩, fun c hc' => ?_⟩
    · rw [SrcS.inj I h s1]; exact e1
    · rw [SrcS.inj I h s2]; exact e2
    · rw [SrcS.inj I h s3]; exact e3
    · rw [upd_ne]
      · exact (hf c hc').1
      · rintro rfl
        obtain ⟨o, eo, _⟩ : ∃ o, s.heap.get? c = some o ∧ True := by
          simp only [List.mem_cons, List.not_mem_nil, or_false] at hc'
          rcases hc' with q | q | q | q | q | q <;> rw [q]
          · exact ⟨_, hz, trivial⟩
          · exact ⟨_, hTI, trivial⟩
          · obtain ⟨_, _, _, e⟩ := hTO; exact ⟨_, e, trivial⟩
          · obtain ⟨o, e, _⟩ := o1.there; exact ⟨o, e, trivial⟩
          · obtain ⟨o, e, _⟩ := o2.there; exact ⟨o, e, trivial⟩
          · obtain ⟨o, e, _⟩ := o3.there; exact ⟨o, e, trivial⟩
        exact absurd (Heap.lt_size eo) (Nat.not_lt.mpr hn)
  done := by
    intro X hP hw hK hc i pins s σ H E I hf st hg
    subst hP hw hK
    obtain ⟨hz, hTI, hTO, o1, o2, o3⟩ := st
    obtain ⟨hall, s0, hs0, zs, hzs, hle⟩ := hg
    obtain ⟨xs, s1, n1⟩ := hall (κ1, a) (by simp)
    obtain ⟨ys, s2, n2⟩ := hall (κ2, b) (by simp)
    obtain ⟨us, s3, n3⟩ := hall (κ3, d) (by simp)
    obtain ⟨its, r1, p1⟩ := SrcS.get I s1
    obtain ⟨its2, r2, p2⟩ := SrcS.get I s2
    obtain ⟨its3, r3, p3⟩ := SrcS.get I s3
    have hh : X.A.in1.handled = none := I.ok.hd hc
    have W := GoesN.zip3 (prog := X.prog) (w := X.w) (A := X.A) (elts := elts) (x1 := kk) (pos := tpos) S (draws_src hh κ1 i1 a h1 its.toArray) (draws_src hh κ2 i2 b h2 its2.toArray) (draws_src hh κ3 i3 d h3 its3.toArray)
    have hn : min (min its.toArray.size its2.toArray.size) its3.toArray.size = i := by
      have z1 := r1.length
      have z2 := r2.length
      have z3 := r3.length
      rw [List.size_toArray, List.size_toArray, List.size_toArray]
      simp only [List.mem_cons, List.not_mem_nil, or_false] at hs0
      rcases hs0 with q | q | q
      · subst q
        rw [SrcS.inj I hzs s1] at hle
        omega
      · subst q
        rw [SrcS.inj I hzs s2] at hle
        omega
      · subst q
        rw [SrcS.inj I hzs s3] at hle
        omega
    rw [hn] at W
    exact W.stops s _ E ⟨hz, hTI, hTO, ⟨o1, p1⟩, ⟨o2, p2⟩, ⟨o3, p3⟩⟩ fun h' tk hk _ => I.turnedL (ch := [z, TO, i1, i2, i3]) hk fun b hb => hf b (by
      simp only [List.mem_cons, List.not_mem_nil, or_false] at hb ⊢
      rcases hb with q | q | q | q | q <;> simp [q])
  self := fun A i s Q E st h => wpAny_pyIter_zip st.1 h
theorem turn_enumK {κ : SK} {a e it : Addr} {k : Int} (h1 : a ≠ it) (h2 : e ≠ it) (h3 : e ≠ a) :
    Turn P w K (.Tuple elts kk tpos) (JT K [(κ, a)] fun i => [.int (k + (i : Nat))]) [e, it] e (fun i h => (∃ old, IsEnum h e it (k + (i : Nat)) old) ∧ OwnIt κ h it a i) where
  mem := by simp
  obj := fun i h st c hc => by
    obtain ⟨⟨old, he⟩, o1⟩ := st
    simp only [List.mem_cons, List.not_mem_nil, or_false] at hc
    rcases hc with q | q <;> rw [q]
    · exact ⟨_, he, fun v q => nomatch q⟩
    · exact o1.there
  keep := fun i h h' st k => by
    obtain ⟨⟨old, he⟩, o1⟩ := st
    exact ⟨⟨old, k e (by simp) _ he⟩, o1.at (k it (by simp))⟩
  item := by
    intro X hP hw hK hc i pins s σ H E I hf st hg
    subst hP hw hK
    obtain ⟨⟨old, he⟩, o1⟩ := st
    obtain ⟨vs, hg⟩ := hg
    cases hg with
    | cons g1 hg =>
    cases hg
    obtain ⟨xs, s1, e1⟩ := g1
    obtain ⟨its, r1, p1⟩ := s1.get I
    have hh : X.A.in1.handled = none := I.ok.hd hc
    have W := GoesN.enumFrom (prog := X.prog) (w := X.w) (A := X.A) (elts := elts) (x1 := kk) (pos := tpos) k (draws_src hh κ it a h1 its.toArray) e h2 (by simp [h2, h3]) (by simp)
    obtain ⟨u1, f1, ru1⟩ := r1.get e1
    have l1 := (List.getElem?_eq_some_iff.mp f1).1
    refine W.goes i s _ E (by simpa using l1) ⟨⟨old, he⟩, ⟨o1, p1⟩⟩ fun v h' tk hY st' hk _ => ?_
    obtain ⟨T, t, x, rfl, hn, hx, hT⟩ := hY
    have ex : x = u1 := by
      have q : its.toArray[i]? = some x := hx
      rw [List.getElem?_toArray, f1] at q
      exact (Option.some.inj q).symm
    subst ex
    obtain ⟨he', ⟨q1, _⟩⟩ := st'
    have fin := tup_laid (tk := tk) (vals := [.int (k + (i : Int)) t, x]) (vs := [.int (k + (i : Nat)), _]) I (fun b hb => hf b hb) hk hn hT (.cons ⟨t, rfl⟩ (.cons ru1 .nil)) (by show 2 ≤ sizeLine; decide)
    refine ⟨.ref T, _, fin, rfl, ⟨T, [_], rfl, I.hok.fresh hn, rfl, .cons (fun xs' h => ?_) .nil⟩, ⟨he', q1⟩, fun c hc' => ?_⟩
    · rw [SrcS.inj I h s1]; exact e1
    · rw [upd_ne]
      · exact (hf c hc').1
      · rintro rfl
        obtain ⟨o, eo, _⟩ : ∃ o, s.heap.get? c = some o ∧ True := by
          simp only [List.mem_cons, List.not_mem_nil, or_false] at hc'
          rcases hc' with q | q <;> rw [q]
          · exact ⟨_, he, trivial⟩
          · obtain ⟨o, e, _⟩ := o1.there; exact ⟨o, e, trivial⟩
        exact absurd (Heap.lt_size eo) (Nat.not_lt.mpr hn)
  done := by
    intro X hP hw hK hc i pins s σ H E I hf st hg
    subst hP hw hK
    obtain ⟨⟨old, he⟩, o1⟩ := st
    obtain ⟨hall, s0, hs0, zs, hzs, hle⟩ := hg
    obtain ⟨xs, s1, n1⟩ := hall (κ, a) (by simp)
    obtain ⟨its, r1, p1⟩ := SrcS.get I s1
    have hh : X.A.in1.handled = none := I.ok.hd hc
    have W := GoesN.enumFrom (prog := X.prog) (w := X.w) (A := X.A) (elts := elts) (x1 := kk) (pos := tpos) k (draws_src hh κ it a h1 its.toArray) e h2 (by simp [h2, h3]) (by simp)
    have hn : its.toArray.size = i := by
      have z1 := r1.length
      rw [List.size_toArray]
      simp only [List.mem_cons, List.not_mem_nil, or_false] at hs0
      subst hs0
      rw [SrcS.inj I hzs s1] at hle
      omega
    rw [hn] at W
    exact W.stops s _ E ⟨⟨old, he⟩, ⟨o1, p1⟩⟩ fun h' tk hk _ => I.turnedL (ch := [e, it]) hk fun b hb => hf b hb
  self := fun A i s Q E st h => let ⟨⟨_, he⟩, _⟩ := st; wpAny_pyIter_enum he h
end
end VL

set_option Elab.async false
set_option linter.all false
set_option maxRecDepth 100000
set_option maxHeartbeats 4000000
/-! VL8: what is walked, by data. -/
namespace PySem
open Builtin
set_option maxHeartbeats 1000000 in
theorem vl_enum_new1 {v : Value} {o : Obj} {H : Heap → Prop} (B : Begins v o H) :
    Meets (Builtin.«enumerate.__new__» ⟨[.type "enumerate", v], []⟩) (fun _ R s => H s.heap ∧
      R (.ok (.ret (.ref (s.heap.push o).objs.size))) { s with heap := (s.heap.push o).push { cls := .type "enumerate", data := .fields #[.none, .bool false, .ref s.heap.objs.size, rawInt 0, .none, .none] } }) :=
  .of_wp fun prog w A R s h => by
    obtain ⟨hp, g, d, tk, os⟩ := s
    obtain ⟨hb, h⟩ := h
    have hsub := sub_enumerate
    have go : ∀ {A' : Around} {E : Value → Shared → Prop} {Q : Value → Shared → Prop}, Q (.ref hp.objs.size) ⟨hp.push o, g, d, tk, os⟩ → wpAny (model prog w) A' (pyIter v) Q E ⟨hp, g, d, tk, os⟩ :=
      fun q => B.iter prog w _ _ ⟨hp, g, d, tk, os⟩ _ hb q
    wp_walk using go
    refine wpAny_stack_any fun st => wpAny_pure ?_
    split
    · rename_i c _ _ _ _ _
      cases (c == Value.type "enumerate") <;> (wp_walk using go; exact ⟨_, rfl, h⟩)
    · wp_walk using go
      exact ⟨_, rfl, h⟩
theorem vl_enum1 {prog : Program} {w : World} {A : Around} {E : Value → Shared → Prop} {s : Shared} {v : Value} {o : Obj} {H : Heap → Prop} {Q : Value → Shared → Prop} (B : Begins v o H) (h1 : H s.heap)
    (h : ∀ h', IsEnum h' (s.heap.objs.size + 1) s.heap.objs.size 0 .none → h'.get? s.heap.objs.size = some o →
      (∀ b o, s.heap.get? b = some o → h'.get? b = some o) → Q (.ref (s.heap.objs.size + 1)) { s with heap := h' }) :
    wpAny (model prog w) A (call (.type "enumerate") [v]) Q E s := by
  refine callType_new F.called_enumerate (by decide) (F.typeCall_enumerate_1 _) (F.newCall_enumerate_1 _) (fun obj => F.args_object_init_2 obj _) F.entry_enumerate_new (vl_enum_new1 B) ⟨h1, ?_⟩
  have hz : (s.heap.push o).objs.size = s.heap.objs.size + 1 := Heap.size_push ..
  show _ ∧ _
  rw [hz]
  have he : IsEnum ((s.heap.push o).push { cls := .type "enumerate", data := .fields #[.none, .bool false, .ref s.heap.objs.size, rawInt 0, .none, .none] }) (s.heap.objs.size + 1) s.heap.objs.size 0 .none := by
    have q := Heap.get?_push_size (s.heap.push o) (o := { cls := .type "enumerate", data := .fields #[.none, .bool false, .ref s.heap.objs.size, rawInt 0, .none, .none] }) rfl
    rw [hz] at q
    exact q
  exact ⟨⟨_, he, rfl⟩, h _ he (Heap.get?_push_of_some _ (Heap.get?_push_size _ B.free)) fun b o x => Heap.get?_push_of_some _ (Heap.get?_push_of_some _ x)⟩
end PySem
namespace VL
open PySem PySem.Spec PyProof.Rows L2

abbrev MI := Env → (List D → Env → Prop) → (Ex → Env → Prop) → Prop
/-- an iterator that gives the data its, wherever what was frozen at its start (F0) stands -/
structure Yl (K : PySem.W.Frag) (F0 : Hp) (its : List D) (J : It) : Prop where
  go : ∀ i H, i < its.length → Le F0 H → J.go i H
  yl : ∀ i H v H', i < its.length → Le F0 H → J.yld i H v H' → ∃ d, its[i]? = some d ∧ Le H H' ∧ ∀ P : Addr → Prop, (∀ a, P a → H a ≠ none) → Le F0 (Fz P H) → Rp K (Fz P H') v d
  stop : ∀ H, Le F0 H → J.stop its.length H
section
variable (K : PySem.W.Frag) (mg : Str → Option Value) (c : Cf) (W : WX)
def rdI (m : MI) : TI := fun σ H R => ∃ T ρ, Rel K c T ρ σ H ∧ m ρ (fun its ρ' => ∀ J F1 H', Rel K c T ρ' σ H' → Le (Fr T ρ σ H) (Fr T ρ' σ H') → Le F1 (Fr T ρ' σ H') → Yl K F1 its J → R J H') (kX K mg c W T (Fr T ρ σ H) σ)
end
structure SI (X : Cx) (c : Cf) (W : WX) (tg iter : Expr) (m : MI) : Prop where
  run : PI X tg iter (rdI X.K X.mg c W m)
  mo : Mono m

/-- the items of a list or a tuple -/
def items : D → Option (List D)
  | .list ds => some ds
  | .tuple ds => some ds
  | _ => none
def sIt (m : ME) : MI := fun ρ Q X => m ρ (fun r ρ' => ∃ d ds, val r = some d ∧ items d = some ds ∧ Q ds ρ') X
theorem mono_it {m : ME} (h : Mono m) : Mono (sIt m) := fun ρ Q Q' X X' hq hx => h ρ _ _ X X' (fun _ _ ⟨d, ds, a, b, q⟩ => ⟨d, ds, a, b, hq _ _ q⟩) hx
/-- a source of items, shared -/
theorem src_of {K : PySem.W.Frag} {F : Hp} {v : V} {d : D} {ds : List D} (r : Rp K F v d) (e : items d = some ds) : ∃ κ a vs, v = .ref a ∧ SrcS K F κ a vs ∧ RpA K F vs ds := by
  cases r <;> simp only [items, reduceCtorEq, Option.some.injEq] at e
  · rename_i a xs ds' h1 h2
    subst e
    exact ⟨.l, a, xs, rfl, SqL.of h1, h2⟩
  · rename_i a xs ds' h1 h2
    subst e
    exact ⟨.t, a, xs, rfl, h1, h2⟩
section
variable {X : Cx} {c : Cf} {W : WX} {pos : Pos} {e e1 e2 e3 tg : Expr} {m m1 m2 m3 : ME} {p : Pos}
def srcIt (K : PySem.W.Frag) (κ : SK) (a : Addr) : It := match κ with
  | .l => Itl K a
  | .t => Itt K a
def iSrc (K : PySem.W.Frag) (tl : TE) : TI := fun σ H R => tl σ H fun x H1 => ∃ κ a, x = .ref a ∧ (∃ xs, SrcS K H1 κ a xs) ∧ R (srcIt K κ a) H1
theorem pi_src {tl : TE} (hl : PE X e tl) : PI X tg e (iSrc X.K tl) := by
  refine ⟨fun pins s σ H R I h => thn (hl.run pins s σ H _ I h) fun v s1 ⟨x, H1, I1, r1, q1⟩ => ?_⟩
  obtain ⟨κ, a, ex, ⟨xs, hs⟩, q⟩ := q1
  subst ex
  cases r1
  have new : ∀ b ∈ [s1.heap.objs.size], FpOk X pins H1 b := fun b hb => by
    rw [List.mem_singleton.mp hb]
    exact I1.fpOk (Nat.le_refl _) (I1.hok.fresh (Nat.le_refl _))
  cases κ with
  | l =>
    obtain ⟨its, rv, pl, _⟩ := I1.list hs
    exact wpAny_pyIter_list pl.isList ⟨_, _, _, _, H1, rfl, I1.kept (t' := s1.toks) (fun b o z => Heap.get?_push_of_some _ z), turn_list a _, ⟨_, Heap.get?_push_size _ rfl, rfl, rfl⟩, new, q⟩
  | t =>
    obtain ⟨its, rv, pl, _⟩ := I1.tuple hs
    exact wpAny_pyIter_tuple (show s1.heap.IsTuple a its.toArray from pl) ⟨_, _, _, _, H1, rfl, I1.kept (t' := s1.toks) (fun b o z => Heap.get?_push_of_some _ z), turn_tuple a _, ⟨_, Heap.get?_push_size _ rfl, rfl, rfl⟩, new, q⟩
theorem rpa_at {K : PySem.W.Frag} {F : Hp} {vs : List V} {ds : List D} {i : Nat} {v : V} (r : RpA K F vs ds) (e : vs[i]? = some v) : ∃ d, ds[i]? = some d ∧ Rp K F v d := r.get e
theorem yl_src {K : PySem.W.Frag} {F : Hp} {κ : SK} {a : Addr} {vs : List V} {ds : List D} (s : SrcS K F κ a vs) (r : RpA K F vs ds) : Yl K F ds (srcIt K κ a) := by
  have hl := r.length
  cases κ with
  | l =>
    refine ⟨fun i H hi l => ⟨vs, vs[i]'(by omega), sqL_le s l, by simp⟩, fun i H v H' hi l ⟨e, h⟩ => ?_, fun H l => ⟨vs, sqL_le s l, by omega⟩⟩
    subst e
    obtain ⟨d, h1, h2⟩ := r.get (h vs (sqL_le s l))
    exact ⟨d, h1, Le.refl, fun P _ lp => h2.le lp⟩
  | t =>
    refine ⟨fun i H hi l => ⟨vs, vs[i]'(by omega), sqT_le s l, by simp⟩, fun i H v H' hi l ⟨e, h⟩ => ?_, fun H l => ⟨vs, sqT_le s l, by omega⟩⟩
    subst e
    obtain ⟨d, h1, h2⟩ := r.get (h vs (sqT_le s l))
    exact ⟨d, h1, Le.refl, fun P _ lp => h2.le lp⟩
theorem si_of {t : TI} {mi : MI} (h : PI X tg e t) (mo : Mono mi) (hr : ∀ σ H R, rdI X.K X.mg c W mi σ H R → t σ H R) : SI X c W tg e mi :=
  ⟨⟨fun pins s σ H R I q => h.run pins s σ H R I (hr σ H R q)⟩, mo⟩
theorem si_seq (h : SE X c W e m) : SI X c W tg e (sIt m) := by
  refine si_of (pi_src h.run) (mono_it h.mo) fun σ H R' ⟨T, ρ, R, q⟩ => ?_
  refine ⟨T, ρ, R, h.mo _ _ _ _ _ (fun r ρ1 ⟨d, ds, e1, e2, q⟩ v H1 hr => ?_) (fun _ _ h => h) q⟩
  obtain ⟨R1, l1, o1⟩ := hr.opr
  obtain ⟨κ, a, vs, rfl, hs, ra⟩ := src_of (o1.rp e1) e2
  exact ⟨κ, a, rfl, ⟨vs, hs.le fr_le⟩, q _ (Fr T ρ1 σ H1) H1 R1 l1 Le.refl (yl_src hs ra)⟩

/-! ### range -/
def rg (lo : Int) (n : Nat) : List D := (List.range n).map fun i : Nat => .int (lo + i)
def rgC (lo c : Int) (n : Nat) : List D := (List.range n).map fun i : Nat => .int (lo + i * c)
def ival : Rs → Option Int
  | .vl (.int i) => some i
  | _ => none
def sRng1 (m : ME) : MI := fun ρ Q X => m ρ (fun r ρ' => ∃ j, r = .vl (.int j) ∧ -(2 ^ 62) ≤ j ∧ j < 2 ^ 62 ∧ Q (rg 0 j.toNat) ρ') X
def sRng2 (m n : ME) : MI := fun ρ Q X => m ρ (fun r ρ1 => n ρ1 (fun r' ρ' => ∃ i j, r = .vl (.int i) ∧ r' = .vl (.int j) ∧ (-(2 ^ 62) ≤ i ∧ i < 2 ^ 62 ∧ -(2 ^ 62) ≤ j ∧ j < 2 ^ 62) ∧ Q (rg i (j - i).toNat) ρ') X) X
def sRng3 (m n : ME) : MI := fun ρ Q X => m ρ (fun r ρ1 => n ρ1 (fun r' ρ' => ∃ i j, r = .vl (.int i) ∧ r' = .vl (.int j) ∧ (-(2 ^ 62) ≤ i ∧ i < 2 ^ 62 ∧ -(2 ^ 62) ≤ j ∧ j < 2 ^ 62) ∧ Q (rgC i (-1) (i - j).toNat) ρ') X) X
theorem mono_rng1 (h : Mono m) : Mono (sRng1 m) := fun ρ Q Q' X X' hq hx => h ρ _ _ X X' (fun _ _ ⟨d, a, b, b2, q⟩ => ⟨d, a, b, b2, hq _ _ q⟩) hx
theorem mono_rng2 (h : Mono m1) (h' : Mono m2) : Mono (sRng2 m1 m2) := fun ρ Q Q' X X' hq hx => h ρ _ _ X X' (fun _ _ q => h' _ _ _ _ _ (fun _ _ ⟨i, j, a, b, b2, q⟩ => ⟨i, j, a, b, b2, hq _ _ q⟩) hx q) hx
theorem mono_rng3 (h : Mono m1) (h' : Mono m2) : Mono (sRng3 m1 m2) := fun ρ Q Q' X X' hq hx => h ρ _ _ X X' (fun _ _ q => h' _ _ _ _ _ (fun _ _ ⟨i, j, a, b, b2, q⟩ => ⟨i, j, a, b, b2, hq _ _ q⟩) hx q) hx
theorem rg_len {lo : Int} {n : Nat} : (rg lo n).length = n := by simp [rg]
theorem rg_at {lo : Int} {n i : Nat} (h : i < n) : (rg lo n)[i]? = some (.int (lo + i)) := by simp [rg, h]
theorem rgC_len {lo c : Int} {n : Nat} : (rgC lo c n).length = n := by simp [rgC]
theorem rgC_at {lo c : Int} {n i : Nat} (h : i < n) : (rgC lo c n)[i]? = some (.int (lo + i * c)) := by simp [rgC, h]
theorem yl_rng {K : PySem.W.Frag} {F : Hp} {lo : Int} {n : Nat} : Yl K F (rg lo n) (Itr lo n) := by
  refine ⟨fun i H hi _ => by rw [rg_len] at hi; exact hi, fun i H v H' hi _ ⟨e, h⟩ => ?_, fun H _ => by rw [rg_len]; exact Nat.le_refl _⟩
  subst e h
  rw [rg_len] at hi
  exact ⟨_, rg_at hi, Le.refl, fun P _ _ => .int _⟩
theorem yl_rngC {K : PySem.W.Frag} {F : Hp} {lo c : Int} {n : Nat} : Yl K F (rgC lo c n) (Itc lo c n) := by
  refine ⟨fun i H hi _ => by rw [rgC_len] at hi; exact hi, fun i H v H' hi _ ⟨e, h⟩ => ?_, fun H _ => by rw [rgC_len]; exact Nat.le_refl _⟩
  subst e h
  rw [rgC_len] at hi
  exact ⟨_, rgC_at hi, Le.refl, fun P _ _ => .int _⟩
theorem si_rng1 (hg : Gl X "range") (hm : X.mg "range" = none) (h : SE X c W e m) (hs : starEach [e] X.env = [(false, eval e X.env)] := by rfl) : SI X c W tg (.Call (.Name "range" p) [e] [] pos) (sRng1 m) := by
  refine si_of (pi_range1 hg hm (pa_cons h.run pa_nil hs) hs) (mono_rng1 h.mo) fun σ H R' ⟨T, ρ, R, q⟩ => ?_
  refine ⟨T, ρ, R, h.mo _ _ _ _ _ (fun r ρ1 ⟨j, e1, b1, b2, q⟩ v H1 hr => ?_) (fun _ _ h => h) q⟩
  subst e1
  obtain ⟨R1, l1, rp⟩ := hr
  cases rp
  exact ⟨j, rfl, b1, b2, q _ (Fr T ρ1 σ H1) H1 R1 l1 Le.refl yl_rng⟩
theorem two_rg {σ : L2.St} {H : Hp} {Q : V → V → Hp → Prop} {T : List (Addr × HO)} {ρ : Env} (h1 : SE X c W e1 m1) (h2 : SE X c W e2 m2) (R : Rel X.K c T ρ σ H)
    (q : m1 ρ (fun r ρ1 => m2 ρ1 (fun r' ρ' => ∃ i j, r = .vl (.int i) ∧ r' = .vl (.int j) ∧ ∀ H', Rel X.K c T ρ' σ H' → Le (Fr T ρ σ H) (Fr T ρ' σ H') → Q (.int i) (.int j) H') (kX X.K X.mg c W T (Fr T ρ σ H) σ)) (kX X.K X.mg c W T (Fr T ρ σ H) σ)) :
    rdE X.K X.mg c W m1 σ H fun x H1 => rdE X.K X.mg c W m2 σ H1 fun y H2 => Q x y H2 := by
  refine ⟨T, ρ, R, h1.mo _ _ _ _ _ (fun r ρ1 q v H1 hr => ?_) (fun _ _ h => h) q⟩
  obtain ⟨R1, l1, o1⟩ := hr.opr
  refine ⟨T, ρ1, R1, h2.mo _ _ _ _ _ (fun r' ρ2 q2 w H2 hr2 => ?_) (fun x ρ' h => kX_le l1 h) q⟩
  obtain ⟨i, j, ei, ej, q3⟩ := q2
  subst ei
  subst ej
  obtain ⟨R2, l2, rp2⟩ := hr2
  cases o1
  cases rp2
  exact q3 H2 R2 (l1.trans l2)
theorem si_rng2 (hg : Gl X "range") (hm : X.mg "range" = none) (h1 : SE X c W e1 m1) (h2 : SE X c W e2 m2) (hs : starEach [e1, e2] X.env = [(false, eval e1 X.env), (false, eval e2 X.env)] := by rfl) (hs2 : starEach [e2] X.env = [(false, eval e2 X.env)] := by rfl) :
    SI X c W tg (.Call (.Name "range" p) [e1, e2] [] pos) (sRng2 m1 m2) := by
  refine si_of (pi_range2 hg hm (pa_cons h1.run (pa_cons h2.run pa_nil hs2) (by rw [hs, hs2])) hs hs2) (mono_rng2 h1.mo h2.mo) fun σ H R' ⟨T, ρ, R, q⟩ => ?_
  refine two_rg (Q := fun x y H2 => ∃ i j : Int, [x, y] = [V.int i, V.int j] ∧ (-(2 ^ 62) ≤ i ∧ i < 2 ^ 62 ∧ -(2 ^ 62) ≤ j ∧ j < 2 ^ 62) ∧ R' (Itr i (j - i).toNat) H2) h1 h2 R ?_
  refine h1.mo _ _ _ _ _ (fun r ρ1 q => h2.mo _ _ _ _ _ (fun r' ρ2 ⟨i, j, ei, ej, b, q⟩ => ⟨i, j, ei, ej, fun H' R2 l2 => ⟨i, j, rfl, b, ?_⟩⟩) (fun _ _ h => h) q) (fun _ _ h => h) q
  exact q _ (Fr T ρ2 σ H') H' R2 l2 Le.refl yl_rng
/-- range(i, j, -1) -/
theorem si_rng3 {p3 p4 : Pos} {j3 : Nat} (hg : Gl X "range") (hm : X.mg "range" = none) (h1 : SE X c W e1 m1) (h2 : SE X c W e2 m2)
    (hs : starEach [e1, e2, .UnaryOp .USub (.Constant (.int 1) j3 p3) p4] X.env = (false, eval e1 X.env) :: starEach [e2, .UnaryOp .USub (.Constant (.int 1) j3 p3) p4] X.env := by rfl)
    (hs2 : starEach [e2, .UnaryOp .USub (.Constant (.int 1) j3 p3) p4] X.env = (false, eval e2 X.env) :: starEach [.UnaryOp .USub (.Constant (.int 1) j3 p3) p4] X.env := by rfl)
    (hpl : (backTo pos (starEach [e2, .UnaryOp .USub (.Constant (.int 1) j3 p3) p4] X.env)).any (·.1) = false := by rfl) :
    SI X c W tg (.Call (.Name "range" p) [e1, e2, .UnaryOp .USub (.Constant (.int 1) j3 p3) p4] [] pos) (sRng3 m1 m2) := by
  refine si_of (pi_range3 hg hm (pa_cons h1.run (pa_cons h2.run (pa_cons (pe_un un_neg pe_int) pa_nil rfl) hs2) hs) hs hpl) (mono_rng3 h1.mo h2.mo) fun σ H R' ⟨T, ρ, R, q⟩ => ?_
  refine two_rg (Q := fun x y H2 => ∃ i, V.int 1 = .int i ∧ ∃ (i' j k : Int) (n : Nat), [x, y, V.int (-i)] = [V.int i', V.int j, V.int k] ∧ RgC i' j k n ∧ R' (Itc i' k n) H2) h1 h2 R ?_
  refine h1.mo _ _ _ _ _ (fun r ρ1 q => h2.mo _ _ _ _ _ (fun r' ρ2 ⟨i, j, ei, ej, b, q⟩ => ⟨i, j, ei, ej, fun H' R2 l2 => ⟨1, rfl, i, j, -1, _, rfl, RgC.neg b.1 b.2.1 b.2.2.1 b.2.2.2, ?_⟩⟩) (fun _ _ h => h) q) (fun _ _ h => h) q
  exact q _ (Fr T ρ2 σ H') H' R2 l2 Le.refl yl_rngC
/-- a text, sign by sign -/
def sStr (m : ME) : MI := fun ρ Q X => m ρ (fun r ρ' => ∃ x, r = .vl (.str x) ∧ Q (x.cps.toList.map fun c => .str ⟨#[c]⟩) ρ') X
theorem mono_str (h : Mono m) : Mono (sStr m) := fun ρ Q Q' X X' hq hx => h ρ _ _ X X' (fun _ _ ⟨d, a, q⟩ => ⟨d, a, hq _ _ q⟩) hx
theorem si_str (h : SE X c W e m) : SI X c W tg e (sStr m) := by
  refine si_of (pi_str h.run) (mono_str h.mo) fun σ H R' ⟨T, ρ, R, q⟩ => ?_
  refine ⟨T, ρ, R, h.mo _ _ _ _ _ (fun r ρ1 ⟨x, e1, q⟩ v H1 hr => ?_) (fun _ _ h => h) q⟩
  subst e1
  obtain ⟨R1, l1, rp⟩ := hr
  cases rp
  refine ⟨x, rfl, q _ (Fr T ρ1 σ H1) H1 R1 l1 Le.refl ⟨fun i H hi _ => (by simpa using hi : i < x.cps.size), fun i H v H' hi _ ⟨e, z, hz, ev⟩ => ?_, fun H _ => (by simp : x.cps.size ≤ _)⟩⟩
  subst e ev
  exact ⟨_, by simp [hz], Le.refl, fun P _ _ => .str _⟩
end
end VL

set_option Elab.async false
set_option linter.all false
set_option maxRecDepth 100000
set_option maxHeartbeats 4000000
/-! VL9: zip, enumerate, by data. -/
namespace VL
open PySem PySem.Spec PyProof.Rows L2

def zip2D (xs ys : List D) : List D := List.zipWith (fun x y => .tuple [x, y]) xs ys
def zip3D : List D → List D → List D → List D
  | x :: xs, y :: ys, z :: zs => .tuple [x, y, z] :: zip3D xs ys zs
  | _, _, _ => []
def enumD (k : Int) : List D → List D
  | [] => []
  | x :: xs => .tuple [.int k, x] :: enumD (k + 1) xs
theorem zip2_len {xs ys : List D} : (zip2D xs ys).length = min xs.length ys.length := by simp [zip2D]
theorem zip2_at {xs ys : List D} {i : Nat} {x y : D} (h1 : xs[i]? = some x) (h2 : ys[i]? = some y) : (zip2D xs ys)[i]? = some (.tuple [x, y]) := by
  simp [zip2D, List.getElem?_zipWith, h1, h2]
theorem zip3_len : ∀ {xs ys zs : List D}, (zip3D xs ys zs).length = min (min xs.length ys.length) zs.length
  | [], _, _ => by simp [zip3D]
  | _ :: _, [], _ => by simp [zip3D]
  | _ :: _, _ :: _, [] => by simp [zip3D]
  | _ :: xs, _ :: ys, _ :: zs => by simp only [zip3D, List.length_cons, zip3_len (xs := xs) (ys := ys) (zs := zs)]; omega
theorem zip3_at : ∀ {xs ys zs : List D} {i : Nat} {x y z : D}, xs[i]? = some x → ys[i]? = some y → zs[i]? = some z → (zip3D xs ys zs)[i]? = some (.tuple [x, y, z])
  | [], _, _, i, _, _, _, h, _, _ => by simp at h
  | _ :: _, [], _, i, _, _, _, _, h, _ => by simp at h
  | _ :: _, _ :: _, [], i, _, _, _, _, _, h => by simp at h
  | _ :: xs, _ :: ys, _ :: zs, 0, _, _, _, h1, h2, h3 => by simp at h1 h2 h3; subst h1 h2 h3; rfl
  | _ :: xs, _ :: ys, _ :: zs, i + 1, _, _, _, h1, h2, h3 => by simp at h1 h2 h3; simpa [zip3D] using zip3_at (i := i) h1 h2 h3
theorem enum_len : ∀ {k : Int} {xs : List D}, (enumD k xs).length = xs.length
  | _, [] => rfl
  | k, _ :: xs => by simp [enumD, enum_len (xs := xs)]
theorem enum_at : ∀ {k : Int} {xs : List D} {i : Nat} {x : D}, xs[i]? = some x → (enumD k xs)[i]? = some (.tuple [.int (k + (i : Nat)), x])
  | _, [], i, _, h => by simp at h
  | k, _ :: xs, 0, _, h => by simp at h; subst h; simp [enumD]
  | k, _ :: xs, i + 1, _, h => by
    simp at h
    have := enum_at (k := k + 1) (i := i) h
    simp only [enumD, List.getElem?_cons_succ, this]
    congr 4
    push_cast
    omega

section
variable {K : PySem.W.Frag} {F : Hp}
/-- a new tuple among what is frozen -/
theorem tup_new {H : Hp} {T : Addr} {vs : List V} {ds : List D} (hp : H T = none) (P : Addr → Prop) (hP : ∀ a, P a → H a ≠ none) (r : RpA K (Fz P H) vs ds) : Rp K (Fz P (upd H T (.tup vs))) (.ref T) (.tuple ds) := by
  refine .tup (SqT.of (fz_some.mpr ⟨fun h => hP T h hp, upd_same, fun _ z => nomatch z⟩)) (r.le (fz_mono (fun _ _ h => h) (le_upd hp)))
variable {κ1 κ2 κ3 : SK} {a b d : Addr} {xs ys zs : List V} {ds es fs : List D}
theorem le_src {κ : SK} {a : Addr} {xs : List V} {H : Hp} {i : Nat} (s : SrcS K F κ a xs) (l : Le F H) (h : i < xs.length) : ∃ xs', SrcS K H κ a xs' ∧ xs'[i]? = some (xs[i]'h) := ⟨xs, s.le l, List.getElem?_eq_getElem h⟩
theorem yl_zip2 (s1 : SrcS K F κ1 a xs) (r1 : RpA K F xs ds) (s2 : SrcS K F κ2 b ys) (r2 : RpA K F ys es) : Yl K F (zip2D ds es) (JT K [(κ1, a), (κ2, b)] fun _ => []) := by
  have n1 := r1.length
  have n2 := r2.length
  refine ⟨fun i H hi l => ?_, fun i H v H' hi l ⟨T, vs, ev, hT, eH, q⟩ => ?_, fun H l => ?_⟩
  · rw [zip2_len] at hi
    exact ⟨_, .cons (le_src s1 l (by omega)) (.cons (le_src s2 l (by omega)) .nil)⟩
  · subst ev eH
    cases q with
    | cons q1 q =>
    cases q with
    | cons q2 q =>
    cases q
    obtain ⟨d1, g1, w1⟩ := r1.get (q1 _ (s1.le l))
    obtain ⟨d2, g2, w2⟩ := r2.get (q2 _ (s2.le l))
    exact ⟨_, zip2_at g1 g2, le_upd hT, fun P hP lp => tup_new hT P hP (.cons (w1.le lp) (.cons (w2.le lp) .nil))⟩
  · rw [zip2_len]
    refine ⟨fun s hs => ?_, ?_⟩
    · simp only [List.mem_cons, List.not_mem_nil, or_false] at hs
      rcases hs with q | q <;> subst q
      · exact ⟨xs, s1.le l, by omega⟩
      · exact ⟨ys, s2.le l, by omega⟩
    · by_cases h : ds.length ≤ es.length
      · exact ⟨(κ1, a), by simp, xs, s1.le l, by omega⟩
      · exact ⟨(κ2, b), by simp, ys, s2.le l, by omega⟩
theorem yl_zip3 (s1 : SrcS K F κ1 a xs) (r1 : RpA K F xs ds) (s2 : SrcS K F κ2 b ys) (r2 : RpA K F ys es) (s3 : SrcS K F κ3 d zs) (r3 : RpA K F zs fs) : Yl K F (zip3D ds es fs) (JT K [(κ1, a), (κ2, b), (κ3, d)] fun _ => []) := by
  have n1 := r1.length
  have n2 := r2.length
  have n3 := r3.length
  refine ⟨fun i H hi l => ?_, fun i H v H' hi l ⟨T, vs, ev, hT, eH, q⟩ => ?_, fun H l => ?_⟩
  · rw [zip3_len] at hi
    exact ⟨_, .cons (le_src s1 l (by omega)) (.cons (le_src s2 l (by omega)) (.cons (le_src s3 l (by omega)) .nil))⟩
  · subst ev eH
    cases q with
    | cons q1 q =>
    cases q with
    | cons q2 q =>
    cases q with
    | cons q3 q =>
    cases q
    obtain ⟨d1, g1, w1⟩ := r1.get (q1 _ (s1.le l))
    obtain ⟨d2, g2, w2⟩ := r2.get (q2 _ (s2.le l))
    obtain ⟨d3, g3, w3⟩ := r3.get (q3 _ (s3.le l))
    exact ⟨_, zip3_at g1 g2 g3, le_upd hT, fun P hP lp => tup_new hT P hP (.cons (w1.le lp) (.cons (w2.le lp) (.cons (w3.le lp) .nil)))⟩
  · rw [zip3_len]
    refine ⟨fun s hs => ?_, ?_⟩
    · simp only [List.mem_cons, List.not_mem_nil, or_false] at hs
      rcases hs with q | q | q <;> subst q
      · exact ⟨xs, s1.le l, by omega⟩
      · exact ⟨ys, s2.le l, by omega⟩
      · exact ⟨zs, s3.le l, by omega⟩
    · by_cases h : ds.length ≤ es.length
      · by_cases h' : ds.length ≤ fs.length
        · exact ⟨(κ1, a), by simp, xs, s1.le l, by omega⟩
        · exact ⟨(κ3, d), by simp, zs, s3.le l, by omega⟩
      · by_cases h' : es.length ≤ fs.length
        · exact ⟨(κ2, b), by simp, ys, s2.le l, by omega⟩
        · exact ⟨(κ3, d), by simp, zs, s3.le l, by omega⟩
theorem yl_enum {k : Int} (s1 : SrcS K F κ1 a xs) (r1 : RpA K F xs ds) : Yl K F (enumD k ds) (JT K [(κ1, a)] fun i => [.int (k + (i : Nat))]) := by
  have n1 := r1.length
  refine ⟨fun i H hi l => ?_, fun i H v H' hi l ⟨T, vs, ev, hT, eH, q⟩ => ?_, fun H l => ?_⟩
  · rw [enum_len] at hi
    exact ⟨_, .cons (le_src s1 l (by omega)) .nil⟩
  · subst ev eH
    cases q with
    | cons q1 q =>
    cases q
    obtain ⟨d1, g1, w1⟩ := r1.get (q1 _ (s1.le l))
    exact ⟨_, enum_at g1, le_upd hT, fun P hP lp => tup_new hT P hP (.cons (.int _) (.cons (w1.le lp) .nil))⟩
  · rw [enum_len]
    refine ⟨fun s hs => ?_, (κ1, a), by simp, xs, s1.le l, n1⟩
    simp only [List.mem_cons, List.not_mem_nil, or_false] at hs
    subst hs
    exact ⟨xs, s1.le l, by omega⟩
end

section
variable {X : Cx} {c : Cf} {W : WX} {pos p tpos : Pos} {e e1 e2 e3 : Expr} {m m1 m2 m3 : ME} {ma : MA} {elts : List Expr} {kk : Nat}
def itemss : List D → Option (List (List D))
  | [] => some []
  | d :: ds => match items d, itemss ds with
    | some x, some xs => some (x :: xs)
    | _, _ => none
def iZip2 (K : PySem.W.Frag) (ta : TA) : TI := fun σ H R => ta σ H fun vs H1 => ∃ κ1 a κ2 b xs ys, vs = [.ref a, .ref b] ∧ SrcS K H1 κ1 a xs ∧ SrcS K H1 κ2 b ys ∧ R (JT K [(κ1, a), (κ2, b)] fun _ => []) H1
def iZip3 (K : PySem.W.Frag) (ta : TA) : TI := fun σ H R => ta σ H fun vs H1 => ∃ κ1 a κ2 b κ3 d xs ys zs, vs = [.ref a, .ref b, .ref d] ∧ SrcS K H1 κ1 a xs ∧ SrcS K H1 κ2 b ys ∧ SrcS K H1 κ3 d zs ∧ R (JT K [(κ1, a), (κ2, b), (κ3, d)] fun _ => []) H1
theorem ne_new {a n : Addr} (h : a < n) : a ≠ n := Nat.ne_of_lt h
theorem ne_new1 {a n : Addr} (h : a < n) (k : Nat) : a ≠ n + k := Nat.ne_of_lt (Nat.lt_of_lt_of_le h (Nat.le_add_right _ _))
theorem pi_zip2 {ta : TA} (hg : Gl X "zip") (hm : X.mg "zip" = none) (ha : PA X [e1, e2] ta) (hs : starEach [e1, e2] X.env = (false, eval e1 X.env) :: starEach [e2] X.env := by rfl) (hpl : (backTo pos (starEach [e2] X.env)).any (·.1) = false := by rfl) :
    PI X (.Tuple elts kk tpos) (.Call (.Name "zip" p) [e1, e2] [] pos) (iZip2 X.K ta) := by
  refine ⟨fun pins s σ H R I h => Call_ (ld_blt I hg hm PyProof.Rows.boot_zip (PyProof.Rows.callWith_type1 (thn (ha.run pos pins s σ H _ I h) fun us s1 hh => ?_) hs hpl))⟩
  obtain ⟨vs, H1, I1, r1, κ1, a, κ2, b, xs, ys, ex, s1', s2', q⟩ := hh
  subst ex
  cases r1 with
  | cons q1 r1 =>
  cases r1 with
  | cons q2 r1 =>
  cases r1
  cases q1
  cases q2
  obtain ⟨its, _, p1⟩ := s1'.get I1
  obtain ⟨its2, _, p2⟩ := s2'.get I1
  have la := p1.lt
  have lb := p2.lt
  refine zip_begins2 (begins_src κ1 a its.toArray) (begins_src κ2 b its2.toArray) p1 p2 fun h' hz hTI hTO g1 g2 hsz hk => wpAny_pyIter_zip hz ?_
  refine ⟨_, [s1.heap.objs.size + 4, s1.heap.objs.size + 2, s1.heap.objs.size + 3, s1.heap.objs.size, s1.heap.objs.size + 1], _, _, H1, rfl, I1.kept (t' := s1.toks) hk,
    turn_zip2 (κ1 := κ1) (κ2 := κ2) (zip_sep2 (fp1 := [a]) (fp2 := [b]) (fun c hc => by rw [List.mem_singleton.mp hc]; exact la) (fun c hc => by rw [List.mem_singleton.mp hc]; exact lb)) (ne_new la) (ne_new1 lb 1), ⟨hz, hTI, ⟨_, _, hTO⟩, own_begun g1, own_begun g2⟩, fun c hc => ?_, q⟩
  have hle : s1.heap.objs.size ≤ c := by
    simp only [List.mem_cons, List.not_mem_nil, or_false] at hc
    rcases hc with z | z | z | z | z <;> rw [z]
    · exact Nat.le_add_right _ _
    · exact Nat.le_add_right _ _
    · exact Nat.le_add_right _ _
    · exact Nat.le_refl _
    · exact Nat.le_add_right _ _
  exact I1.fpOk hle (I1.hok.fresh hle)
theorem pi_zip3 {ta : TA} (hg : Gl X "zip") (hm : X.mg "zip" = none) (ha : PA X [e1, e2, e3] ta) (hs : starEach [e1, e2, e3] X.env = (false, eval e1 X.env) :: starEach [e2, e3] X.env := by rfl) (hpl : (backTo pos (starEach [e2, e3] X.env)).any (·.1) = false := by rfl) :
    PI X (.Tuple elts kk tpos) (.Call (.Name "zip" p) [e1, e2, e3] [] pos) (iZip3 X.K ta) := by
  refine ⟨fun pins s σ H R I h => Call_ (ld_blt I hg hm PyProof.Rows.boot_zip (PyProof.Rows.callWith_type1 (thn (ha.run pos pins s σ H _ I h) fun us s1 hh => ?_) hs hpl))⟩
  obtain ⟨vs, H1, I1, r1, κ1, a, κ2, b, κ3, d, xs, ys, zs, ex, s1', s2', s3', q⟩ := hh
  subst ex
  cases r1 with
  | cons q1 r1 =>
  cases r1 with
  | cons q2 r1 =>
  cases r1 with
  | cons q3 r1 =>
  cases r1
  cases q1
  cases q2
  cases q3
  obtain ⟨its, _, p1⟩ := s1'.get I1
  obtain ⟨its2, _, p2⟩ := s2'.get I1
  obtain ⟨its3, _, p3⟩ := s3'.get I1
  have la := p1.lt
  have lb := p2.lt
  have ld := p3.lt
  refine zip_begins3 (begins_src κ1 a its.toArray) (begins_src κ2 b its2.toArray) (begins_src κ3 d its3.toArray) p1 p2 p3 fun h' hz hTI hTO g1 g2 g3 hsz hk => wpAny_pyIter_zip hz ?_
  refine ⟨_, [s1.heap.objs.size + 5, s1.heap.objs.size + 3, s1.heap.objs.size + 4, s1.heap.objs.size, s1.heap.objs.size + 1, s1.heap.objs.size + 2], _, _, H1, rfl, I1.kept (t' := s1.toks) hk,
    turn_zip3 (κ1 := κ1) (κ2 := κ2) (κ3 := κ3) (zip_sep3 (fp1 := [a]) (fp2 := [b]) (fp3 := [d]) (fun c hc => by rw [List.mem_singleton.mp hc]; exact la) (fun c hc => by rw [List.mem_singleton.mp hc]; exact lb) (fun c hc => by rw [List.mem_singleton.mp hc]; exact ld)) (ne_new la) (ne_new1 lb 1) (ne_new1 ld 2), ⟨hz, hTI, ⟨_, _, _, hTO⟩, own_begun g1, own_begun g2, own_begun g3⟩, fun c hc => ?_, q⟩
  have hle : s1.heap.objs.size ≤ c := by
    simp only [List.mem_cons, List.not_mem_nil, or_false] at hc
    rcases hc with z | z | z | z | z | z <;> rw [z]
    · exact Nat.le_add_right _ _
    · exact Nat.le_add_right _ _
    · exact Nat.le_add_right _ _
    · exact Nat.le_refl _
    · exact Nat.le_add_right _ _
    · exact Nat.le_add_right _ _
  exact I1.fpOk hle (I1.hok.fresh hle)
theorem itemss_srcs {K : PySem.W.Frag} {F : Hp} : ∀ {vs : List V} {ds : List D} {xss : List (List D)}, RpA K F vs ds → itemss ds = some xss → Paired (fun v xs => ∃ κ a ws, v = V.ref a ∧ SrcS K F κ a ws ∧ RpA K F ws xs) vs xss
  | _, _, _, .nil, e => by simp only [itemss] at e; cases e; exact .nil
  | _, _, _, .cons r t, e => by
    simp only [itemss] at e
    split at e
    · rename_i x xs e1 e2
      cases e
      exact .cons (src_of r e1) (itemss_srcs t e2)
    · cases e
theorem si_zip2 (hg : Gl X "zip") (hm : X.mg "zip" = none) (ha : SA X c W [e1, e2] ma) (hs : starEach [e1, e2] X.env = (false, eval e1 X.env) :: starEach [e2] X.env := by rfl) (hpl : (backTo pos (starEach [e2] X.env)).any (·.1) = false := by rfl) :
    SI X c W (.Tuple elts kk tpos) (.Call (.Name "zip" p) [e1, e2] [] pos) (fun ρ Q X => ma ρ (fun rs ρ' => ∃ ds, vals rs = some ds ∧ ∃ xs ys, itemss ds = some [xs, ys] ∧ Q (zip2D xs ys) ρ') X) := by
  refine si_of (pi_zip2 hg hm ha.run hs hpl) (fun ρ Q Q' X X' hq hx => ha.mo ρ _ _ X X' (fun _ _ ⟨ds, a, xs, ys, e, q⟩ => ⟨ds, a, xs, ys, e, hq _ _ q⟩) hx) fun σ H R' ⟨T, ρ, R, q⟩ => ?_
  refine ⟨T, ρ, R, ha.mo _ _ _ _ _ (fun rs ρ1 ⟨ds, ev, xs, ys, ei, q⟩ vs H1 ⟨R1, l1, o1⟩ => ?_) (fun _ _ h => h) q⟩
  have S := itemss_srcs (Opr.rps o1 ev) ei
  cases S with
  | cons a S =>
  cases S with
  | cons b S =>
  cases S
  obtain ⟨κ1, a, ws, rfl, s1, r1⟩ := a
  obtain ⟨κ2, b, ws2, rfl, s2, r2⟩ := b
  exact ⟨κ1, a, κ2, b, ws, ws2, rfl, s1.le fr_le, s2.le fr_le, q _ (Fr T ρ1 σ H1) H1 R1 l1 Le.refl (yl_zip2 s1 r1 s2 r2)⟩
theorem si_zip3 (hg : Gl X "zip") (hm : X.mg "zip" = none) (ha : SA X c W [e1, e2, e3] ma) (hs : starEach [e1, e2, e3] X.env = (false, eval e1 X.env) :: starEach [e2, e3] X.env := by rfl) (hpl : (backTo pos (starEach [e2, e3] X.env)).any (·.1) = false := by rfl) :
    SI X c W (.Tuple elts kk tpos) (.Call (.Name "zip" p) [e1, e2, e3] [] pos) (fun ρ Q X => ma ρ (fun rs ρ' => ∃ ds, vals rs = some ds ∧ ∃ xs ys zs, itemss ds = some [xs, ys, zs] ∧ Q (zip3D xs ys zs) ρ') X) := by
  refine si_of (pi_zip3 hg hm ha.run hs hpl) (fun ρ Q Q' X X' hq hx => ha.mo ρ _ _ X X' (fun _ _ ⟨ds, a, xs, ys, zs, e, q⟩ => ⟨ds, a, xs, ys, zs, e, hq _ _ q⟩) hx) fun σ H R' ⟨T, ρ, R, q⟩ => ?_
  refine ⟨T, ρ, R, ha.mo _ _ _ _ _ (fun rs ρ1 ⟨ds, ev, xs, ys, zs, ei, q⟩ vs H1 ⟨R1, l1, o1⟩ => ?_) (fun _ _ h => h) q⟩
  have S := itemss_srcs (Opr.rps o1 ev) ei
  cases S with
  | cons a S =>
  cases S with
  | cons b S =>
  cases S with
  | cons d S =>
  cases S
  obtain ⟨κ1, a, ws, rfl, s1, r1⟩ := a
  obtain ⟨κ2, b, ws2, rfl, s2, r2⟩ := b
  obtain ⟨κ3, d, ws3, rfl, s3, r3⟩ := d
  exact ⟨κ1, a, κ2, b, κ3, d, ws, ws2, ws3, rfl, s1.le fr_le, s2.le fr_le, s3.le fr_le, q _ (Fr T ρ1 σ H1) H1 R1 l1 Le.refl (yl_zip3 s1 r1 s2 r2 s3 r3)⟩
/-- enumerate(e) -/
def iEnumK (K : PySem.W.Frag) (ta : TA) : TI := fun σ H R => ta σ H fun vs H1 => ∃ κ a xs, vs = [.ref a] ∧ SrcS K H1 κ a xs ∧ R (JT K [(κ, a)] fun i => [.int ((0 : Int) + (i : Nat))]) H1
theorem pi_enumK {ta : TA} (hg : Gl X "enumerate") (hm : X.mg "enumerate" = none) (ha : PA X [e] ta) (hs : starEach [e] X.env = [(false, eval e X.env)] := by rfl) :
    PI X (.Tuple elts kk tpos) (.Call (.Name "enumerate" p) [e] [] pos) (iEnumK X.K ta) := by
  refine ⟨fun pins s σ H R I h => Call_ (ld_blt I hg hm boot_enumerate (PyProof.Rows.callWith_type1 (thn (ha.run pos pins s σ H _ I h) fun us s1 hh => ?_) hs rfl))⟩
  obtain ⟨vs, H1, I1, r1, κ, a, xs, ex, s1', q⟩ := hh
  subst ex
  cases r1 with
  | cons q1 r1 =>
  cases r1
  cases q1
  obtain ⟨its, _, p1⟩ := s1'.get I1
  have la := p1.lt
  refine vl_enum1 (begins_src κ a its.toArray) p1 fun h' he g1 hk => wpAny_pyIter_enum he ?_
  refine ⟨_, [s1.heap.objs.size + 1, s1.heap.objs.size], _, _, H1, rfl, I1.kept (t' := s1.toks) hk, turn_enumK (κ := κ) (k := 0) (ne_new la) (Nat.succ_ne_self _) (Ne.symm (ne_new1 la 1)), ⟨⟨_, he⟩, own_begun g1⟩, fun c hc => ?_, q⟩
  have hle : s1.heap.objs.size ≤ c := by
    simp only [List.mem_cons, List.not_mem_nil, or_false] at hc
    rcases hc with z | z <;> rw [z]
    · exact Nat.le_add_right _ _
    · exact Nat.le_refl _
  exact I1.fpOk hle (I1.hok.fresh hle)
def sEnum (m : ME) : MI := fun ρ Q X => m ρ (fun r ρ' => ∃ d ds, val r = some d ∧ items d = some ds ∧ Q (enumD 0 ds) ρ') X
theorem mono_enum (h : Mono m) : Mono (sEnum m) := fun ρ Q Q' X X' hq hx => h ρ _ _ X X' (fun _ _ ⟨d, ds, a, b, q⟩ => ⟨d, ds, a, b, hq _ _ q⟩) hx
theorem si_enum (hg : Gl X "enumerate") (hm : X.mg "enumerate" = none) (h : SE X c W e m) (hs : starEach [e] X.env = [(false, eval e X.env)] := by rfl) :
    SI X c W (.Tuple elts kk tpos) (.Call (.Name "enumerate" p) [e] [] pos) (sEnum m) := by
  refine si_of (pi_enumK hg hm (pa_cons h.run pa_nil hs) hs) (mono_enum h.mo) fun σ H R' ⟨T, ρ, R, q⟩ => ?_
  refine ⟨T, ρ, R, h.mo _ _ _ _ _ (fun r ρ1 ⟨d, ds, ev, ei, q⟩ v H1 hr => ?_) (fun _ _ h => h) q⟩
  obtain ⟨R1, l1, o1⟩ := hr.opr
  obtain ⟨κ, a, ws, rfl, s1, r1⟩ := src_of (o1.rp ev) ei
  exact ⟨κ, a, ws, rfl, s1.le fr_le, q _ (Fr T ρ1 σ H1) H1 R1 l1 Le.refl (yl_enum s1 r1)⟩
end
end VL

set_option Elab.async false
set_option linter.all false
set_option maxRecDepth 100000
set_option maxHeartbeats 4000000
/-! VL10: for, while, list comprehensions. -/
namespace VL
open PySem PySem.Spec PyProof.Rows L2

/-! ### for -/
def forW (t : Tg) (body : MS) : List D → Env → Ks → Prop
  | [], ρ, k => k.nx ρ
  | d :: ds, ρ, k => Tg.put t d ρ fun ρ' => body ρ' ⟨fun ρ2 => forW t body ds ρ2 k, k.rt, k.nx, fun ρ2 => forW t body ds ρ2 k, k.ex⟩
def sFor (mi : MI) (t : Tg) (body : MS) : MS := fun ρ k => mi ρ (fun its ρ' => forW t body its ρ' k) k.ex
theorem forW_mono {t : Tg} {body : MS} (hb : MonoS body) : ∀ (ds : List D) (ρ : Env) (k k' : Ks), Ks.Le k k' → forW t body ds ρ k → forW t body ds ρ k'
  | [], ρ, k, k', l, q => l.nx _ q
  | d :: ds, ρ, k, k', l, q => Tg.put_mono _ _ _ _ _ (fun ρ' q => hb ρ' ⟨fun ρ2 => forW t body ds ρ2 k, k.rt, k.nx, fun ρ2 => forW t body ds ρ2 k, k.ex⟩ _ ⟨fun ρ2 q => forW_mono hb ds ρ2 k k' l q, l.rt, l.nx, fun ρ2 q => forW_mono hb ds ρ2 k k' l q, l.ex⟩ q) q
theorem monoS_for {mi : MI} {t : Tg} {body : MS} (hi : Mono mi) (hb : MonoS body) : MonoS (sFor mi t body) := fun ρ k k' l q => hi _ _ _ _ _ (fun its ρ' q => forW_mono hb _ _ _ _ l q) l.ex q
section
variable {K : PySem.W.Frag} {mg : Str → Option Value} {c : Cf} {W : WX} {T : List (Addr × HO)} {ρ : Env} {σ : L2.St} {H : Hp}
theorem Rel.rebase {B : Hp} (R : Rel K c T ρ σ H) (l : Le B (Fr T ρ σ H)) : Rel K ⟨B, c.io, c.T0⟩ T ρ σ H := ⟨R.len, R.inj, R.dis, R.tst, R.sl, l, R.io, R.t0⟩
theorem Rel.unbase {B : Hp} (R : Rel K ⟨B, c.io, c.T0⟩ T ρ σ H) (l : Le c.B B) : Rel K c T ρ σ H := ⟨R.len, R.inj, R.dis, R.tst, R.sl, l.trans R.base, R.io, R.t0⟩
theorem Res.unbase {B F : Hp} {r : Rs} {v : V} (h : Res K ⟨B, c.io, c.T0⟩ T F ρ σ H r v) (l : Le c.B B) : Res K c T F ρ σ H r v := by
  cases r with
  | vl d => exact ⟨h.1.unbase l, h.2.1, h.2.2⟩
  | fr d => obtain ⟨p, o, e, R, n, l', ob⟩ := h; exact ⟨p, o, e, R.unbase l, n, l', ob⟩
  | bo i => exact ⟨h.1.unbase l, h.2.1, h.2.2⟩
theorem ks_rebase {B : Hp} {D : Ends} (l : Le c.B B) {N : L2.St → Hp → Prop} {k : Ks} (hn : ∀ ρ, k.nx ρ → ∀ σ' H', Rel K ⟨B, c.io, c.T0⟩ c.T0 ρ σ' H' → N σ' H') (hc : ∀ ρ, k.ct ρ → ∀ σ' H', Rel K ⟨B, c.io, c.T0⟩ c.T0 ρ σ' H' → N σ' H')
    (hr : k.rt = (ksOf K mg c W D).rt) (hb : ∀ ρ, k.bk ρ → (ksOf K mg c W D).nx ρ) (hx : k.ex = (ksOf K mg c W D).ex) : Ks.Le k (ksOf K mg ⟨B, c.io, c.T0⟩ W { D with nx := N, ct := N, bk := D.nx }) where
  nx := hn
  rt := fun r ρ q v σ' H' hr' => by
    rw [hr] at q
    exact q v σ' H' ((hr'.unbase l).le l)
  bk := fun ρ q σ' H' R => hb _ q σ' H' (R.unbase l)
  ct := hc
  ex := fun x ρ q cls d σ' H' R e => by
    rw [hx] at q
    exact q cls d σ' H' (R.unbase l) e
end
section
variable {X : Cx} {c : Cf} {W : WX} {pos : Pos} {iter tg : Expr} {body : List Stmt} {mi : MI} {t : Tg} {mb : MS}
theorem ss_for (hp : PassesOwn (model X.prog X.w) X.A X.env X.xe) (hc : X.calm = true) (hi : SI X c W tg iter mi) (hg : ∀ B, SG X ⟨B, c.io, c.T0⟩ tg t) (hb : ∀ B, SSs X ⟨B, c.io, c.T0⟩ W body mb) (hs : ∀ x, foldedSetIterable iter X.env x = pure x := by intro _; rfl) :
    SS X c W (.For tg iter body [] pos) (sFor mi t mb) := by
  have mbm := (hb c.B).mo
  refine ⟨⟨fun pins s σ H D I q => ?_⟩, monoS_for hi.mo mbm⟩
  have hPS : PS X (.For tg iter body [] pos) (tFor (rdI X.K X.mg c W mi) (fun v σ H Q => ∃ B, gRd X.K ⟨B, c.io, c.T0⟩ t v σ H Q) (fun D σ H => ∃ B, rdS X.K X.mg ⟨B, c.io, c.T0⟩ W mb D σ H)) :=
    ps_for hp hc hi.run ⟨fun pins s σ H v u Q I r ⟨B, q⟩ => (hg B).run.run pins s σ H v u Q I r q⟩ ⟨fun pins s σ H D I ⟨B, q⟩ => (hb B).run.run pins s σ H D I q⟩ hs
  refine hPS.run pins s σ H D I ?_
  obtain ⟨ρ, R, q⟩ := q
  refine ⟨c.T0, ρ, R, hi.mo _ _ _ _ _ (fun its ρ1 q J F1 H1 R1 l1 lF Y => ?_) (fun x ρ' q => kx_of (T := c.T0) q) q⟩
  refine ⟨fun i m σ' H' => m + i = its.length ∧ ∃ ρ', Rel X.K ⟨Fr c.T0 ρ1 σ H1, c.io, c.T0⟩ c.T0 ρ' σ' H' ∧ forW t mb (its.drop i) ρ' (ksOf X.K X.mg c W D), ⟨its.length, rfl, ρ1, R1.rebase Le.refl, q⟩, fun i m σ' H' ⟨em, ρ', R', q'⟩ => ?_⟩
  have lb : Le c.B (Fr c.T0 ρ1 σ H1) := R1.base
  have lH : Le F1 H' := (lF.trans R'.base).trans fr_le
  by_cases hi' : i < its.length
  · refine .inr ⟨Y.go i H' hi' lH, fun σ2 H2 => ∃ ρ2, Rel X.K ⟨Fr c.T0 ρ1 σ H1, c.io, c.T0⟩ c.T0 ρ2 σ2 H2 ∧ forW t mb (its.drop (i + 1)) ρ2 (ksOf X.K X.mg c W D), fun σ2 H2 ⟨ρ2, R2, q2⟩ => ⟨m - 1, by omega, by omega, ρ2, R2, q2⟩, fun x H2 hy => ?_⟩
    obtain ⟨d, ed, l2, rp⟩ := Y.yl i H' x H2 hi' lH hy
    have e : its.drop i = d :: its.drop (i + 1) := by
      rw [List.drop_eq_getElem_cons hi']
      rw [List.getElem?_eq_getElem hi'] at ed
      rw [Option.some.inj ed]
    rw [e] at q'
    refine ⟨Fr c.T0 ρ1 σ H1, c.T0, ρ', d, R'.grow l2, rp _ (fun a h => R'.prot h) (lF.trans R'.base), Tg.put_mono _ _ _ _ _ (fun ρ2 q2 σ2 R2 _ _ => ?_) q'⟩
    refine ⟨Fr c.T0 ρ1 σ H1, ρ2, R2, mbm _ _ _ ?_ q2⟩
    exact ks_rebase lb (fun ρ3 q3 σ3 H3 R3 => ⟨ρ3, R3, q3⟩) (fun ρ3 q3 σ3 H3 R3 => ⟨ρ3, R3, q3⟩) rfl (fun ρ3 q3 => q3) rfl
  · have ei : i = its.length := by omega
    subst ei
    rw [List.drop_length] at q'
    exact .inl ⟨Y.stop H' lH, q' σ' H' (R'.unbase lb)⟩
end

/-! ### while -/
def whileW (t : MB) (body : MS) : Nat → Env → Ks → Prop
  | 0, _, _ => False
  | n + 1, ρ, k => t ρ (fun b ρ1 => if b = true then body ρ1 ⟨fun ρ2 => whileW t body n ρ2 k, k.rt, k.nx, fun ρ2 => whileW t body n ρ2 k, k.ex⟩ else k.nx ρ1) k.ex
def sWhile (t : MB) (body : MS) : MS := fun ρ k => ∃ n, whileW t body n ρ k
theorem whileW_mono {t : MB} {body : MS} (ht : Mono t) (hb : MonoS body) : ∀ (n : Nat) (ρ : Env) (k k' : Ks), Ks.Le k k' → whileW t body n ρ k → whileW t body n ρ k'
  | 0, ρ, k, k', l, q => q
  | n + 1, ρ, k, k', l, q => ht _ _ _ _ _ (fun b ρ1 q => by
    cases b with
    | true => exact hb ρ1 ⟨fun ρ2 => whileW t body n ρ2 k, k.rt, k.nx, fun ρ2 => whileW t body n ρ2 k, k.ex⟩ _ ⟨fun ρ2 q => whileW_mono ht hb n ρ2 k k' l q, l.rt, l.nx, fun ρ2 q => whileW_mono ht hb n ρ2 k k' l q, l.ex⟩ q
    | false => exact l.nx _ q) l.ex q
theorem monoS_while {t : MB} {body : MS} (ht : Mono t) (hb : MonoS body) : MonoS (sWhile t body) := fun ρ k k' l ⟨n, q⟩ => ⟨n, whileW_mono ht hb n ρ k k' l q⟩
section
variable {X : Cx} {c : Cf} {W : WX} {pos : Pos} {e : Expr} {body : List Stmt} {mt : MB} {mb : MS}
theorem ss_while (hp : PassesOwn (model X.prog X.w) X.A X.env X.xe) (ht : ST X c W e mt) (hb : SSs X c W body mb) : SS X c W (.While e body [] pos) (sWhile mt mb) := by
  refine ss_of (ps_while hp ht.run hb.run) (monoS_while ht.mo hb.mo) fun D σ H ⟨ρ, R, n, q⟩ => ?_
  refine ⟨fun m σ H => ∃ ρ, Rel X.K c c.T0 ρ σ H ∧ whileW mt mb m ρ (ksOf X.K X.mg c W D), ⟨n, ρ, R, q⟩, fun m σ H ⟨ρ, R, q⟩ => ?_⟩
  cases m with
  | zero => exact q.elim
  | succ m =>
    refine ⟨c.T0, ρ, R, ht.mo _ _ _ _ _ (fun b ρ1 q1 H1 ⟨R1, _⟩ => ?_) (fun x ρ' q => kx_of (T := c.T0) q) q⟩
    cases b with
    | true =>
      refine ⟨fun σ2 H2 => ∃ ρ2, Rel X.K c c.T0 ρ2 σ2 H2 ∧ whileW mt mb m ρ2 (ksOf X.K X.mg c W D), fun σ2 H2 h => ⟨m, Nat.lt_succ_self _, h⟩, ρ1, R1, hb.mo _ _ _ ?_ q1⟩
      exact ⟨fun ρ2 q σ2 H2 R2 => ⟨ρ2, R2, q⟩, fun r ρ2 q => q, fun ρ2 q => q, fun ρ2 q σ2 H2 R2 => ⟨ρ2, R2, q⟩, fun x ρ2 q => q⟩
    | false => exact q1 σ H1 R1
end

/-! ### list comprehensions -/
def okv (vs : List Nat) (ρ : Env) : Bool := vs.all fun i => match ρ[i]? with
  | some (.ow _) => false
  | _ => true
def wipeE : List Nat → Env → Env
  | [], ρ => ρ
  | v :: vs, ρ => (wipeE vs ρ).set v .no
def backE : List Nat → Env → Env → Env
  | [], _, ρ => ρ
  | v :: vs, ρ0, ρ => (backE vs ρ0 ρ).set v (ρ0.getD v .no)
def compW (vs : List Nat) (ρ0 : Env) (t : Tg) (mt : MB) (me : ME) : List D → List D → Env → (List D → Env → Prop) → Prop
  | [], acc, ρ, k => k acc ρ
  | d :: its, acc, ρ, k => Tg.put t d (wipeE vs ρ) fun ρ1 => mt ρ1 (fun b ρ2 =>
      if b = true then me ρ2 (fun r ρ3 => ∃ e, val r = some e ∧ compW vs ρ0 t mt me its (acc ++ [e]) (backE vs ρ0 ρ3) k) (fun _ _ => False)
      else compW vs ρ0 t mt me its acc (backE vs ρ0 ρ2) k) (fun _ _ => False)
def sComp (vs : List Nat) (mi : MI) (t : Tg) (mt : MB) (me : ME) : ME := fun ρ Q X => mi ρ (fun its ρ1 => okv vs ρ1 = true ∧ its.length ≤ sizeLine ∧ compW vs ρ1 t mt me its [] ρ1 (fun ds ρ2 => Q (.fr (.list ds)) ρ2)) X
theorem compW_mono {vs : List Nat} {ρ0 : Env} {t : Tg} {mt : MB} {me : ME} (ht : Mono mt) (he : Mono me) : ∀ (its acc : List D) (ρ : Env) (k k' : List D → Env → Prop), (∀ ds ρ, k ds ρ → k' ds ρ) → compW vs ρ0 t mt me its acc ρ k → compW vs ρ0 t mt me its acc ρ k'
  | [], acc, ρ, k, k', h, q => h _ _ q
  | d :: its, acc, ρ, k, k', h, q => Tg.put_mono _ _ _ _ _ (fun ρ1 q => ht _ _ _ _ _ (fun b ρ2 q => by
    cases b with
    | true => exact he _ _ _ _ _ (fun r ρ3 ⟨e, a, q⟩ => ⟨e, a, compW_mono ht he its _ _ k k' h q⟩) (fun _ _ z => z) q
    | false => exact compW_mono ht he its _ _ k k' h q) (fun _ _ z => z) q) q
theorem mono_comp {vs : List Nat} {mi : MI} {t : Tg} {mt : MB} {me : ME} (hi : Mono mi) (ht : Mono mt) (he : Mono me) : Mono (sComp vs mi t mt me) := fun ρ Q Q' X X' hq hx =>
  hi ρ _ _ X X' (fun its ρ1 ⟨a, b, q⟩ => ⟨a, b, compW_mono ht he its _ _ _ _ (fun ds ρ2 q => hq _ _ q) q⟩) hx
section
variable {K : PySem.W.Frag} {c : Cf} {T : List (Addr × HO)} {ρ ρ0 : Env} {σ σ2 : L2.St} {H H2 : Hp} {vs : List Nat}
theorem wipeE_len : ∀ {vs : List Nat}, (wipeE vs ρ).length = ρ.length
  | [] => rfl
  | v :: vs => by simp [wipeE, wipeE_len (vs := vs)]
theorem backE_len : ∀ {vs : List Nat}, (backE vs ρ0 ρ).length = ρ.length
  | [] => rfl
  | v :: vs => by simp [backE, backE_len (vs := vs)]
theorem wipeE_at : ∀ {vs : List Nat} {i : Nat} {s : Sl}, (wipeE vs ρ)[i]? = some s → (i ∈ vs ∧ s = .no) ∨ (i ∉ vs ∧ ρ[i]? = some s)
  | [], i, s, h => .inr ⟨by simp, h⟩
  | v :: vs, i, s, h => by
    by_cases hi : i = v
    · subst hi
      have hl : i < (wipeE vs ρ).length := by
        have := (List.getElem?_eq_some_iff.mp h).1
        simpa [wipeE] using this
      rw [wipeE, List.getElem?_set_self hl] at h
      exact .inl ⟨by simp, (Option.some.inj h).symm⟩
    · rw [wipeE, List.getElem?_set_ne (Ne.symm hi)] at h
      rcases wipeE_at h with q | q
      · exact .inl ⟨List.mem_cons_of_mem _ q.1, q.2⟩
      · exact .inr ⟨by simp [hi, q.1], q.2⟩
theorem backE_at : ∀ {vs : List Nat} {i : Nat} {s : Sl}, (backE vs ρ0 ρ)[i]? = some s → (i ∈ vs ∧ s = ρ0.getD i .no) ∨ (i ∉ vs ∧ ρ[i]? = some s)
  | [], i, s, h => .inr ⟨by simp, h⟩
  | v :: vs, i, s, h => by
    by_cases hi : i = v
    · subst hi
      have hl : i < (backE vs ρ0 ρ).length := by
        have := (List.getElem?_eq_some_iff.mp h).1
        simpa [backE] using this
      rw [backE, List.getElem?_set_self hl] at h
      exact .inl ⟨by simp, (Option.some.inj h).symm⟩
    · rw [backE, List.getElem?_set_ne (Ne.symm hi)] at h
      rcases backE_at h with q | q
      · exact .inl ⟨List.mem_cons_of_mem _ q.1, q.2⟩
      · exact .inr ⟨by simp [hi, q.1], q.2⟩
theorem wipe_at : ∀ {vs : List Nat} {i : Nat}, i ∉ vs → (wipe σ vs)[i]? = σ[i]?
  | [], i, _ => rfl
  | v :: vs, i, h => by
    have h1 : i ≠ v := fun e => h (by simp [e])
    have h2 : i ∉ vs := fun e => h (List.mem_cons_of_mem _ e)
    unfold wipe
    rw [List.getElem?_set_ne (Ne.symm h1)]
    exact wipe_at h2
theorem okv_at (h : okv vs ρ = true) {i : Nat} (hi : i ∈ vs) : ∀ d, ρ[i]? ≠ some (.ow d) := fun d e => by
  have := List.all_eq_true.mp h i hi
  rw [e] at this
  exact Bool.false_ne_true this
/-- the block begins: its own names are forgotten -/
theorem Rel.wiped (R : Rel K c T ρ σ H) (hv : okv vs ρ = true) (hio : c.io = none ∨ 0 ∉ vs) : Rel K c T (wipeE vs ρ) (wipe σ vs) H ∧ Fr T (wipeE vs ρ) (wipe σ vs) H = Fr T ρ σ H := by
  have ow : ∀ i a, OwnAt (wipeE vs ρ) (wipe σ vs) i a ↔ OwnAt ρ σ i a := fun i a => by
    constructor
    · rintro ⟨⟨d, e⟩, e2⟩
      rcases wipeE_at e with ⟨_, q⟩ | ⟨q, e⟩
      · cases q
      · rw [wipe_at q] at e2
        exact ⟨⟨d, e⟩, e2⟩
    · rintro ⟨⟨d, e⟩, e2⟩
      have hi : i ∉ vs := fun h => okv_at hv h d e
      refine ⟨⟨d, ?_⟩, by rw [wipe_at hi]; exact e2⟩
      have hl : i < (wipeE vs ρ).length := by rw [wipeE_len]; exact (List.getElem?_eq_some_iff.mp e).1
      rcases wipeE_at (List.getElem?_eq_getElem hl) with ⟨q, _⟩ | ⟨_, q⟩
      · exact absurd q hi
      · rw [List.getElem?_eq_getElem hl, ← q, e]
  have pr : ∀ a, Prot T (wipeE vs ρ) (wipe σ vs) a ↔ Prot T ρ σ a := fun a => or_congr (exists_congr fun i => ow i a) Iff.rfl
  have ef : Fr T (wipeE vs ρ) (wipe σ vs) H = Fr T ρ σ H := by
    funext a
    by_cases q : Prot T ρ σ a
    · exact (fz_yes ((pr a).mpr q)).trans (fz_yes q).symm
    · exact (fz_no fun z => q ((pr a).mp z)).trans (fz_no q).symm
  refine ⟨⟨by rw [wipeE_len, wipe_length]; exact R.len, fun i j a h1 h2 => R.inj i j a ((ow i a).mp h1) ((ow j a).mp h2), fun i a o h => R.dis i a o ((ow i a).mp h), R.tst, fun i s e => ?_, by rw [ef]; exact R.base, fun a e => ?_, R.t0⟩, ef⟩
  · rw [ef]
    rcases wipeE_at e with ⟨_, q⟩ | ⟨q, e⟩
    · subst q; trivial
    · have z := R.sl i s e
      cases s with
      | no => trivial
      | sh d => obtain ⟨v, a, r⟩ := z; exact ⟨v, by rw [wipe_at q]; exact a, r⟩
      | ow d => obtain ⟨v, a, r⟩ := z; exact ⟨v, by rw [wipe_at q]; exact a, r⟩
      | sc d => obtain ⟨v, a, r⟩ := z; exact ⟨v, by rw [wipe_at q]; exact a, r⟩
      | rf v => exact (wipe_at q).trans z
  · exact (ow 0 a).mpr (R.io a e)
/-- the block ends a turn: its own names have their values of ahead again -/
theorem Rel.backed {F0 : Hp} (R : Rel K c T ρ σ2 H2) (hl : ρ0.length = σ.length) (hs : wipe σ2 vs = wipe σ vs) (hv : okv vs ρ0 = true) (h0 : ∀ i ∈ vs, ∀ s, ρ0[i]? = some s → SlOk K F0 H σ i s) (l : Le F0 (Fr T ρ σ2 H2)) (hio : c.io = none ∨ 0 ∉ vs) :
    Rel K c T (backE vs ρ0 ρ) σ H2 ∧ Le (Fr T ρ σ2 H2) (Fr T (backE vs ρ0 ρ) σ H2) := by
  have sl : σ2.length = σ.length := by
    have := congrArg List.length hs
    rwa [wipe_length, wipe_length] at this
  have sv : ∀ i, i ∉ vs → σ2[i]? = σ[i]? := fun i hi => by rw [← wipe_at (σ := σ2) hi, hs, wipe_at hi]
  have ow : ∀ i a, OwnAt (backE vs ρ0 ρ) σ i a → OwnAt ρ σ2 i a := fun i a ⟨⟨d, e⟩, e2⟩ => by
    rcases backE_at e with ⟨q, z⟩ | ⟨q, e⟩
    · rw [List.getD_eq_getElem?_getD] at z
      cases h : ρ0[i]? with
      | none => rw [h] at z; cases z
      | some t =>
        rw [h] at z
        exact absurd (h.trans (congrArg some (show t = Sl.ow d from z.symm))) (okv_at hv q d)
    · exact ⟨⟨d, e⟩, by rw [sv i q]; exact e2⟩
  have lf : Le (Fr T ρ σ2 H2) (Fr T (backE vs ρ0 ρ) σ H2) := fz_mono (fun a _ h => by
    rcases h with ⟨i, h⟩ | h
    · exact .inl ⟨i, ow i a h⟩
    · exact .inr h) Le.refl
  refine ⟨⟨by rw [backE_len, R.len, sl], fun i j a h1 h2 => R.inj i j a (ow i a h1) (ow j a h2), fun i a o h => R.dis i a o (ow i a h), R.tst, fun i s e => ?_, R.base.trans lf, fun a e => ?_, R.t0⟩, lf⟩
  · rcases backE_at e with ⟨q, z⟩ | ⟨q, e⟩
    · rw [List.getD_eq_getElem?_getD] at z
      cases h : ρ0[i]? with
      | none => rw [h] at z; subst z; trivial
      | some t =>
        rw [h] at z
        have z : s = t := z
        subst z
        refine (h0 i q s h).le (l.trans lf) fun d es => ?_
        exact absurd (h.trans (congrArg some es)) (okv_at hv q d)
    · have z := (R.sl i s e).le lf (H' := H2) (fun _ _ _ _ => rfl)
      cases s with
      | no => trivial
      | sh d => obtain ⟨v, a, r⟩ := z; exact ⟨v, by rw [← sv i q]; exact a, r⟩
      | ow d => obtain ⟨v, a, r⟩ := z; exact ⟨v, by rw [← sv i q]; exact a, r⟩
      | sc d => obtain ⟨v, a, r⟩ := z; exact ⟨v, by rw [← sv i q]; exact a, r⟩
      | rf v => exact (sv i q).symm.trans z
  · obtain ⟨⟨d, e'⟩, e2⟩ := R.io a e
    rcases hio with q | q
    · rw [q] at e; cases e
    · have hl' : 0 < (backE vs ρ0 ρ).length := by rw [backE_len]; exact (List.getElem?_eq_some_iff.mp e').1
      refine ⟨⟨d, ?_⟩, by rw [← sv 0 q]; exact e2⟩
      rcases backE_at (List.getElem?_eq_getElem hl') with ⟨z, _⟩ | ⟨_, z⟩
      · exact absurd z q
      · rw [List.getElem?_eq_getElem hl', ← z, e']
end
end VL

set_option Elab.async false
set_option linter.all false
set_option maxRecDepth 100000
set_option maxHeartbeats 4000000
/-! VL11: list comprehensions: the rule. -/
namespace VL
open PySem PySem.Spec PyProof.Rows L2

/-- nothing is raised -/
abbrev W0 : WX := fun _ _ _ _ => False
structure STs (X : Cx) (c : Cf) (W : WX) (ifs : List Expr) (m : MB) : Prop where
  run : PTs X ifs (rdB X.K X.mg c W m)
  mo : Mono m
def sYes : MB := fun ρ Q _ => Q true ρ
theorem mono_yes : Mono sYes := fun _ _ _ _ _ hq _ h => hq _ _ h
section
variable {X : Cx} {c : Cf} {W : WX} {e : Expr} {m : MB}
theorem sts_nil : STs X c W [] sYes := ⟨⟨fun pins s σ H Q I ⟨T, ρ, R, q⟩ => (pts_nil (X := X)).run pins s σ H Q I (q H ⟨R, Le.refl⟩)⟩, mono_yes⟩
theorem sts_one (h : ST X c W e m) : STs X c W [e] m := ⟨pts_one h.run, h.mo⟩
end

section
variable {K : PySem.W.Frag} {c : Cf} {T : List (Addr × HO)} {ρ : Env} {σ σ2 : L2.St} {H : Hp} {vs ws : List Nat}
theorem wipe_in : ∀ {vs : List Nat} {i : Nat}, i ∈ vs → i < σ.length → (wipe σ vs)[i]? = some none
  | v :: vs, i, h, hl => by
    unfold wipe
    by_cases e : i = v
    · subst e
      rw [List.getElem?_set_self (by rw [wipe_length]; exact hl)]
    · rw [List.getElem?_set_ne (Ne.symm e)]
      rcases List.mem_cons.mp h with z | z
      · exact absurd z e
      · exact wipe_in z hl
theorem wipe_put (p : Put (wipe σ vs) σ2 ws) (h : ∀ i ∈ ws, i ∈ vs) : wipe σ2 vs = wipe σ vs := by
  have hl : σ2.length = σ.length := by rw [p.len, wipe_length]
  refine List.ext_getElem? fun i => ?_
  by_cases hi : i < σ.length
  · by_cases hv : i ∈ vs
    · rw [wipe_in hv hi, wipe_in hv (by rw [hl]; exact hi)]
    · rw [wipe_at hv, p.same i fun z => hv (h i z)]
  · rw [List.getElem?_eq_none (by rw [wipe_length]; omega), List.getElem?_eq_none (by rw [wipe_length]; omega)]
/-- an owned thing of ours is written -/
theorem prot_head {p : Addr} {o o' : HO} {a : Addr} : Prot ((p, o) :: T) ρ σ a ↔ Prot ((p, o') :: T) ρ σ a := by rw [prot_cons, prot_cons]
theorem fr_head {p : Addr} {o o' : HO} : Fr ((p, o) :: T) ρ σ H = Fr ((p, o') :: T) ρ σ (upd H p o') := by
  funext a
  by_cases q : Prot ((p, o) :: T) ρ σ a
  · exact (fz_yes q).trans (fz_yes (prot_head.mp q)).symm
  · refine (fz_no q).trans (Eq.trans ?_ (fz_no fun z => q (prot_head.mpr z)).symm)
    rw [upd_ne]
    rintro rfl
    exact q (prot_cons.mpr (.inl rfl))
theorem Rel.rehead {p : Addr} {o o' : HO} (R : Rel K c ((p, o) :: T) ρ σ H) (hn : ∀ u, (p, u) ∉ T) (hm : Mt o) (hm' : Mt o') : Rel K c ((p, o') :: T) ρ σ (upd H p o') where
  len := R.len
  inj := R.inj
  dis := fun i a u h hm => by
    rcases List.mem_cons.mp hm with e | hm
    · cases e; exact R.dis i p o h List.mem_cons_self
    · exact R.dis i a u h (List.mem_cons_of_mem _ hm)
  tst := fun a u h => by
    rcases List.mem_cons.mp h with e | h2
    · cases e; exact .inr ⟨upd_same, hm'⟩
    · exact (R.tst a u (List.mem_cons_of_mem _ h2)).upd (by rintro rfl; exact hn u h2) ((R.tst p o List.mem_cons_self).at hm.1) hm
  sl := fun i s e => by
    rw [← fr_head (o := o)]
    refine (R.sl i s e).le Le.refl fun d es a ea => ?_
    rw [upd_ne]
    rintro rfl
    subst es
    exact R.dis i a o ⟨⟨d, e⟩, ea⟩ List.mem_cons_self
  base := by rw [← fr_head (o := o)]; exact R.base
  io := R.io
  t0 := fun q b => ⟨fun h => (R.t0 q b).mp (List.mem_cons_of_mem _ (drop_head hm' h b)), fun h => List.mem_cons_of_mem _ (drop_head hm ((R.t0 q b).mpr h) b)⟩
theorem okv_back {ρ0 : Env} (h : okv vs ρ0 = true) : okv vs (backE vs ρ0 ρ) = true := by
  refine List.all_eq_true.mpr fun i hi => ?_
  cases e : (backE vs ρ0 ρ)[i]? with
  | none => rfl
  | some s =>
    rcases backE_at e with ⟨_, q⟩ | ⟨q, _⟩
    · cases s with
      | no => rfl
      | sh _ => rfl
      | sc _ => rfl
      | rf _ => rfl
      | ow d =>
        rw [List.getD_eq_getElem?_getD] at q
        cases h' : ρ0[i]? with
        | none => rw [h'] at q; cases q
        | some t => rw [h'] at q; exact absurd (h'.trans (congrArg some (show t = Sl.ow d from q.symm))) (okv_at h hi d)
    · exact absurd hi q
end

section
variable {X : Cx} {c : Cf} {W : WX} {pos : Pos} {iter tg elt : Expr} {ifs : List Expr} {scope : Scope} {own : List (Str × Nat)} {mi : MI} {t : Tg} {mt : MB} {me : ME}
theorem comp_core {vs : List Nat} (hi : Mono mi) (ht : Mono mt) (he : Mono me) (hsub : ∀ i ∈ t.slots, i ∈ vs) (hio : c.io = none ∨ 0 ∉ vs) {σ : L2.St} {H : Hp} {Q : VK} (h : rdE X.K X.mg c W (sComp vs mi t mt me) σ H Q) :
    tLc (rdI X.K X.mg c W mi) (gRd X.K c t) (rdB X.K X.mg c W0 mt) (rdE X.K X.mg c W0 me) vs σ H Q := by
  obtain ⟨T, ρ, R, q⟩ := h
  refine ⟨T, ρ, R, hi _ _ _ _ _ (fun its ρ1 ⟨ov, sz, q⟩ J F1 H1 R1 l1 lF Y => ?_) (fun _ _ h => h) q⟩
  intro A hA
  have nA : ∀ u, (A, u) ∉ T := fun u z => (R1.tst A u z).ne hA
  refine ⟨fun i m H' => m + i = its.length ∧ ∃ ρ' accD accV, Rel X.K c ((A, .lst accV) :: T) ρ' σ H' ∧ Le (Fr T ρ1 σ H1) (Fr ((A, .lst accV) :: T) ρ' σ H') ∧ RpA X.K (Fr ((A, .lst accV) :: T) ρ' σ H') accV accD ∧ accD.length ≤ i ∧ okv vs ρ' = true ∧
    compW vs ρ1 t mt me (its.drop i) accD ρ' (fun ds ρ2 => ∀ v H', Res X.K c T (Fr T ρ σ H) ρ2 σ H' (.fr (.list ds)) v → Q v H'), ⟨its.length, rfl, ρ1, [], [], R1.new hA mt_lst, fr_new hA, .nil, Nat.zero_le _, ov, q⟩, fun i m H' ⟨em, ρ', accD, accV, R', l', ra, hz, ov', q'⟩ => ?_⟩
  have lH : Le F1 H' := (lF.trans l').trans fr_le
  by_cases hi' : i < its.length
  · refine .inr ⟨Y.go i H' hi' lH, fun H2 => ∃ ρ2 accD2 accV2, Rel X.K c ((A, .lst accV2) :: T) ρ2 σ H2 ∧ Le (Fr T ρ1 σ H1) (Fr ((A, .lst accV2) :: T) ρ2 σ H2) ∧ RpA X.K (Fr ((A, .lst accV2) :: T) ρ2 σ H2) accV2 accD2 ∧ accD2.length ≤ i + 1 ∧ okv vs ρ2 = true ∧
      compW vs ρ1 t mt me (its.drop (i + 1)) accD2 ρ2 (fun ds ρ2 => ∀ v H', Res X.K c T (Fr T ρ σ H) ρ2 σ H' (.fr (.list ds)) v → Q v H'), fun H2 hN => ⟨m - 1, by omega, by omega, hN⟩, fun x H2 hy => ?_⟩
    have e : ∀ d, its[i]? = some d → its.drop i = d :: its.drop (i + 1) := fun d ed => by
      rw [List.drop_eq_getElem_cons hi']
      rw [List.getElem?_eq_getElem hi'] at ed
      rw [Option.some.inj ed]
    obtain ⟨Rw, ew⟩ := R'.wiped ov' hio
    obtain ⟨d, ed, l2, rp⟩ := Y.yl i H' x H2 hi' lH hy
    rw [e d ed] at q'
    have Rw2 := Rw.grow l2
    have lw : Le (Fr ((A, .lst accV) :: T) ρ' σ H') (Fr ((A, .lst accV) :: T) (wipeE vs ρ') (wipe σ vs) H2) := by rw [← ew]; exact fr_grow l2
    refine ⟨(A, .lst accV) :: T, wipeE vs ρ', d, Rw2, rp _ (fun a h => Rw.prot h) (by show Le F1 (Fr _ _ _ _); rw [ew]; exact lF.trans l'), Tg.put_mono _ _ _ _ _ (fun ρ3 q3 σ3 R3 l3 p3 => ?_) q'⟩
    have hw : wipe σ3 vs = wipe σ vs := wipe_put p3 hsub
    refine ⟨hw, (A, .lst accV) :: T, ρ3, R3, ht _ _ _ _ _ (fun b ρ4 q4 H4 ⟨R4, l4⟩ => ?_) (fun _ _ z => z.elim) q3⟩
    -- the slots of ahead stand where the turn ends
    have back : ∀ {TT : List (Addr × HO)} {ρ5 : Env} {σ5 : L2.St} {H5 : Hp}, Rel X.K c TT ρ5 σ5 H5 → wipe σ5 vs = wipe σ vs → Le (Fr T ρ1 σ H1) (Fr TT ρ5 σ5 H5) → Rel X.K c TT (backE vs ρ1 ρ5) σ H5 ∧ Le (Fr TT ρ5 σ5 H5) (Fr TT (backE vs ρ1 ρ5) σ H5) := fun R5 hw5 l5 => by
      refine Rel.backed (H := H1) R5 R1.len hw5 ov (fun j hj s es => ?_) l5 hio
      exact R1.sl j s es
    have lw4 : Le (Fr T ρ1 σ H1) (Fr ((A, .lst accV) :: T) ρ4 σ3 H4) := l'.trans (lw.trans (l3.trans l4))
    cases b with
    | false =>
      show (if false = true then _ else _)
      rw [if_neg Bool.false_ne_true] at q4 ⊢
      obtain ⟨R5, l5⟩ := back R4 hw lw4
      exact ⟨_, accD, accV, R5, lw4.trans l5, ra.le (lw.trans (l3.trans (l4.trans l5))), by omega, okv_back ov, q4⟩
    | true =>
      show (if true = true then _ else _)
      rw [if_pos rfl] at q4 ⊢
      refine ⟨(A, .lst accV) :: T, ρ4, R4, he _ _ _ _ _ (fun r ρ5 ⟨y, ey, q5⟩ v H5 hr => ?_) (fun _ _ z => z.elim) q4⟩
      obtain ⟨R5, l5, o5⟩ := hr.opr
      have rpy := o5.rp ey
      refine ⟨accV, (R5.tst A _ List.mem_cons_self).at mt_lst.1, by have := ra.length; omega, ?_⟩
      have R6 := R5.rehead (o' := .lst (accV ++ [v])) nA mt_lst mt_lst
      have lw5 : Le (Fr T ρ1 σ H1) (Fr ((A, .lst (accV ++ [v])) :: T) ρ5 σ3 (upd H5 A (.lst (accV ++ [v])))) := by
        rw [← fr_head (o := .lst accV)]
        exact lw4.trans l5
      obtain ⟨R7, l7⟩ := back R6 hw lw5
      refine ⟨_, accD ++ [y], accV ++ [v], R7, lw5.trans l7, ?_, by simp; omega, okv_back ov, q5⟩
      refine RpA.le l7 ?_
      rw [← fr_head (o := .lst accV)]
      exact (ra.le (lw.trans (l3.trans (l4.trans l5)))).app (.one rpy)
  · have ei : i = its.length := by omega
    subst ei
    rw [List.drop_length] at q'
    refine .inl ⟨Y.stop H' lH, q' _ _ ⟨A, .lst accV, rfl, R', nA, l1.trans l', ra⟩⟩
theorem se_comp (hc : X.calm = true) (hN : X.N.Nodup) (hi : SI X c W tg iter mi) (ok : BlkOk X.N X.env.scope scope own) (hsub : ∀ i ∈ t.slots, i ∈ own.map (·.2)) (hio : c.io = none ∨ 0 ∉ own.map (·.2))
    (hg : ∀ (s : Shared) (H : Hp) (C : Addr) (cl : List (Str × Addr)) (fp : List Addr), SG (X.blk s H scope (compEnvC scope cl C X.env) fp) c tg t) (ht : ∀ (s : Shared) (H : Hp) (C : Addr) (cl : List (Str × Addr)) (fp : List Addr), STs (X.blk s H scope (compEnvC scope cl C X.env) fp) c W0 ifs mt)
    (he : ∀ (s : Shared) (H : Hp) (C : Addr) (cl : List (Str × Addr)) (fp : List Addr), SE (X.blk s H scope (compEnvC scope cl C X.env) fp) c W0 elt me) (hs : ∀ x, foldedSetIterable iter X.env x = pure x := by intro _; rfl) :
    SE X c W (.ListComp elt [⟨tg, iter, ifs, 0⟩] scope pos) (sComp (own.map (·.2)) mi t mt me) := by
  have mt' : Mono mt := (ht ({} : Shared) (fun _ => none) 0 [] []).mo
  have me' : Mono me := (he ({} : Shared) (fun _ => none) 0 [] []).mo
  exact se_of (pe_lc hc hN hi.run ok (fun s H C cl fp => (hg s H C cl fp).run) (fun s H C cl fp => (ht s H C cl fp).run) (fun s H C cl fp => (he s H C cl fp).run) hs) (mono_comp hi.mo mt' me') fun σ H Q h => comp_core hi.mo mt' me' hsub hio h
/-- name = [..], the name a local, on one row -/
theorem ss_asgLc {i : Nat} {y : Str} {py spos : Pos} (hc : X.calm = true) (hN : X.N.Nodup) (hy : X.N[i]? = some y) (hyl : X.env.scope.names.lookup y = some .local) (hio2 : c.io = none ∨ i ≠ 0)
    (hsw : swapsWith (.ListComp elt [⟨tg, iter, ifs, 0⟩] scope pos) (some (.Name y py)) spos.line X.env = pure true) (hi : SI X c W tg iter mi) (ok : BlkOk X.N X.env.scope scope own) (hsub : ∀ i ∈ t.slots, i ∈ own.map (·.2)) (hio : c.io = none ∨ 0 ∉ own.map (·.2))
    (hg : ∀ (s : Shared) (H : Hp) (C : Addr) (cl : List (Str × Addr)) (fp : List Addr), SG (X.blk s H scope (compEnvC scope cl C X.env) fp) c tg t) (ht : ∀ (s : Shared) (H : Hp) (C : Addr) (cl : List (Str × Addr)) (fp : List Addr), STs (X.blk s H scope (compEnvC scope cl C X.env) fp) c W0 ifs mt)
    (he : ∀ (s : Shared) (H : Hp) (C : Addr) (cl : List (Str × Addr)) (fp : List Addr), SE (X.blk s H scope (compEnvC scope cl C X.env) fp) c W0 elt me) (hs : ∀ x, foldedSetIterable iter X.env x = pure x := by intro _; rfl) :
    SS X c W (.Assign [.Name y py] (.ListComp elt [⟨tg, iter, ifs, 0⟩] scope pos) spos) (sAsg i (sComp (own.map (·.2)) mi t mt me)) := by
  have mt' : Mono mt := (ht ({} : Shared) (fun _ => none) 0 [] []).mo
  have me' : Mono me := (he ({} : Shared) (fun _ => none) 0 [] []).mo
  have mo := mono_comp (vs := own.map (·.2)) (t := t) hi.mo mt' me'
  refine ss_of (ps_setLc (te := rdE X.K X.mg c W0 me) (tt := rdB X.K X.mg c W0 mt) (g := gRd X.K c t) hc hN hy hyl hsw hi.run ok (fun s H C cl fp => (hg s H C cl fp).run) (fun s H C cl fp => (ht s H C cl fp).run) (fun s H C cl fp => (he s H C cl fp).run) hs) (monoS_asg mo) fun D σ H h => ?_
  have z := asg_core (i := i) mo hio2 h
  exact comp_core hi.mo mt' me' hsub hio z
end
end VL

set_option Elab.async false
set_option linter.all false
set_option maxRecDepth 100000
set_option maxHeartbeats 4000000
/-! VL12: built-in calls, by data. -/
namespace VL
open PySem PySem.Spec PyProof.Rows L2

/-- what a call makes of data -/
abbrev SC := List D → (Rs → Prop) → Prop
def MonoC (s : SC) : Prop := ∀ ds (k k' : Rs → Prop), (∀ r, k r → k' r) → s ds k → s ds k'
def CallS (K : PySem.W.Frag) (r : List V → Hp → VK → Prop) (s : SC) : Prop := ∀ (c : Cf) (T : List (Addr × HO)) (ρ : Env) (σ : L2.St) (H : Hp) (vs : List V) (ds : List D) (Q : VK), Rel K c T ρ σ H → Paired (fun v d => Op K (Fr T ρ σ H) H v d) vs ds →
  s ds (fun rr => ∀ v H', Res K c T (Fr T ρ σ H) ρ σ H' rr v → Q v H') → r vs H Q
def sCall (s : SC) (ma : MA) : ME := fun ρ Q X => ma ρ (fun rs ρ' => ∃ ds, ress ρ' rs = some ds ∧ s ds fun r => Q r ρ') X
theorem mono_call {s : SC} {ma : MA} (hs : MonoC s) (h : Mono ma) : Mono (sCall s ma) := fun ρ Q Q' X X' hq hx q =>
  h _ _ _ _ _ (fun rs ρ' ⟨ds, e, q⟩ => ⟨ds, e, hs _ _ _ (fun r q => hq _ _ q) q⟩) hx q
section
variable {X : Cx} {c : Cf} {W : WX} {pos p : Pos} {e : Expr} {es : List Expr} {ma : MA} {x : Str} {id T : String} {r : List V → Hp → VK → Prop} {s : SC}
theorem call_core (os : CallS X.K r s) (hs : MonoC s) (ha : SA X c W es ma) {σ : L2.St} {H : Hp} {Q : VK} (h : rdE X.K X.mg c W (sCall s ma) σ H Q) : tCB r (rdA X.K X.mg c W ma) σ H Q := by
  obtain ⟨T, ρ, R, q⟩ := h
  refine ⟨T, ρ, R, ha.mo _ _ _ _ _ (fun rs ρ1 ⟨ds, e, q⟩ vs H1 ⟨R1, l1, o1⟩ => ?_) (fun _ _ h => h) q⟩
  exact os c T ρ1 σ H1 vs ds Q R1 (Opr.ops R1 o1 e) (hs _ _ _ (fun rr k v H' hr => k v H' (hr.le l1)) q)
theorem se_callB (hc : CallR X (.builtin id) r) (os : CallS X.K r s) (hs : MonoC s) (hg : Gl X x) (hm : X.mg x = none) (hv : bootBuiltins x = some (.builtin id)) (ha : SA X c W (e :: es) ma) (hn : x ≠ "__name__" := by decide) (hdb : (x == ("__debug__" : Str)) = false := by decide)
    (he : starEach (e :: es) X.env = (false, eval e X.env) :: starEach es X.env := by rfl) (hpl : (backTo pos (starEach es X.env)).any (·.1) = false := by rfl) : SE X c W (.Call (.Name x p) (e :: es) [] pos) (sCall s ma) :=
  se_of (pe_callB hc hg hm hv ha.run hn hdb he hpl) (mono_call hs ha.mo) fun _ _ _ h => call_core os hs ha h
theorem se_callTy (hc : CallR X (.type T) r) (os : CallS X.K r s) (hs : MonoC s) (hg : Gl X x) (hm : X.mg x = none) (hv : bootBuiltins x = some (.type T)) (ha : SA X c W (e :: es) ma) (hn : x ≠ "__name__" := by decide) (hdb : (x == ("__debug__" : Str)) = false := by decide)
    (he : starEach (e :: es) X.env = (false, eval e X.env) :: starEach es X.env := by rfl) (hpl : (backTo pos (starEach es X.env)).any (·.1) = false := by rfl) : SE X c W (.Call (.Name x p) (e :: es) [] pos) (sCall s ma) :=
  se_of (pe_callTy hc hg hm hv ha.run hn hdb he hpl) (mono_call hs ha.mo) fun _ _ _ h => call_core os hs ha h
theorem CallR.or {f : Value} {r r' : List V → Hp → VK → Prop} (h : CallR X f r) (h' : CallR X f r') : CallR X f (fun vs H Q => r vs H Q ∨ r' vs H Q) := fun pins s σ H xs us Q I rv q =>
  q.elim (h pins s σ H xs us Q I rv) (h' pins s σ H xs us Q I rv)
end
section
variable {K : PySem.W.Frag} {F H : Hp} {v : V} {d : D} {ds : List D} {kds : List (D × D)}
theorem ops1 {vs : List V} (h : Paired (fun v d => Op K F H v d) vs [d]) : ∃ v, vs = [v] ∧ Op K F H v d := by
  cases h with
  | cons a t => cases t; exact ⟨_, rfl, a⟩
theorem ops2 {vs : List V} {d2 : D} (h : Paired (fun v d => Op K F H v d) vs [d, d2]) : ∃ v w, vs = [v, w] ∧ Op K F H v d ∧ Op K F H w d2 := by
  cases h with
  | cons a t => cases t with
    | cons b t => cases t; exact ⟨_, _, rfl, a, b⟩
theorem Op.seq (l : Le F H) (h : Op K F H v d) (e : items d = some ds) : ∃ a vs, v = .ref a ∧ (SqL K H a vs ∨ SqT K H a vs) ∧ RpA K F vs ds := by
  cases d <;> simp only [items, reduceCtorEq, Option.some.injEq] at e
  · subst e
    obtain ⟨a, vs, rfl, e1, r⟩ := h.list l
    exact ⟨a, vs, rfl, .inl (SqL.of e1), r⟩
  · subst e
    obtain ⟨a, vs, rfl, e0, e1, r⟩ := h.tup l
    exact ⟨a, vs, rfl, .inr e1, r⟩
theorem Op.dict (l : Le F H) (h : Op K F H v (.dict kds)) : ∃ a kvs, v = .ref a ∧ H a = some (.dK kvs) ∧ RpK K F kvs kds := by
  cases h with
  | sh h => cases h with
    | dK s r => exact ⟨_, _, rfl, l _ _ s, r⟩
  | ow h =>
    rename_i a
    cases e : H a with
    | none => rw [e] at h; exact h.elim
    | some o =>
      rw [e] at h
      cases o <;> first | exact h.elim | exact ⟨_, _, rfl, e, h⟩
theorem RpK.length : ∀ {kvs : List (Key × V)} {ds : List (D × D)}, RpK K F kvs ds → kvs.length = ds.length
  | _, _, .nil => rfl
  | _, _, .cons _ r => by simp [RpK.length r]
theorem RpA.ints : ∀ {vs : List V} {ns : List Int}, RpA K F vs (ns.map PyData.int) → vs = ns.map V.int
  | _, [], .nil => rfl
  | _, _ :: _, .cons a r => by cases a; simp [RpA.ints r]
theorem RpA.bools : ∀ {vs : List V} {bs : List Bool}, RpA K F vs (bs.map PyData.bool) → vs = bs.map V.bl
  | _, [], .nil => rfl
  | _, _ :: _, .cons a r => by cases a; simp [RpA.bools r]
theorem RpA.of_ints : ∀ (ns : List Int), RpA K F (ns.map V.int) (ns.map PyData.int)
  | [] => .nil
  | n :: ns => .cons (.int n) (RpA.of_ints ns)
end

/-! ### len -/
def s_len : SC := fun ds k => match ds with
  | [.list xs] => k (.vl (.int xs.length))
  | [.tuple xs] => k (.vl (.int xs.length))
  | [.dict xs] => k (.vl (.int xs.length))
  | [.str x] => x.length ≤ sizeLine ∧ k (.vl (.int x.length))
  | _ => False
theorem mc_len : MonoC s_len := by
  intro ds k k' h q
  unfold s_len at *
  split at q <;> first | exact q.elim | exact h _ q | exact ⟨q.1, h _ q.2⟩
def r_len (K : PySem.W.Frag) : List V → Hp → VK → Prop := fun vs H Q => (∃ x n, vs = [x] ∧ LenV K x H n ∧ Q (.int n) H) ∨ (∃ a kvs, vs = [V.ref a] ∧ H a = some (.dK kvs) ∧ Q (.int kvs.length) H)
theorem cr_len {X : Cx} : CallR X (.builtin "len") (r_len X.K) := CallR.or call_len call_lenD
theorem cs_len {K : PySem.W.Frag} : CallS K (r_len K) s_len := by
  intro c T ρ σ H vs ds Q R o q
  unfold s_len at q
  split at q
  · obtain ⟨v, ev, o1⟩ := ops1 o
    subst ev
    obtain ⟨a, xs, rfl, e, r⟩ := o1.list fr_le
    exact .inl ⟨_, _, rfl, .inl ⟨xs, SqL.of e, rfl⟩, q _ _ (by rw [r.length]; exact res_vl R (.int _))⟩
  · obtain ⟨v, ev, o1⟩ := ops1 o
    subst ev
    obtain ⟨a, xs, rfl, e0, e, r⟩ := o1.tup fr_le
    exact .inl ⟨_, _, rfl, .inr ⟨xs, e, rfl⟩, q _ _ (by rw [r.length]; exact res_vl R (.int _))⟩
  · obtain ⟨v, ev, o1⟩ := ops1 o
    subst ev
    obtain ⟨a, kvs, rfl, e, r⟩ := o1.dict fr_le
    exact .inr ⟨a, kvs, rfl, e, q _ _ (by rw [r.length]; exact res_vl R (.int _))⟩
  · obtain ⟨v, ev, o1⟩ := ops1 o
    subst ev
    cases o1.str
    exact .inl ⟨_, _, rfl, ⟨q.1, rfl⟩, q.2 _ _ (res_vl R (.int _))⟩
  · exact q.elim

/-! ### int, abs, min, max of two -/
def s_int : SC := fun ds k => match ds with
  | [.int i] => k (.vl (.int i))
  | [.bool b] => k (.vl (.int (if b then 1 else 0)))
  | _ => False
theorem mc_int : MonoC s_int := by
  intro ds k k' h q
  unfold s_int at *
  split at q <;> first | exact q.elim | exact h _ q
theorem cs_int {K : PySem.W.Frag} : CallS K (fun xs H Q => (∃ i, xs = [.int i] ∧ Q (.int i) H) ∨ ∃ k, xs = [.bl k] ∧ Q (.int (if k then 1 else 0)) H) s_int := by
  intro c T ρ σ H vs ds Q R o q
  unfold s_int at q
  split at q
  · obtain ⟨v, ev, o1⟩ := ops1 o
    subst ev
    cases o1.int
    exact .inl ⟨_, rfl, q _ _ (res_vl R (.int _))⟩
  · obtain ⟨v, ev, o1⟩ := ops1 o
    subst ev
    cases o1.bool
    exact .inr ⟨_, rfl, q _ _ (res_vl R (.int _))⟩
  · exact q.elim
def absI (i : Int) : Int := if i < 0 then -i else i
def s_abs : SC := fun ds k => match ds with
  | [.int i] => k (.vl (.int (absI i)))
  | _ => False
theorem mc_abs : MonoC s_abs := by
  intro ds k k' h q
  unfold s_abs at *
  split at q <;> first | exact q.elim | exact h _ q
theorem cs_abs {K : PySem.W.Frag} : CallS K (fun xs H Q => ∃ i, xs = [.int i] ∧ Q (.int (if i < 0 then -i else i)) H) s_abs := by
  intro c T ρ σ H vs ds Q R o q
  unfold s_abs at q
  split at q
  · obtain ⟨v, ev, o1⟩ := ops1 o
    subst ev
    cases o1.int
    exact ⟨_, rfl, q _ _ (res_vl R (.int _))⟩
  · exact q.elim

/-! ### min, max: two ints; alike data in a list or a tuple -/
def minmax (mx : Bool) (x : D) (xs : List D) : D := if mx then PySem.W.maxD x xs else PySem.W.minD x xs
def s_mm (mx : Bool) : SC := fun ds k => match ds with
  | [.int i, .int j] => k (.vl (.int (if mx then (if j > i then j else i) else (if j < i then j else i))))
  | [d] => ∃ x xs, items d = some (x :: xs) ∧ PySem.W.AlikeAll (x :: xs) ∧ shp d = true ∧ k (.vl (minmax mx x xs))
  | _ => False
theorem mc_mm {mx : Bool} : MonoC (s_mm mx) := by
  intro ds k k' h q
  unfold s_mm at *
  split at q
  · exact h _ q
  · obtain ⟨x, xs, a, b, b2, q⟩ := q
    exact ⟨x, xs, a, b, b2, h _ q⟩
  · exact q.elim
end VL

set_option Elab.async false
set_option linter.all false
set_option maxRecDepth 100000
set_option maxHeartbeats 4000000
/-! VL13: min, max, sum, any, all, tuple, list, sorted. -/
namespace VL
open PySem PySem.Spec PyProof.Rows L2

theorem two_data {mx : Bool} {x : D} {xs : List D} {i : Nat}
    (e : i = argBest (fun i j => if mx then PySem.W.dataLt ((x :: xs).getD j .none) ((x :: xs).getD i .none) else PySem.W.dataLt ((x :: xs).getD i .none) ((x :: xs).getD j .none)) xs.length) : (x :: xs)[i]? = some (minmax mx x xs) := by
  have hg : ∀ {n : Nat}, n ≤ xs.length → (x :: xs)[n]? = some ((x :: xs).getD n .none) := fun {n} hn => by
    have h : n < (x :: xs).length := by simpa using Nat.lt_succ_of_le hn
    rw [List.getD_eq_getElem?_getD, List.getElem?_eq_getElem h]; rfl
  cases mx with
  | true =>
    obtain ⟨h1, h2⟩ := PySem.W.argBest_fold (fun a b => PySem.W.dataLt b a) PyData.none x xs xs.length (Nat.le_refl _)
    simp only [if_true] at e
    rw [← e] at h1 h2
    rw [hg h1, h2, List.take_length]
    rfl
  | false =>
    obtain ⟨h1, h2⟩ := PySem.W.argBest_fold PySem.W.dataLt PyData.none x xs xs.length (Nat.le_refl _)
    simp only [Bool.false_eq_true, if_false] at e
    rw [← e] at h1 h2
    rw [hg h1, h2, List.take_length]
    rfl
theorem vals_back_at {xs : List V} {us : List Value} {i : Nat} {u : Value} (r : Vals xs us) (e : us[i]? = some u) : ∃ x, xs[i]? = some x ∧ RelV x u := by
  have hi : i < us.length := (List.getElem?_eq_some_iff.mp e).1
  have hl := r.length
  obtain ⟨u', e', r'⟩ := r.get (i := i) (x := xs[i]'(by omega)) (by simp)
  rw [e] at e'; cases e'
  exact ⟨_, by simp, r'⟩
def r_mm (K : PySem.W.Frag) (mx : Bool) : List V → Hp → VK → Prop := fun vs H Q => (∃ i j, vs = [V.int i, V.int j] ∧ Q (.int (if mx then (if j > i then j else i) else (if j < i then j else i))) H) ∨
  ∃ a xs x rest, vs = [V.ref a] ∧ (SqL K H a xs ∨ SqT K H a xs) ∧ DpAll K H xs (x :: rest) ∧ PySem.W.AlikeAll (x :: rest) ∧ PyData.depthAll (x :: rest) ≤ 64 ∧ ∀ (i : Nat) (v : V), xs[i]? = some v → (x :: rest)[i]? = some (minmax mx x rest) → Q v H
section
variable {X : Cx} {k : Nat}
theorem cr_mmS {mx : Bool} (hr : Room k X.A) (hc : X.calm = true) : CallR X (.builtin (if mx then "max" else "min")) (fun vs H Q => ∃ a xs x rest, vs = [V.ref a] ∧ (SqL X.K H a xs ∨ SqT X.K H a xs) ∧ DpAll X.K H xs (x :: rest) ∧ PySem.W.AlikeAll (x :: rest) ∧ PyData.depthAll (x :: rest) ≤ 64 ∧
    ∀ (i : Nat) (v : V), xs[i]? = some v → (x :: rest)[i]? = some (minmax mx x rest) → Q v H) := by
  intro pins s σ H vs us Q I r h
  obtain ⟨a, xs, x, rest, rfl, hs, hd, hal, hdp, q⟩ := h
  rw [Vals.ref1 r]
  have hu := units_of hr
  have hh := I.ok.hd hc
  have fin : ∀ (its : List Value), Vals xs its → its.length = (x :: rest).length → ∀ (v : Value) (s' s₂ : Shared), its.toArray[argBest (fun i j => if mx then PySem.W.dataLt ((x :: rest).getD j .none) ((x :: rest).getD i .none) else PySem.W.dataLt ((x :: rest).getD i .none) ((x :: rest).getD j .none)) (its.toArray.size - 1)]? = some v →
      (∃ h' tk, s' = { s with heap := h', toks := tk } ∧ ∀ b o, s.heap.get? b = some o → h'.get? b = some o) → EP X pins σ Q v s' := by
    intro its rv hl v s' s₂ hP hm
    obtain ⟨h', tk, rfl, hk⟩ := hm
    have e1 : its.toArray.size - 1 = rest.length := by rw [List.size_toArray, hl]; rfl
    rw [e1, List.getElem?_toArray] at hP
    obtain ⟨y, ey, ry⟩ := vals_back_at rv hP
    exact ⟨y, H, I.kept hk, ry, q _ y ey (two_data rfl)⟩
  rcases hs with hs | hs
  · obtain ⟨its, rv, hl, _⟩ := I.list hs
    obtain ⟨as, hrd⟩ := Dp.readsAll I _ _ _ hd rv
    have hn : its.toArray.size = rest.length + 1 := PySem.W.readsAll_len (vs := its.toArray) hrd
    cases mx with
    | false =>
      refine PySem.call_min_walkH (PySem.W.iter_listW (A := X.A.in1) hh hl.isList fun s₂ e W st hfp hw hk => ?_)
      refine ⟨_, _, _, _, _, _, _, s.heap, _, rfl, W, st, hfp, by omega, hw, hk, PySem.W.cmpIn_lt (A := X.A.in1) (vs := its.toArray) hrd hal (by show X.A.units + 1 + _ < _; omega), fun v s' hP m => ?_⟩
      exact fin its rv (by simpa using hn) v s' s₂ (by simpa using hP) (PySem.W.moved_old e rfl m)
    | true =>
      refine PySem.call_max_walkH (PySem.W.iter_listW (A := X.A.in1) hh hl.isList fun s₂ e W st hfp hw hk => ?_)
      refine ⟨_, _, _, _, _, _, _, s.heap, _, rfl, W, st, hfp, by omega, hw, hk, PySem.W.cmpIn_gt (A := X.A.in1) (vs := its.toArray) hrd hal (by show X.A.units + 1 + _ < _; omega), fun v s' hP m => ?_⟩
      exact fin its rv (by simpa using hn) v s' s₂ (by simpa using hP) (PySem.W.moved_old e rfl m)
  · obtain ⟨its, rv, hl, _⟩ := I.tuple hs
    obtain ⟨as, hrd⟩ := Dp.readsAll I _ _ _ hd rv
    have hn : its.toArray.size = rest.length + 1 := PySem.W.readsAll_len (vs := its.toArray) hrd
    cases mx with
    | false =>
      refine PySem.call_min_walkH (PySem.W.iter_tupleW (A := X.A.in1) hh (show s.heap.IsTuple a its.toArray from hl) fun s₂ e W st hfp hw hk => ?_)
      refine ⟨_, _, _, _, _, _, _, s.heap, _, rfl, W, st, hfp, by omega, hw, hk, PySem.W.cmpIn_lt (A := X.A.in1) (vs := its.toArray) hrd hal (by show X.A.units + 1 + _ < _; omega), fun v s' hP m => ?_⟩
      exact fin its rv (by simpa using hn) v s' s₂ (by simpa using hP) (PySem.W.moved_old e rfl m)
    | true =>
      refine PySem.call_max_walkH (PySem.W.iter_tupleW (A := X.A.in1) hh (show s.heap.IsTuple a its.toArray from hl) fun s₂ e W st hfp hw hk => ?_)
      refine ⟨_, _, _, _, _, _, _, s.heap, _, rfl, W, st, hfp, by omega, hw, hk, PySem.W.cmpIn_gt (A := X.A.in1) (vs := its.toArray) hrd hal (by show X.A.units + 1 + _ < _; omega), fun v s' hP m => ?_⟩
      exact fin its rv (by simpa using hn) v s' s₂ (by simpa using hP) (PySem.W.moved_old e rfl m)
theorem cr_min (hr : Room k X.A) (hc : X.calm = true) : CallR X (.builtin "min") (r_mm X.K false) := CallR.or (by simpa using call_min2 hc) (cr_mmS (mx := false) hr hc)
theorem cr_max (hr : Room k X.A) (hc : X.calm = true) : CallR X (.builtin "max") (r_mm X.K true) := CallR.or (by simpa using call_max2 hc) (cr_mmS (mx := true) hr hc)
theorem shp_depth {d : D} {ds : List D} (h : shp d = true) (e : items d = some ds) : PyData.depthAll ds ≤ 64 ∧ PyData.canLayAll0 ds = true := by
  have h1 := SeqAt.depth_of_shaped h
  have h2 := shp_lay h
  cases d <;> simp only [items, reduceCtorEq, Option.some.injEq] at e
  · subst e
    simp only [PyData.depth] at h1
    simp only [PyData.canLay0] at h2
    exact ⟨by omega, h2⟩
  · subst e
    simp only [PyData.depth] at h1
    simp only [PyData.canLay0] at h2
    exact ⟨by omega, h2⟩
theorem cs_mm {K : PySem.W.Frag} {mx : Bool} : CallS K (r_mm K mx) (s_mm mx) := by
  intro c T ρ σ H vs ds Q R o q
  unfold s_mm at q
  split at q
  · obtain ⟨v, w, ev, o1, o2⟩ := ops2 o
    subst ev
    cases o1.int
    cases o2.int
    exact .inl ⟨_, _, rfl, q _ _ (res_vl R (.int _))⟩
  · obtain ⟨x, rest, e, al, sh, q⟩ := q
    obtain ⟨v, ev, o1⟩ := ops1 o
    subst ev
    obtain ⟨a, xs, rfl, hs, ra⟩ := o1.seq fr_le e
    obtain ⟨h1, h2⟩ := shp_depth sh e
    refine .inr ⟨a, xs, x, rest, rfl, hs, RpA.dp (ra.le fr_le) h2, al, h1, fun i v e1 e2 => ?_⟩
    obtain ⟨y, ey, ry⟩ := ra.get e1
    rw [e2] at ey; cases ey
    exact q _ _ (res_vl R ry)
  · exact q.elim
end

/-! ### sum -/
def s_sum : SC := fun ds k => match ds with
  | [d] => ∃ ns : List Int, items d = some (ns.map PyData.int) ∧ k (.vl (.int ns.sum))
  | _ => False
theorem mc_sum : MonoC s_sum := by
  intro ds k k' h q
  unfold s_sum at *
  split at q
  · obtain ⟨ns, e, q⟩ := q
    exact ⟨ns, e, h _ q⟩
  · exact q.elim
def r_sum (K : PySem.W.Frag) : List V → Hp → VK → Prop := fun vs H Q => rSum K vs H Q ∨ ∃ (a : Addr) (ns : List Int), vs = [V.ref a] ∧ SqT K H a (ns.map V.int) ∧ Q (.int ns.sum) H
theorem cr_sumT {X : Cx} (hc : X.calm = true) : CallR X (.builtin "sum") (fun vs H Q => ∃ (a : Addr) (ns : List Int), vs = [V.ref a] ∧ SqT X.K H a (ns.map V.int) ∧ Q (.int ns.sum) H) := by
  intro pins s σ H vs us Q I r h
  obtain ⟨a, ns, rfl, hs, q⟩ := h
  obtain ⟨its, rv, hl, _⟩ := I.tuple hs
  rw [Vals.ref1 r]
  have hi := rv.ints
  obtain ⟨xs, e⟩ := hi.allInts.items
  have hn : numsOf (intItems xs).toList = ns := by rw [← e]; exact hi.numsOf
  rw [nums_intItems] at hn
  have hl' : s.heap.IsTuple a its.toArray := hl
  rw [e] at hl'
  refine PySem.W.ktm_sumG (I.ok.hd hc) hl' fun h' tk t' hk => ?_
  rw [preSum_eq, List.take_of_length_le (by simp), hn]
  exact ⟨.int _, H, I.kept hk, ⟨_, rfl⟩, q⟩
theorem cr_sum {X : Cx} (hc : X.calm = true) : CallR X (.builtin "sum") (r_sum X.K) := CallR.or (L2.cr_sum hc) (cr_sumT hc)
theorem cs_sum {K : PySem.W.Frag} : CallS K (r_sum K) s_sum := by
  intro c T ρ σ H vs ds Q R o q
  unfold s_sum at q
  split at q
  · obtain ⟨ns, e, q⟩ := q
    obtain ⟨v, ev, o1⟩ := ops1 o
    subst ev
    obtain ⟨a, xs, rfl, hs, ra⟩ := o1.seq fr_le e
    cases ra.ints
    rcases hs with hs | hs
    · exact .inl ⟨a, ns, rfl, hs, q _ _ (res_vl R (.int _))⟩
    · exact .inr ⟨a, ns, rfl, hs, q _ _ (res_vl R (.int _))⟩
  · exact q.elim

/-! ### any, all of a list of bools -/
def s_aa (al : Bool) : SC := fun ds k => match ds with
  | [.list xs] => ∃ bs : List Bool, xs = bs.map PyData.bool ∧ k (.vl (.bool (if al then bs.all id else bs.any id)))
  | _ => False
theorem mc_aa {al : Bool} : MonoC (s_aa al) := by
  intro ds k k' h q
  unfold s_aa at *
  split at q
  · obtain ⟨ns, e, q⟩ := q
    exact ⟨ns, e, h _ q⟩
  · exact q.elim
theorem cs_aa {K : PySem.W.Frag} {al : Bool} : CallS K (if al then rAll K else rAny K) (s_aa al) := by
  intro c T ρ σ H vs ds Q R o q
  unfold s_aa at q
  split at q
  · obtain ⟨bs, e, q⟩ := q
    obtain ⟨v, ev, o1⟩ := ops1 o
    subst ev e
    obtain ⟨a, xs, rfl, hs, ra⟩ := o1.list fr_le
    cases ra.bools
    cases al with
    | true => exact ⟨a, bs, rfl, SqL.of hs, q _ _ (res_vl R (.bl _))⟩
    | false => exact ⟨a, bs, rfl, SqL.of hs, q _ _ (res_vl R (.bl _))⟩
  · exact q.elim

/-! ### tuple, list -/
def s_tuple : SC := fun ds k => match ds with
  | [.list xs] => k (.vl (.tuple xs))
  | [.tuple xs] => k (.vl (.tuple xs))
  | _ => False
theorem mc_tuple : MonoC s_tuple := by
  intro ds k k' h q
  unfold s_tuple at *
  split at q <;> first | exact q.elim | exact h _ q
theorem cs_tuple {K : PySem.W.Frag} : CallS K (fun xs H Q => ∃ p ys, xs = [.ref p] ∧ ((SqL K H p ys ∧ ∀ l, H l = none → Q (.ref l) (upd H l (.tup ys))) ∨ (SqT K H p ys ∧ Q (.ref p) H))) s_tuple := by
  intro c T ρ σ H vs ds Q R o q
  unfold s_tuple at q
  split at q
  · obtain ⟨v, ev, o1⟩ := ops1 o
    subst ev
    obtain ⟨a, xs, rfl, hs, ra⟩ := o1.list fr_le
    exact ⟨a, xs, rfl, .inl ⟨SqL.of hs, fun l hl => q _ _ (res_tup R hl ra)⟩⟩
  · obtain ⟨v, ev, o1⟩ := ops1 o
    subst ev
    obtain ⟨a, xs, rfl, h0, hs, ra⟩ := o1.tup fr_le
    exact ⟨a, xs, rfl, .inr ⟨hs, q _ _ (res_vl R (.tup h0 ra))⟩⟩
  · exact q.elim
theorem RpK.keys {K : PySem.W.Frag} {F : Hp} : ∀ {kvs : List (Key × V)} {ds : List (D × D)}, RpK K F kvs ds → RpA K F (kvs.map fun kv => kV kv.1) (ds.map Prod.fst)
  | _, _, .nil => .nil
  | _, _, .cons (k := k) _ r => .cons (by cases k; exact .int _; exact .str _) (RpK.keys r)
def s_list : SC := fun ds k => match ds with
  | [.list xs] => k (.fr (.list xs))
  | [.tuple xs] => k (.fr (.list xs))
  | _ => False
theorem mc_list : MonoC s_list := by
  intro ds k k' h q
  unfold s_list at *
  split at q <;> first | exact q.elim | exact h _ q
theorem cs_list {K : PySem.W.Frag} : CallS K (fun xs H Q => ∃ p ys, xs = [.ref p] ∧ (SqL K H p ys ∨ SqT K H p ys) ∧ ∀ l, H l = none → Q (.ref l) (upd H l (.lst ys))) s_list := by
  intro c T ρ σ H vs ds Q R o q
  unfold s_list at q
  split at q
  · obtain ⟨v, ev, o1⟩ := ops1 o
    subst ev
    obtain ⟨a, xs, rfl, hs, ra⟩ := o1.list fr_le
    exact ⟨a, xs, rfl, .inl (SqL.of hs), fun l hl => q _ _ (res_new (d := .list _) R hl ra)⟩
  · obtain ⟨v, ev, o1⟩ := ops1 o
    subst ev
    obtain ⟨a, xs, rfl, h0, hs, ra⟩ := o1.tup fr_le
    exact ⟨a, xs, rfl, .inr hs, fun l hl => q _ _ (res_new (d := .list _) R hl ra)⟩
  · exact q.elim
end VL

set_option Elab.async false
set_option linter.all false
set_option maxRecDepth 100000
set_option maxHeartbeats 4000000
/-! VL14: sorted: of alike data in a list, a tuple, a dict. -/
namespace PySem.W
open PySem PySem.Calls PyProof.Rows PySem.SeqAt
section
variable {prog : Program} {w : World} {A : Around} {E : Value → Shared → Prop} {s : Shared}
theorem vl_tuple_lt {Q : Value → Shared → Prop} {l b : Addr} {items items2 : Array Value} {e r : Nat → Bool} (hl : s.heap.IsTuple l items) (hb : s.heap.IsTuple b items2)
    (he : ∀ j (h1 : j < items.size) (h2 : j < items2.size), EqAt A.in1 s items[j] items2[j] (e j)) (hr : ∀ j (h1 : j < items.size) (h2 : j < items2.size), e j = false → RcLt A.in1 s items[j] items2[j] (r j))
    (h : Q (.bool (firstLt e r (decide (items.size < items2.size)) (List.range (min items.size items2.size)))) s) : wpAny (model prog w) A (call (.builtin "tuple.__lt__") [.ref l, .ref b]) Q E s := by
  obtain ⟨⟨cls, dd, data, sl⟩, ho, hc, n, hd⟩ := id hl
  obtain ⟨⟨cls2, dd2, data2, sl2⟩, ho2, hc2, n2, hd2⟩ := id hb
  simp only at hc hd hc2 hd2
  subst hc hd hc2 hd2
  exact call_meets F.slot_tuple_lt ⟨_, ho, rfl⟩ F.entry_tuple_lt (F.args_tuple_lt_2 _ _) (tuple_ltAt l b items items2 n n2 dd dd2 sl sl2 e r) ⟨ho, ho2, he, hr, h⟩
/-- two tuples of alike items, by tuple's own __lt__ -/
theorem vl_one_tup {xs ys : List PyData} {a b : Value} {as bs : List Addr} {Q : Bool → Shared → Prop} (ra : Reads s.heap a (.tuple xs) as) (rb : Reads s.heap b (.tuple ys) bs) (h : alike (.tuple xs) (.tuple ys) = true)
    (hu : A.units + min (PyData.tuple xs).depth (PyData.tuple ys).depth < cLine) (hq : Q (dataLt (.tuple xs) (.tuple ys)) s) : wpAny (model prog w) A (oneLt' true a b) Q E s := by
  have hal : alikeAll xs ys = true := by simpa [alike] using h
  cases ra with
  | @tuple l o vs n _ as₁ h1 h2 h3 h4 =>
    cases rb with
    | @tuple l' o' vs' n' _ bs₁ k1 k2 k3 k4 =>
      have n1 : vs.size = xs.length := by simpa using ReadsAll.length _ _ _ h4
      have n2 : vs'.size = ys.length := by simpa using ReadsAll.length _ _ _ k4
      rw [dataLt_tuple, ← firstLt_toks xs ys hal, ← n1, ← n2] at hq
      rw [oneLt'_eq]
      simp only [if_true]
      refine wpAny_bind (wpAny_cRoomFor (room_here hu) ?_)
      refine wpAny_bind (wpAny_callSpecialIfBound?_slot (T := "tuple") ⟨_, h1, h2⟩ F.slot_tuple_lt (vl_tuple_lt (e := pairEq xs ys) (r := fun j => dataLt (xs.getD j .none) (ys.getD j .none)) ⟨_, h1, h2, _, h3⟩ ⟨_, k1, k2, _, k3⟩ (fun j j1 j2 => ?_) (fun j j1 j2 hj => ?_) ?_))
      · have := eqAt_alikeAll xs ys A.in1 s vs.toList vs'.toList _ _ h4 k4 hal (room_in hu) j (by simpa using j1) (by simpa using j2)
        simpa using this
      · have := rcLt_alikeAll xs ys A.in1 s vs.toList vs'.toList _ _ h4 k4 hal (room_in hu) j (by simpa using j1) (by simpa using j2) hj
        simpa using this
      · exact wpAny_truthy_bool hq
theorem vl_firsts : ∀ (vs : List Value) (ds : List PyData) {Q : List (Option Value) → Shared → Prop}, EachIs (fun v d => ∃ as, Reads s.heap v d as) vs ds → (∀ d, d ∈ ds → ∃ xs, d = .tuple xs) →
    (∀ fs : List (Option Value), fs.length = ds.length → (∀ (i : Nat) (d : PyData), ds[i]? = some d → ∃ f : Option Value, fs[i]? = some f ∧ (f.isSome = false ↔ d = PyData.tuple [])) → Q fs s) → wpAny (model prog w) A (vs.mapM firstOfTuple') Q E s
  | _, _, Q, .nil, _, h => by rw [List.mapM_nil]; exact wpAny_pure (h [] rfl fun i d e => by simp at e)
  | v :: vs, d :: ds, Q, .cons ⟨as, r⟩ t, ht, h => by
    obtain ⟨xs, e⟩ := ht d List.mem_cons_self
    subst e
    rw [List.mapM_cons]
    refine wpAny_bind ?_
    rw [kas_first_eq]
    cases r with
    | @tuple a o ws n _ _ h1 h2 h3 h4 =>
      refine wpAny_bind (Looks.here (show Looks (model prog w) s.heap (typeOf (.ref a)) o.cls from (Looks.ld h1).andThen .now) ?_)
      rw [h2, if_neg (by first | decide | simp)]
      refine wpAny_bind (listItems_at h1 h3 (wpAny_pure ?_))
      refine wpAny_bind (vl_firsts vs ds (Q := fun bs s' => wpAny (model prog w) A (pure (ws[0]? :: bs)) Q E s') t (fun d hd => ht d (List.mem_cons_of_mem _ hd)) fun fs hl hf => wpAny_pure (h _ (by simp [hl]) fun i d e => ?_))
      cases i with
      | zero =>
        have e' : d = .tuple xs := by simpa using e.symm
        subst e'
        refine ⟨ws[0]?, rfl, ?_⟩
        have hl := ReadsAll.length _ _ _ h4
        simp only [Array.length_toList] at hl
        cases xs with
        | nil =>
          have : ws.size = 0 := by simpa using hl
          simp [this]
        | cons x xs =>
          have : 0 < ws.size := by rw [hl]; simp
          simp [Array.getElem?_eq_getElem this]
      | succ i => exact hf i d (by simpa using e)
/-- values that read as alike tuples, an empty one among them, can be sorted -/
theorem vl_mixed {vs : List Value} {ds : List PyData} (e : EachIs (fun v d => ∃ as, Reads s.heap v d as) vs ds) (hal : AllAlike ds) (ht : ∀ d, d ∈ ds → ∃ xs, d = .tuple xs) (hm : .tuple [] ∈ ds) (hu : ∀ d, d ∈ ds → A.units + d.depth < cLine) : SortsAt prog w A s (dataKind s.heap ds) vs := by
  have room : ∀ {d d' : PyData}, d ∈ ds → A.units + min d.depth d'.depth < cLine := fun {d d'} hd => Nat.lt_of_le_of_lt (Nat.add_le_add_left (Nat.min_le_left _ _) _) (hu d hd)
  refine ⟨fun v hv => ?_, ?_⟩
  · obtain ⟨d, hd, as, r⟩ := e.left v hv
    exact ⟨_, dataKind_some hal hd r⟩
  · obtain ⟨d₀, ds₀, eds⟩ : ∃ d₀ ds₀, ds = d₀ :: ds₀ := by
      cases ds with
      | nil => exact absurd hm (by simp)
      | cons d r => exact ⟨d, r, rfl⟩
    obtain ⟨j, hj, ej⟩ := List.getElem_of_mem hm
    have hj' : ds[j]? = some (.tuple []) := by rw [List.getElem?_eq_getElem hj, ej]
    have nall : ∀ fs : List (Option Value), (∀ (i : Nat) (d : PyData), ds[i]? = some d → ∃ f : Option Value, fs[i]? = some f ∧ (f.isSome = false ↔ d = PyData.tuple [])) → ¬ (fs.toArray.all (·.isSome) = true) := fun fs hf ha => by
      obtain ⟨f, e1, e2⟩ := hf j _ hj'
      simp only [List.all_toArray, List.all_eq_true] at ha
      have := ha f (List.mem_of_getElem? e1)
      rw [e2.mpr rfl] at this
      exact absurd this (by decide)
    by_cases h0 : d₀ = .tuple []
    · refine ⟨oneType', ?_, fun h2 E Q hq => ?_⟩
      · intro E x y a b Q ha hb hq
        obtain ⟨d, as, hd, ra, rfl⟩ := dataKind_inv ha
        obtain ⟨d', as', hd', rb, rfl⟩ := dataKind_inv hb
        obtain ⟨xs, rfl⟩ := ht d hd
        obtain ⟨ys, rfl⟩ := ht d' hd'
        rw [keyLt'_oneType]
        exact vl_one_tup ra rb (hal _ hd _ hd') (room hd) hq
      · rw [keyKind'_eq, List.mapM_toArray, map_eq_pure_bind]
        refine wpAny_bind (wpAny_bind (vl_firsts vs ds e ht fun fs hl hf => wpAny_pure ?_))
        rw [if_neg (nall fs hf)]
        obtain ⟨f, f1, f2⟩ := hf 0 d₀ (by rw [eds]; rfl)
        have f3 : ¬ ((fs.toArray[0]?.bind id).isSome = true) := by
          rw [List.getElem?_toArray, f1]
          have := f2.mpr h0
          cases f with
          | none => simp
          | some z => simp at this
        rw [if_neg f3, oneTypeOnly'_eq, List.mapM_toArray, map_eq_pure_bind]
        refine wpAny_bind (wpAny_bind (wpAny_bind (kas_mapM (r := Value.type "tuple") _ (fun v hv Q' hq => ?_) (wpAny_pure ?_))))
        · obtain ⟨d, hd, as, r⟩ := e.left v hv
          obtain ⟨xs, ex⟩ := ht d hd
          have := looks_reads (M := model prog w) r
          rw [ex] at this
          exact this.here hq
        · obtain ⟨v₀, vr, evs⟩ : ∃ v₀ vr, vs = v₀ :: vr := by
            cases vs with
            | nil => exact absurd h2 (by simp)
            | cons v r => exact ⟨v, r, rfl⟩
          have hall2 : ((List.map (fun _ => Value.type "tuple") vs).toArray.all fun x => x == Value.type "tuple") = true := by
            simp only [List.all_toArray, List.all_map, List.all_eq_true]
            intro _ _
            rfl
          have h0 : (List.map (fun _ => Value.type "tuple") vs).toArray[0]? = some (Value.type "tuple") := by simp [evs]
          rw [h0]
          simp only [hall2, if_true, Option.isSome_some]
          exact wpAny_pure (wpAny_pure hq)
    · refine ⟨general', ?_, fun h2 E Q hq => ?_⟩
      · intro E x y a b Q ha hb hq
        obtain ⟨d, as, hd, ra, rfl⟩ := dataKind_inv ha
        obtain ⟨d', as', hd', rb, rfl⟩ := dataKind_inv hb
        obtain ⟨xs, rfl⟩ := ht d hd
        obtain ⟨ys, rfl⟩ := ht d' hd'
        show wpAny (model prog w) A (oneLt' false x y) Q E s
        exact oneLt_alike (fun h => absurd h (by decide)) ra rb (hal _ hd _ hd') (fun z => nomatch z) (room hd) hq
      · rw [keyKind'_eq, List.mapM_toArray, map_eq_pure_bind]
        refine wpAny_bind (wpAny_bind (vl_firsts vs ds e ht fun fs hl hf => wpAny_pure ?_))
        rw [if_neg (nall fs hf)]
        obtain ⟨f, f1, f2⟩ := hf 0 d₀ (by rw [eds]; rfl)
        have f3 : (fs.toArray[0]?.bind id).isSome = true := by
          rw [List.getElem?_toArray, f1]
          cases f with
          | none => exact absurd (f2.mp rfl) h0
          | some z => simp
        rw [if_pos f3]
        exact wpAny_pure hq
/-- alike data that can be sorted: all tuples, or none a tuple or None -/
def SrtOk (ds : List PyData) : Prop := AllAlike ds ∧ ((∀ d, d ∈ ds → ∃ xs, d = .tuple xs) ∨ ∀ d, d ∈ ds → d ≠ .none ∧ ∀ xs, d ≠ .tuple xs)
theorem vl_sorts {vs : List Value} {ds : List PyData} (e : EachIs (fun v d => ∃ as, Reads s.heap v d as) vs ds) (h : SrtOk ds) (hu : ∀ d, d ∈ ds → A.units + d.depth < cLine) : SortsAt prog w A s (dataKind s.heap ds) vs := by
  obtain ⟨hal, ht | hn⟩ := h
  · by_cases hm : PyData.tuple [] ∈ ds
    · exact vl_mixed e hal ht hm hu
    · refine SortsAt.data e hal (.inl fun d hd => ?_) hu
      obtain ⟨xs, ex⟩ := ht d hd
      cases xs with
      | nil => subst ex; exact absurd hd hm
      | cons x r => exact ⟨x, r, ex⟩
  · exact SortsAt.data e hal (.inr hn) hu
theorem vl_sorted {x : Value} {Q : Value → Shared → Prop} (hcol : ∀ E' : Value → Shared → Prop, wpAny (model prog w) A.in1 (collect x) (fun vs s1 => ∃ h1 tk, s1 = { s with heap := h1, toks := tk } ∧ vs.length ≤ sizeLine ∧ ∃ κ,
      SortsAt prog w A.in1.in1 { s with heap := sortingHeap (h1.push (seqObj "list" vs.toArray 0)) h1.objs.size vs, toks := tk } κ vs ∧ Q (.ref h1.objs.size) { s with heap := sortedHeap (h1.push (seqObj "list" vs.toArray 0)) h1.objs.size vs (sortVals κ false vs vs).toArray, toks := tk }) E' s) :
    wpAny (model prog w) A (call (.builtin "sorted") [x]) Q E s := by
  refine Calls.call_function_entry PyProof.Rows.kind_sorted PyProof.Rows.plain_sorted PyProof.Rows.entry_sorted (PyProof.Rows.args_sorted1 _) ?_
  unfold Builtin.«sorted»
  refine wpAny_bind (m := checkCount "sorted" 1 1 _) (wpAny_pure ?_)
  refine wpAny_bind (wpAny_mono (hcol _) (fun vs s1 h => ?_) fun _ _ e => e)
  obtain ⟨h1, tk, e, hz, κ, S, q⟩ := h
  subst e
  refine wpAny_bind (wpAny_newList ?_ hz)
  have hoL : (h1.push (seqObj "list" vs.toArray 0)).get? h1.objs.size = some (seqObj "list" vs.toArray 0) := Heap.get?_push_size _ rfl
  show wpAny _ _ _ _ _ { s with heap := h1.push (seqObj "list" vs.toArray 0), toks := tk }
  refine wpAny_bind (wpAny_holding (wpAny_call_entry PyProof.Rows.slot_list_sort ⟨_, hoL, rfl⟩ PyProof.Rows.entry_list_sort
    (list_sort_vals (s := { s with heap := h1.push (seqObj "list" vs.toArray 0), toks := tk }) hoL S hz ⟨_, rfl, ?_⟩) (PyProof.Rows.args_list_sort _)))
  exact wpAny_pure ⟨_, rfl, q⟩
end
end PySem.W

set_option Elab.async false
set_option linter.all false
set_option maxRecDepth 100000
set_option maxHeartbeats 4000000
/-! VL15: sorted by data; isinstance; list(range(..)); dict(..). -/
namespace PySem.W
open PySem PySem.Calls PyProof.Rows
section
variable {prog : Program} {w : World} {A : Around} {E : Value → Shared → Prop} {s : Shared}
theorem vl_collectT {l : Addr} {vs : List Value} {Q : List Value → Shared → Prop} (hl : s.heap.IsTuple l vs.toArray)
    (h : Q vs { s with heap := (s.heap.push (seqObj "list" #[] 0)).update s.heap.objs.size (Obj.mapSeq (· ++ vs.toArray)) }) (hsz : vs.length ≤ sizeLine) :
    wpAny (model prog w) A (collect (.ref l)) Q E s := by
  obtain ⟨o, ho, hc, n, hd⟩ := id hl
  unfold collect
  refine wpAny_bind (wpAny_runValue (codeAny_builtin PyProof.Rows.entry_proto_collect' ?_))
  show wpAny _ _ (do again (.builtin "list.__iadd__" ⟨[← newList [], .ref l], []⟩)) _ _ s
  refine wpAny_bind (wpAny_newList (wpAny_pure ⟨Code.quiet_builtin _ (by decide +kernel), codeAny_builtin PyProof.Rows.entry_list_iadd' ?_⟩))
  show wpAny _ _ (Builtin.List.listExtendWith (.ref s.heap.objs.size) (.ref l) (.ref s.heap.objs.size)) _ _ { s with heap := s.heap.push (seqObj "list" #[] 0) }
  unfold Builtin.List.listExtendWith
  have ho' : (s.heap.push (seqObj "list" #[] 0)).get? l = some o := Heap.get?_push_of_some _ ho
  refine wpAny_bind (wpAny_typeOf (T := "tuple") ⟨o, ho', hc⟩ ?_)
  have ht : (Value.type "tuple" == Value.type "tuple") = true := by rfl
  rw [if_pos (by rw [ht]; simp)]
  refine wpAny_bind (listItems_at ho' hd ?_)
  refine wpAny_bind (listItems_at (xs := #[]) (n := 0) (Heap.get?_push_size _ rfl) rfl ?_)
  rw [if_neg (by simp)]
  refine wpAny_bind (listUpdate_at (xs := #[]) (n := 0) (Heap.get?_push_size _ rfl) rfl ?_ (Nat.zero_le _) (by show (#[] ++ vs.toArray).size ≤ sizeLine + 1; simp only [Array.size_append, List.size_toArray, List.length_nil]; omega))
  refine wpAny_pure ?_
  show wpAny (model prog w) A (do
      let o ← load s.heap.objs.size
      match o.data with
      | .seq xs _ => pure xs.toList
      | _ => unsupported "internal:collect") Q E { s with heap := (s.heap.push (seqObj "list" #[] 0)).update s.heap.objs.size (Obj.mapSeq (· ++ vs.toArray)) }
  refine wpAny_bind (wpAny_load (get?_update_seq (Heap.get?_push_size _ rfl) _) ?_)
  show wpAny _ _ (pure ((#[] : Array Value) ++ vs.toArray).toList) Q E _
  rw [show ((#[] : Array Value) ++ vs.toArray).toList = vs by simp]
  exact wpAny_pure h
theorem vl_each {α β : Type} {R : α → β → Prop} : ∀ {as : List α} {bs : List β}, as.length = bs.length → (∀ (i : Nat) a b, as[i]? = some a → bs[i]? = some b → R a b) → EachIs R as bs
  | [], [], _, _ => .nil
  | [], _ :: _, h, _ => by simp at h
  | _ :: _, [], h, _ => by simp at h
  | a :: as, b :: bs, h, f => .cons (f 0 a b rfl rfl) (vl_each (by simpa using h) fun i x y h1 h2 => f (i + 1) x y (by simpa using h1) (by simpa using h2))
theorem vl_keep {h : Heap} {vs : List Value} {n : Nat} : ∀ b o, h.get? b = some o → ((h.push (seqObj "list" #[] 0)).update h.objs.size (Obj.mapSeq (· ++ vs.toArray))).get? b = some o := fun b o e => by
  have hlt : b < h.objs.size := Heap.lt_size e
  rw [Heap.get?_update_ne _ _ _ _ (Nat.ne_of_lt hlt)]
  exact Heap.get?_push_of_some _ e
end
end PySem.W
namespace VL
open PySem PySem.Spec PyProof.Rows L2

noncomputable def srt (ds : List D) : List D := ds.mergeSort (PySem.W.dataLe (β := D) false id)
/-- what sorted can be asked of: the values xs within x -/
def SrcK (K : PySem.W.Frag) (H : Hp) (x : V) (xs : List V) : Prop := (∃ a, x = .ref a ∧ SqL K H a xs) ∨ (∃ a, x = .ref a ∧ SqT K H a xs) ∨ ∃ a kvs, x = .ref a ∧ H a = some (.dK kvs) ∧ xs = kvs.map fun kv => kV kv.1
def r_srt (K : PySem.W.Frag) : List V → Hp → VK → Prop := fun vs H Q => ∃ x xs ds, vs = [x] ∧ SrcK K H x xs ∧ DpAll K H xs ds ∧ PySem.W.SrtOk ds ∧ PyData.depthAll ds ≤ 62 ∧
  ∀ (ys : List V) (p : Addr), H p = none → Paired (fun y d => ∃ i : Nat, xs[i]? = some y ∧ ds[i]? = some d) ys (srt ds) → Q (.ref p) (upd H p (.lst ys))
theorem depth_mem : ∀ {ds : List D} {d : D}, d ∈ ds → d.depth ≤ PyData.depthAll ds
  | x :: xs, d, h => by
    simp only [PyData.depthAll]
    rcases List.mem_cons.mp h with e | h
    · subst e; exact Nat.le_max_left _ _
    · exact Nat.le_trans (depth_mem h) (Nat.le_max_right _ _)
theorem dpAll_len {K : PySem.W.Frag} {H : Hp} : ∀ {xs : List V} {ds : List D}, DpAll K H xs ds → xs.length = ds.length
  | _, _, .nil => rfl
  | _, _, .cons _ r => by simp [dpAll_len r]
section
variable {X : Cx} {k : Nat}
theorem cr_srt (hr : Room k X.A) (hc : X.calm = true) : CallR X (.builtin "sorted") (r_srt X.K) := by
  intro pins s σ H vs us Q I r h
  obtain ⟨x, xs, ds, rfl, hs, hd, ok, hdp, q⟩ := h
  obtain ⟨u, rfl, ru⟩ := vals1 r
  have hu := units_of hr
  have hh := I.ok.hd hc
  refine PySem.W.vl_sorted fun E' => ?_
  have fin : ∀ (its : List Value) (h1 : Heap) (tk : Nat), Vals xs its → (∀ b o, s.heap.get? b = some o → h1.get? b = some o) → ∃ h1' tk', { s with heap := h1, toks := tk } = { s with heap := h1', toks := tk' } ∧ its.length ≤ sizeLine ∧ ∃ κ,
      PySem.W.SortsAt X.prog X.w X.A.in1.in1 { s with heap := PySem.W.sortingHeap (h1'.push (seqObj "list" its.toArray 0)) h1'.objs.size its, toks := tk' } κ its ∧ EP X pins σ Q (.ref h1'.objs.size) { s with heap := PyProof.Rows.sortedHeap (h1'.push (seqObj "list" its.toArray 0)) h1'.objs.size its (PySem.W.sortVals κ false its its).toArray, toks := tk' } := by
    intro its h1 tk rv hk
    have I1 : Inv X pins σ H { s with heap := h1, toks := tk } := I.kept hk
    have hz : its.length ≤ sizeLine := by
      rw [← rv.length]
      rcases hs with ⟨a, _, hs⟩ | ⟨a, _, hs⟩ | ⟨a, kvs, _, hs, e⟩
      · obtain ⟨_, _, _, z⟩ := I.list hs; exact z
      · obtain ⟨_, _, _, z⟩ := I.tuple hs; exact z
      · obtain ⟨z, _⟩ := (show ObjOk X.prog X.w H s.heap a (.dK kvs) from I.hok a _ hs)
        rw [e, List.length_map]; exact z
    have hl : its.length = ds.length := rv.length.symm.trans (dpAll_len hd)
    obtain ⟨as, ra⟩ := Dp.readsAll I1 _ _ _ hd rv
    have er0 : PySem.W.EachIs (fun v d => ∃ as, Reads h1 v (id d) as) its ds := PySem.W.readsAll_each id (by rw [List.map_id]; exact ra)
    have hold : ∀ b o, h1.get? b = some o → (PySem.W.sortingHeap (h1.push (seqObj "list" its.toArray 0)) h1.objs.size its).get? b = some o := fun b o e =>
      PySem.W.sortingHeap_old (Nat.ne_of_lt (Heap.lt_size e)) (Heap.get?_push_of_some _ e)
    have er : PySem.W.EachIs (fun v d => ∃ as, Reads (PySem.W.sortingHeap (h1.push (seqObj "list" its.toArray 0)) h1.objs.size its) v (id d) as) its ds := er0.mono fun _ _ ⟨as, r⟩ => ⟨as, PyProof.Rows.Reads.keeps hold r⟩
    refine ⟨h1, tk, rfl, hz, PySem.W.dataKind (PySem.W.sortingHeap (h1.push (seqObj "list" its.toArray 0)) h1.objs.size its) ds, ?_, ?_⟩
    · exact PySem.W.vl_sorts (A := X.A.in1.in1) (s := { s with heap := PySem.W.sortingHeap (h1.push (seqObj "list" its.toArray 0)) h1.objs.size its, toks := tk }) er ok fun d hm => by
        have := depth_mem hm
        show X.A.units + 1 + 1 + _ < _
        omega
    · have eo : PySem.W.EachIs (fun v d => ∃ i : Nat, its[i]? = some v ∧ ds[i]? = some d) its ds := PySem.W.vl_each hl fun i a b e1 e2 => ⟨i, e1, e2⟩
      have out := PySem.W.sortVals_data (h' := PySem.W.sortingHeap (h1.push (seqObj "list" its.toArray 0)) h1.objs.size its) (enc := (id : D → D)) false eo er (by rw [List.map_id]; exact ok.1)
      rw [List.map_id] at out
      have back : ∀ {os : List Value} {es : List D}, PySem.W.EachIs (fun v d => ∃ i : Nat, its[i]? = some v ∧ ds[i]? = some d) os es → ∃ ys, Vals ys os ∧ Paired (fun y d => ∃ i : Nat, xs[i]? = some y ∧ ds[i]? = some d) ys es := by
        intro os es e
        induction e with
        | nil => exact ⟨[], .nil, .nil⟩
        | cons h t ih =>
          obtain ⟨i, e1, e2⟩ := h
          obtain ⟨ys, v, p⟩ := ih
          obtain ⟨y, ey, ry⟩ := vals_back_at rv e1
          exact ⟨y :: ys, .cons ry v, .cons ⟨i, ey, e2⟩ p⟩
      obtain ⟨ys, v, p⟩ := back out
      have hoL : (h1.push (seqObj "list" its.toArray 0)).get? h1.objs.size = some (seqObj "list" its.toArray 0) := Heap.get?_push_size _ rfl
      obtain ⟨e', he'⟩ := PyProof.Rows.sortedHeap_at (vs := its) (out := (PySem.W.sortVals (PySem.W.dataKind (PySem.W.sortingHeap (h1.push (seqObj "list" its.toArray 0)) h1.objs.size its) ds) false its its).toArray) hoL
      have hlen : ys.length ≤ sizeLine := by
        rw [v.length, PySem.W.sortVals_length false rfl]; exact hz
      refine ⟨.ref h1.objs.size, upd H h1.objs.size (.lst ys), I1.laid (t' := tk) (fun b u e => ?_) (Nat.le_refl _) (show ObjOk X.prog X.w _ _ _ (.lst ys) from ⟨hlen, _, e', v, he'⟩), rfl, q ys _ (I1.hok.fresh (Nat.le_refl _)) p⟩
      have hb : b < h1.objs.size := Heap.lt_size e
      rw [PyProof.Rows.sortedHeap_old (Nat.ne_of_lt hb) (by rw [size_push']; exact Nat.lt_succ_of_lt hb)]
      exact Heap.get?_push_of_some _ e
  have hs0 := hs
  rcases hs with ⟨a, rfl, hs⟩ | ⟨a, rfl, hs⟩ | ⟨a, kvs, rfl, hs, e⟩
  · cases ru
    obtain ⟨its, rv, pl, z⟩ := I.list hs
    exact PyProof.Rows.collect_list pl.isList (fin its _ s.toks rv (PySem.W.vl_keep (n := 0))) (by rw [← rv.length]; exact z)
  · cases ru
    obtain ⟨its, rv, pl, z⟩ := I.tuple hs
    exact PySem.W.vl_collectT pl (fin its _ s.toks rv (PySem.W.vl_keep (n := 0))) (by rw [← rv.length]; exact z)
  · cases ru
    obtain ⟨z, lo, vs, rk, dd⟩ := (show ObjOk X.prog X.w H s.heap a (.dK kvs) from I.hok a _ hs)
    obtain ⟨ep, hat⟩ := dd.dictAt
    have hl : kvs.length = vs.length := Paired.length rk
    refine PySem.W.kdu_collect (A := X.A.in1) (PySem.W.kdl_dict (knd := mixKind X.prog X.w) (kvs := vs) (ep := ep) lo) hh hat (by omega) fun h' tk acc hk hacc => fin acc.toList h' tk ?_ hk
    subst e
    refine vals_of_at (by have h1 := hacc.1; have h2 : acc.toList.length = acc.size := Array.length_toList; rw [List.length_map]; omega) fun j x w h1 h2 => ?_
    obtain ⟨k, y, hky, hi⟩ := hacc.2 j w (by rw [← Array.getElem?_toList]; exact h2)
    have e1 : (kvs.map (·.1))[j]? = some k := by
      rw [KV.keys rk, List.getElem?_map, hky] <;> rfl
    have e2 : (kvs.map fun kv => kV kv.1)[j]? = some (kV k) := by
      have e3 : (kvs.map fun kv => kV kv.1) = (kvs.map (·.1)).map kV := by rw [List.map_map] <;> rfl
      rw [e3, List.getElem?_map, e1] <;> rfl
    rw [e2] at h1
    cases h1
    exact keyIs_rel hi
end
/-- what a list, a tuple, a dict with plain keys gives when it is walked -/
def wlk : D → Option (List D)
  | .list ds => some ds
  | .tuple ds => some ds
  | .dict kvs => some (kvs.map Prod.fst)
  | _ => none
def atm : D → Bool
  | .int _ => true
  | .str x => PyData.strOk x
  | _ => false
def s_srt : SC := fun ds k => match ds with
  | [.dict kvs] => (∀ d ∈ kvs.map Prod.fst, atm d = true) ∧ PySem.W.SrtOk (kvs.map Prod.fst) ∧ k (.fr (.list (srt (kvs.map Prod.fst))))
  | [d] => ∃ xs, items d = some xs ∧ PySem.W.SrtOk xs ∧ shp d = true ∧ PyData.depthAll xs ≤ 62 ∧ k (.fr (.list (srt xs)))
  | _ => False
theorem mc_srt : MonoC s_srt := by
  intro ds k k' h q
  unfold s_srt at *
  split at q
  · exact ⟨q.1, q.2.1, h _ q.2.2⟩
  · obtain ⟨xs, a, b, b2, b3, q⟩ := q
    exact ⟨xs, a, b, b2, b3, h _ q⟩
  · exact q.elim
theorem atm_all : ∀ {ds : List D}, (∀ d ∈ ds, atm d = true) → PyData.canLayAll0 ds = true ∧ PyData.depthAll ds = 0
  | [], _ => ⟨by simp [PyData.canLayAll0], by simp [PyData.depthAll]⟩
  | d :: ds, h => by
    obtain ⟨h1, h2⟩ := atm_all (ds := ds) fun x hx => h x (List.mem_cons_of_mem _ hx)
    have h0 := h d List.mem_cons_self
    cases d <;> simp only [atm, Bool.false_eq_true] at h0
    · exact ⟨by simp [PyData.canLayAll0, h1, PyData.canLay0], by simp [PyData.depthAll, h2, PyData.depth]⟩
    · exact ⟨by simp [PyData.canLayAll0, h1, PyData.canLay0, h0], by simp [PyData.depthAll, h2, PyData.depth]⟩
theorem keysD_tuple {k : List Key} : ∃ l, keysD k = .tuple l := ⟨_, rfl⟩
theorem cs_srt {K : PySem.W.Frag} : CallS K (r_srt K) s_srt := by
  intro c T ρ σ H vs ds Q R o q
  unfold s_srt at q
  have out : ∀ {xs ys : List V} {es : List D}, RpA K (Fr T ρ σ H) xs es → Paired (fun y d => ∃ i : Nat, xs[i]? = some y ∧ es[i]? = some d) ys (srt es) → RpA K (Fr T ρ σ H) ys (srt es) := by
    intro xs ys es ra p
    generalize srt es = l at p
    induction p with
    | nil => exact .nil
    | cons h t ih =>
      obtain ⟨i, e1, e2⟩ := h
      obtain ⟨d, e3, rp⟩ := ra.get e1
      rw [e2] at e3; cases e3
      exact .cons rp ih
  split at q
  · rename_i kvs
    obtain ⟨ha, ok, q⟩ := q
    obtain ⟨v, ev, o1⟩ := ops1 o
    subst ev
    obtain ⟨a, kv, rfl, e, r⟩ := o1.dict fr_le
    obtain ⟨h1, h2⟩ := atm_all ha
    exact ⟨_, _, _, rfl, .inr (.inr ⟨a, kv, rfl, e, rfl⟩), RpA.dp (r.keys.le fr_le) h1, ok, by omega, fun ys p hp pr => q _ _ (res_new (d := .list _) R hp (out r.keys pr))⟩
  · obtain ⟨xs, e, ok, sh, dp, q⟩ := q
    obtain ⟨v, ev, o1⟩ := ops1 o
    subst ev
    obtain ⟨a, vs, rfl, hs, ra⟩ := o1.seq fr_le e
    obtain ⟨h1, h2⟩ := shp_depth sh e
    exact ⟨_, vs, xs, rfl, hs.elim (fun hs => .inl ⟨a, rfl, hs⟩) (fun hs => .inr (.inl ⟨a, rfl, hs⟩)), RpA.dp (ra.le fr_le) h2, ok, dp, fun ys p hp pr => q _ _ (res_new (d := .list _) R hp (out ra pr))⟩
  · exact q.elim
end VL

set_option Elab.async false
set_option linter.all false
set_option maxRecDepth 100000
set_option maxHeartbeats 4000000
/-! VL16: isinstance; list(range(..)); subscripts, slices. -/
namespace VL
open PySem PySem.Spec PyProof.Rows L2

/-! ### isinstance -/
def tyN : D → String
  | .none => "NoneType"
  | .bool _ => "bool"
  | .int _ => "int"
  | .str _ => "str"
  | .list _ => "list"
  | .tuple _ => "tuple"
  | .dict _ => "dict"
def isT (T : String) (d : D) : Bool := match T with
  | "int" => match d with
    | .int _ => true
    | .bool _ => true
    | _ => false
  | "bool" => match d with
    | .bool _ => true
    | _ => false
  | "str" => match d with
    | .str _ => true
    | _ => false
  | "list" => match d with
    | .list _ => true
    | _ => false
  | "tuple" => match d with
    | .tuple _ => true
    | _ => false
  | "dict" => match d with
    | .dict _ => true
    | _ => false
  | _ => false
def okT : List String := ["int", "bool", "str", "list", "tuple", "dict"]
theorem kit_isT {T : String} (h : T ∈ okT) (d : D) : kitB (tyN d) T = some (isT T d) := by
  simp only [okT, List.mem_cons, List.not_mem_nil, or_false] at h
  rcases h with rfl | rfl | rfl | rfl | rfl | rfl <;> cases d <;> (simp only [tyN, isT]; decide +kernel)
theorem tyX_rp {K : PySem.W.Frag} {H : Hp} {v : V} {d : D} (h : Rp K H v d) : TyX K H v (.type (tyN d)) := by
  cases h with
  | non => exact .base .non
  | bl b => exact .base (.bl b)
  | int i => exact .base (.int i)
  | str x => exact .base (.str x)
  | lst s _ => exact .base (.lst s)
  | tup s _ =>
    rcases s with s | ⟨o, _, _, hk, hc, _⟩
    · rcases s with s | ⟨o, s⟩
      · exact .base (.tup s)
      · exact .fTuple s
    · exact .kTuple hk hc
  | dK s _ => exact .base (.dK s)
def sIsi (T : String) (m : ME) : ME := fun ρ Q X => m ρ (fun r ρ' => ∃ d, res ρ' r = some d ∧ Q (.vl (.bool (isT T d))) ρ') X
def sIsi2 (T T' : String) (m : ME) : ME := fun ρ Q X => m ρ (fun r ρ' => ∃ d, res ρ' r = some d ∧ Q (.vl (.bool (isT T d || isT T' d))) ρ') X
theorem mono_isi {T : String} {m : ME} (h : Mono m) : Mono (sIsi T m) := fun ρ Q Q' X X' hq hx => h ρ _ _ X X' (fun _ _ ⟨d, e, q⟩ => ⟨d, e, hq _ _ q⟩) hx
theorem mono_isi2 {T T' : String} {m : ME} (h : Mono m) : Mono (sIsi2 T T' m) := fun ρ Q Q' X X' hq hx => h ρ _ _ X X' (fun _ _ ⟨d, e, q⟩ => ⟨d, e, hq _ _ q⟩) hx
section
variable {X : Cx} {c : Cf} {W : WX} {pos p p2 p3 p4 : Pos} {e : Expr} {m : ME} {x y : Str} {T T' : String}
theorem se_isi (hT : T ∈ okT) (hg : Gl X "isinstance") (hm : X.mg "isinstance" = none) (hgT : Gl X x) (hmT : X.mg x = none) (hv : bootBuiltins x = some (.type T)) (h : SE X c W e m)
    (hn : x ≠ "__name__" := by decide) (hdb : (x == ("__debug__" : Str)) = false := by decide)
    (he : starEach [e, .Name x p2] X.env = (false, eval e X.env) :: starEach [.Name x p2] X.env := by rfl) (he2 : starEach [.Name x p2] X.env = (false, eval (.Name x p2) X.env) :: starEach [] X.env := by rfl)
    (hpl : (backTo pos (starEach [.Name x p2] X.env)).any (·.1) = false := by rfl) : SE X c W (.Call (.Name "isinstance" p) [e, .Name x p2] [] pos) (sIsi T m) := by
  refine se_of (pe_callB call_isi hg hm PyProof.Rows.boot_isinstance (pa_cons h.run (pa_cons (pe_bltn (v := .ty T) hgT hmT hv rfl hn hdb) pa_nil he2) he) (by decide) (by decide) he hpl) (mono_isi h.mo) fun σ H Q ⟨T0, ρ, R, q⟩ => ?_
  refine ⟨T0, ρ, R, h.mo _ _ _ _ _ (fun r ρ1 ⟨d, e1, q⟩ v H1 hr => ?_) (fun _ _ h => h) q⟩
  obtain ⟨R1, l1, o1⟩ := hr.opr
  exact ⟨v, .ty T, _, _, _, rfl, .ty T, tyX_rp ((o1.op R1 e1).rp fr_le), kit_ty (kit_isT hT d), q _ _ ((res_vl R1 (.bl _)).le l1)⟩
theorem se_isi2 {kt : Nat} (hT : T ∈ okT) (hT' : T' ∈ okT) (hg : Gl X "isinstance") (hm : X.mg "isinstance" = none) (hgT : Gl X x) (hmT : X.mg x = none) (hv : bootBuiltins x = some (.type T)) (hgT' : Gl X y) (hmT' : X.mg y = none) (hv' : bootBuiltins y = some (.type T')) (h : SE X c W e m)
    (hn : x ≠ "__name__" := by decide) (hdb : (x == ("__debug__" : Str)) = false := by decide) (hn' : y ≠ "__name__" := by decide) (hdb' : (y == ("__debug__" : Str)) = false := by decide)
    (he : starEach [e, .Tuple [.Name x p2, .Name y p3] kt p4] X.env = (false, eval e X.env) :: starEach [.Tuple [.Name x p2, .Name y p3] kt p4] X.env := by rfl)
    (he2 : starEach [.Tuple [.Name x p2, .Name y p3] kt p4] X.env = (false, eval (.Tuple [.Name x p2, .Name y p3] kt p4) X.env) :: starEach [] X.env := by rfl)
    (he3 : starEach [.Name x p2, .Name y p3] X.env = (false, eval (.Name x p2) X.env) :: starEach [.Name y p3] X.env := by rfl) (he4 : starEach [.Name y p3] X.env = (false, eval (.Name y p3) X.env) :: starEach [] X.env := by rfl)
    (hpl : (backTo pos (starEach [.Tuple [.Name x p2, .Name y p3] kt p4] X.env)).any (·.1) = false := by rfl) : SE X c W (.Call (.Name "isinstance" p) [e, .Tuple [.Name x p2, .Name y p3] kt p4] [] pos) (sIsi2 T T' m) := by
  refine se_of (pe_callB call_isiT hg hm PyProof.Rows.boot_isinstance (pa_cons h.run (pa_cons (pe_tup (pa_cons (pe_bltn (v := .ty T) hgT hmT hv rfl hn hdb) (pa_cons (pe_bltn (v := .ty T') hgT' hmT' hv' rfl hn' hdb') pa_nil he4) he3)) pa_nil he2) he) (by decide) (by decide) he hpl) (mono_isi2 h.mo) fun σ H Q ⟨T0, ρ, R, q⟩ => ?_
  refine ⟨T0, ρ, R, h.mo _ _ _ _ _ (fun r ρ1 ⟨d, e1, q⟩ v H1 hr => ?_) (fun _ _ h => h) q⟩
  obtain ⟨R1, l1, o1⟩ := hr.opr
  refine ⟨by show 2 ≤ sizeLine; rw [sizeLine_eq]; omega, fun t ht => ?_⟩
  have rp : Rp X.K (upd H1 t (.tup [.ty T, .ty T'])) v d := ((o1.op R1 e1).rp fr_le).le (le_upd ht)
  refine ⟨v, t, [.ty T, .ty T'], .type (tyN d), [.type T, .type T'], (isT T d || isT T' d), rfl, upd_same, .cons (.ty T) (.cons (.ty T') .nil), tyX_rp rp, ?_, ?_⟩
  · refine kitAny_cons (kit_ty (kit_isT hT d)) (fun e0 => kitAny_cons (kit_ty (kit_isT hT' d)) (fun e1 => ?_) (fun e1 => ?_)) (fun e0 => ?_)
    · rw [e0, e1]; rfl
    · rw [e0, e1]; rfl
    · rw [e0]; rfl
  · exact q _ _ ⟨R1.grow (le_upd ht), l1.trans (fr_grow (le_upd ht)), .bl _⟩
end

/-! ### list(range(..)) -/
def sLRg1 (m : ME) : ME := fun ρ Q X => m ρ (fun r ρ' => ∃ j, r = .vl (.int j) ∧ 0 ≤ j ∧ j ≤ 1000000 ∧ Q (.fr (.list (rg 0 j.toNat))) ρ') X
theorem mono_lrg1 {m : ME} (h : Mono m) : Mono (sLRg1 m) := fun ρ Q Q' X X' hq hx => h ρ _ _ X X' (fun _ _ ⟨d, e, a, b, q⟩ => ⟨d, e, a, b, hq _ _ q⟩) hx
theorem rg_rp {K : PySem.W.Frag} {F : Hp} (a b : Int) : RpA K F (rgV a b) (rg a (b - a).toNat) := RpA.of_map (fun i : Nat => V.int (a + i)) (fun i : Nat => PyData.int (a + i)) _ fun i _ => .int _
section
variable {X : Cx} {c : Cf} {W : WX} {pos p p2 p3 : Pos} {e : Expr} {m : ME}
theorem se_listRg1 (hc : X.calm = true) (hg : Gl X "list") (hm : X.mg "list" = none) (hg2 : Gl X "range") (hm2 : X.mg "range" = none) (h : SE X c W e m)
    (hs : starEach [e] X.env = (false, eval e X.env) :: starEach [] X.env := by rfl) (hs2 : starEach [.Call (.Name "range" p2) [e] [] p3] X.env = (false, eval (.Call (.Name "range" p2) [e] [] p3) X.env) :: starEach [] X.env := by rfl) :
    SE X c W (.Call (.Name "list" p) [.Call (.Name "range" p2) [e] [] p3] [] pos) (sLRg1 m) := by
  refine se_of (pe_listRg hc hg hm (prg_1 hg2 hm2 h.run hs) hs2) (mono_lrg1 h.mo) fun σ H Q ⟨T, ρ, R, q⟩ => ?_
  refine ⟨T, ρ, R, h.mo _ _ _ _ _ (fun r ρ1 ⟨j, e1, b0, b1, q⟩ v H1 hr => ?_) (fun _ _ h => h) q⟩
  subst e1
  obtain ⟨R1, l1, rp⟩ := hr
  cases rp
  refine ⟨j, rfl, RgOk.of_le (by omega) (by omega) (by omega) (by omega), fun p hp => q _ _ ((res_new (d := .list _) R1 hp ?_).le l1)⟩
  have := rg_rp (K := X.K) (F := Fr T ρ1 σ H1) 0 j
  rw [Int.sub_zero] at this
  exact this
end

/-! ### a[i] -/
def s_ix : S2 := fun d e k => match e with
  | .int i => match d with
    | .list ds => ∃ y, atI ds i = some y ∧ k (.vl y)
    | .tuple ds => ∃ y, atI ds i = some y ∧ k (.vl y)
    | .str x => ∃ c, atI x.cps.toList i = some c ∧ x.length ≤ sizeLine ∧ k (.vl (.str ⟨#[c]⟩))
    | _ => False
  | _ => False
theorem m_ix : Mono2 s_ix := by
  intro d e k k' h q
  unfold s_ix at *
  cases e <;> first | exact q.elim | skip
  cases d <;> first | exact q.elim | skip
  · obtain ⟨y, a, b, q⟩ := q
    exact ⟨y, a, b, h _ q⟩
  · obtain ⟨y, a, q⟩ := q
    exact ⟨y, a, h _ q⟩
  · obtain ⟨y, a, q⟩ := q
    exact ⟨y, a, h _ q⟩
theorem atI_len {α β : Type} {xs : List α} {ys : List β} {i : Int} {y : β} (hl : xs.length = ys.length) (h : atI ys i = some y) : ∃ j : Nat, ys[j]? = some y ∧ ∀ x, xs[j]? = some x → atI xs i = some x := by
  unfold atI at *
  rw [hl]
  cases e : ixN ys.length i with
  | none => rw [e] at h; cases h
  | some j =>
    rw [e] at h
    exact ⟨j, h, fun x hx => hx⟩
theorem os_ix {K : PySem.W.Frag} : OpS K (rIx K) s_ix := by
  intro c T ρ σ H x y d e Q R hx hy q
  unfold s_ix at q
  cases e <;> first | exact q.elim | skip
  cases hy.int
  cases d <;> first | exact q.elim | skip
  · cases hx.str
    obtain ⟨z, a, b, q⟩ := q
    exact .inr (.inr ⟨_, _, _, rfl, rfl, b, a, q _ _ (res_vl R (.str _))⟩)
  · obtain ⟨y, a, q⟩ := q
    obtain ⟨l, xs, rfl, e1, r1⟩ := hx.list fr_le
    obtain ⟨j, h1, h2⟩ := atI_len r1.length a
    obtain ⟨x, h3, h4⟩ := r1.get' h1
    exact .inl ⟨l, xs, _, x, rfl, rfl, SqL.of e1, h2 x h3, q _ _ (res_vl R h4)⟩
  · obtain ⟨y, a, q⟩ := q
    obtain ⟨l, xs, rfl, f1, e1, r1⟩ := hx.tup fr_le
    obtain ⟨j, h1, h2⟩ := atI_len r1.length a
    obtain ⟨x, h3, h4⟩ := r1.get' h1
    exact .inr (.inl ⟨l, xs, _, x, rfl, rfl, e1, h2 x h3, q _ _ (res_vl R h4)⟩)
section
variable {X : Cx} {c : Cf} {W : WX} {pos p2 : Pos} {a b e : Expr} {ma mb m : ME}
theorem se_ix (ha : SE X c W a ma) (hb : SE X c W b mb) (hs : PlainIx b := by intro _ _; rfl) : SE X c W (.Subscript a b pos) (sBin s_ix ma mb) :=
  se_of (pe_ix ix_seq ha.run hb.run hs) (mono_bin m_ix ha.mo hb.mo) fun _ _ _ h => bin_core os_ix m_ix ha hb h

/-! ### a[lo:hi] -/
abbrev MO := Env → (Option Int → Env → Prop) → (Ex → Env → Prop) → Prop
def rdO (K : PySem.W.Frag) (mg : Str → Option Value) (c : Cf) (W : WX) (m : MO) : TO := fun σ H Q => ∃ T ρ, Rel K c T ρ σ H ∧ m ρ (fun o ρ' => ∀ H', ResB K c T (Fr T ρ σ H) ρ' σ H' → Q o H') (kX K mg c W T (Fr T ρ σ H) σ)
structure SO (X : Cx) (c : Cf) (W : WX) (e : Option Expr) (m : MO) : Prop where
  run : PO X e (rdO X.K X.mg c W m)
  mo : Mono m
def sPn : MO := fun ρ Q _ => Q none ρ
def sPs (m : ME) : MO := fun ρ Q X => m ρ (fun r ρ' => ∃ i, r = .vl (.int i) ∧ Q (some i) ρ') X
theorem so_none : SO X c W none sPn :=
  ⟨⟨fun pins s σ H Q I ⟨T, ρ, R, q⟩ => (po_none (X := X)).run pins s σ H Q I (q H ⟨R, Le.refl⟩)⟩, fun _ _ _ _ _ hq _ h => hq _ _ h⟩
theorem so_some (h : SE X c W e m) : SO X c W (some e) (sPs m) := by
  refine ⟨⟨fun pins s σ H Q I ⟨T, ρ, R, q⟩ => (po_some h.run).run pins s σ H Q I ⟨T, ρ, R, h.mo _ _ _ _ _ (fun r ρ1 ⟨i, e1, q⟩ v H1 hr => ?_) (fun _ _ h => h) q⟩⟩, fun ρ Q Q' X X' hq hx => h.mo ρ _ _ X X' (fun _ _ ⟨i, e, q⟩ => ⟨i, e, hq _ _ q⟩) hx⟩
  subst e1
  obtain ⟨R1, l1, rp⟩ := hr
  cases rp
  exact ⟨i, rfl, q _ ⟨R1, l1⟩⟩
def cutD (xs : List D) (lo hi : Option Int) : List D := (xs.drop (HT.sIx xs.length 0 lo)).take (HT.sIx xs.length xs.length hi - HT.sIx xs.length 0 lo)
theorem cut_rp {K : PySem.W.Frag} {F : Hp} {vs : List V} {ds : List D} (r : RpA K F vs ds) (lo hi : Option Int) : RpA K F (cutV vs lo hi) (cutD ds lo hi) := by
  unfold cutV cutD
  rw [r.length]
  exact (r.drop _).take _
def s_sl (d : D) (lo hi : Option Int) (k : Rs → Prop) : Prop := match d with
  | .list ds => k (.fr (.list (cutD ds lo hi)))
  | .tuple ds => k (.vl (.tuple (cutD ds lo hi)))
  | _ => False
def sSl (m : ME) (l h : MO) : ME := fun ρ Q X => m ρ (fun r ρ1 => l ρ1 (fun lo ρ2 => h ρ2 (fun hi ρ3 => ∃ d, res ρ3 r = some d ∧ s_sl d lo hi fun r => Q r ρ3) X) X) X
theorem m_sl {d : D} {lo hi : Option Int} {k k' : Rs → Prop} (h : ∀ r, k r → k' r) (q : s_sl d lo hi k) : s_sl d lo hi k' := by
  cases d <;> first | exact q.elim | exact h _ q
theorem mono_sl {m : ME} {l h : MO} (hm : Mono m) (hl : Mono l) (hh : Mono h) : Mono (sSl m l h) := fun ρ Q Q' X X' hq hx q =>
  hm _ _ _ _ _ (fun r ρ1 q => hl _ _ _ _ _ (fun lo ρ2 q => hh _ _ _ _ _ (fun hi ρ3 ⟨d, e, q⟩ => ⟨d, e, m_sl (fun r q => hq _ _ q) q⟩) hx q) hx q) hx q
theorem se_slice {lo hi : Option Expr} {ml mh : MO} (h : SE X c W e m) (hl : SO X c W lo ml) (hh : SO X c W hi mh) : SE X c W (.Subscript e (.Slice lo hi none p2) pos) (sSl m ml mh) := by
  refine se_of (pe_slice (SlR.or sl_list sl_tupA) h.run hl.run hh.run) (mono_sl h.mo hl.mo hh.mo) fun σ H Q ⟨T, ρ, R, q⟩ => ?_
  refine ⟨T, ρ, R, h.mo _ _ _ _ _ (fun r ρ1 q v H1 hr => ?_) (fun _ _ h => h) q⟩
  obtain ⟨R1, l1, o1⟩ := hr.opr
  refine ⟨T, ρ1, R1, hl.mo _ _ _ _ _ (fun lo ρ2 q H2 hr2 => ?_) (fun x ρ' h => kX_le l1 h) q⟩
  obtain ⟨R2, l2⟩ := hr2
  refine ⟨T, ρ2, R2, hh.mo _ _ _ _ _ (fun hi ρ3 ⟨d, e1, q⟩ H3 hr3 => ?_) (fun x ρ' h => kX_le (l1.trans l2) h) q⟩
  obtain ⟨R3, l3⟩ := hr3
  have o3 := ((o1.le l2).le l3).op R3 e1
  have l := l1.trans (l2.trans l3)
  cases d <;> first | exact q.elim | skip
  · obtain ⟨a, xs, rfl, e1, r1⟩ := o3.list fr_le
    exact .inl ⟨a, xs, rfl, SqL.of e1, fun p hp => q _ _ ((res_new (o := .lst (cutV xs lo hi)) (d := .list (cutD _ lo hi)) R3 hp (cut_rp r1 lo hi)).le l)⟩
  · obtain ⟨a, xs, rfl, f1, e1, r1⟩ := o3.tup fr_le
    refine .inr ⟨a, xs, rfl, e1, fun hw => ?_, fun _ p hp => q _ _ ((res_tup R3 hp (cut_rp r1 lo hi)).le l)⟩
    refine q _ _ ((res_vl R3 (.tup f1 ?_)).le l)
    have e : cutV xs lo hi = xs := by unfold cutV; rw [hw.1, hw.2]; simp
    have := cut_rp r1 lo hi
    rw [e] at this
    exact this
end
end VL

set_option Elab.async false
set_option linter.all false
set_option maxRecDepth 100000
set_option maxHeartbeats 4000000
/-! VL17: an own thing is written: list methods; x[i] = v. -/
namespace VL
open PySem PySem.Spec PyProof.Rows L2

section
variable {K : PySem.W.Frag} {c : Cf} {T : List (Addr × HO)} {ρ : Env} {σ : L2.St} {H : Hp} {i : Nat} {a : Addr} {d d' : D} {o : HO}
theorem own_write (e : ρ[i]? = some (.ow d)) {j : Nat} {b : Addr} : OwnAt (ρ.set i (.ow d')) σ j b ↔ OwnAt ρ σ j b := by
  have hlt : i < ρ.length := (List.getElem?_eq_some_iff.mp e).1
  unfold OwnAt
  by_cases hj : j = i
  · subst hj
    rw [List.getElem?_set_self hlt, e]
    simp
  · rw [List.getElem?_set_ne (Ne.symm hj)]
theorem prot_write (e : ρ[i]? = some (.ow d)) {b : Addr} : Prot T (ρ.set i (.ow d')) σ b ↔ Prot T ρ σ b := by
  unfold Prot
  simp only [own_write e]
theorem fr_write (e : ρ[i]? = some (.ow d)) (ha : Prot T ρ σ a) : Fr T (ρ.set i (.ow d')) σ (upd H a o) = Fr T ρ σ H := by
  funext b
  by_cases hp : Prot T ρ σ b
  · show Fz _ _ b = Fz _ _ b
    rw [fz_yes ((prot_write e).mpr hp), fz_yes hp]
  · have hb : b ≠ a := fun z => hp (z ▸ ha)
    show Fz _ _ b = Fz _ _ b
    rw [fz_no (fun z => hp ((prot_write e).mp z)), fz_no hp, upd_ne hb]
theorem Rel.write (R : Rel K c T ρ σ H) (e : ρ[i]? = some (.ow d)) (ea : σ[i]? = some (some (.ref a))) (ob : Ob K (Fr T ρ σ H) (some o) d') : Rel K c T (ρ.set i (.ow d')) σ (upd H a o) := by
  have hlt : i < ρ.length := (List.getElem?_eq_some_iff.mp e).1
  have ho : OwnAt ρ σ i a := ⟨⟨d, e⟩, ea⟩
  have ef : Fr T (ρ.set i (.ow d')) σ (upd H a o) = Fr T ρ σ H := fr_write e (.inl ⟨i, ho⟩)
  refine ⟨by simpa using R.len, fun x y b hx hy => R.inj x y b ((own_write e).mp hx) ((own_write e).mp hy), fun x b u hx => R.dis x b u ((own_write e).mp hx), fun b u hm => ?_, fun j s ej => ?_, by rw [ef]; exact R.base, fun b eb => (own_write e).mpr (R.io b eb), R.t0⟩
  · have hb : b ≠ a := fun z => R.dis i a u ho (z ▸ hm)
    obtain ⟨d2, _, ob2⟩ := R.own ho
    obtain ⟨w, ew⟩ := ob2.has
    rw [ew] at ob2
    exact (R.tst b u hm).upd hb ew ob2.mt
  · rw [ef]
    by_cases hj : j = i
    · subst hj
      rw [List.getElem?_set_self hlt] at ej
      cases ej
      exact ⟨a, ea, by rw [upd_same]; exact ob⟩
    · rw [List.getElem?_set_ne (Ne.symm hj)] at ej
      refine (R.sl j s ej).le Le.refl fun d2 es b eb => ?_
      subst es
      have hb : b ≠ a := fun z => by
        subst z
        exact hj (R.inj j i b ⟨⟨d2, ej⟩, eb⟩ ho)
      exact upd_ne hb
end

/-- what a method makes of the receiver's datum and the arguments: its result and the receiver's datum behind it -/
abbrev SM := D → List D → (D → D → Prop) → Prop
def MonoM (s : SM) : Prop := ∀ d ds (k k' : D → D → Prop), (∀ r e, k r e → k' r e) → s d ds k → s d ds k'
def MutS (K : PySem.W.Frag) (r : V → List V → Hp → VK → Prop) (s : SM) : Prop := ∀ (F H : Hp) (a : Addr) (d : D) (vs : List V) (ds : List D) (Q : VK), Le F H → Ob K F (H a) d → RpA K F vs ds →
  s d ds (fun dd d' => ∀ v o, Rp K F v dd → Ob K F (some o) d' → Q v (upd H a o)) → r (.ref a) vs H Q
def isLst : D → Prop
  | .list _ => True
  | _ => False
def sMut (i : Nat) (s : SM) (ma : MA) : ME := fun ρ Q X => (∃ xs, ρ[i]? = some (.ow (.list xs))) ∧ ma ρ (fun rs ρ' => ∃ d ds, ρ'[i]? = some (.ow d) ∧ vals rs = some ds ∧ s d ds fun r d' => Q (.vl r) (ρ'.set i (.ow d'))) X
theorem mono_mut {i : Nat} {s : SM} {ma : MA} (hs : MonoM s) (h : Mono ma) : Mono (sMut i s ma) := fun ρ Q Q' X X' hq hx q =>
  ⟨q.1, h _ _ _ _ _ (fun rs ρ' ⟨d, ds, a, b, q⟩ => ⟨d, ds, a, b, hs _ _ _ _ (fun r e q => hq _ _ q) q⟩) hx q.2⟩
section
variable {X : Cx} {c : Cf} {W : WX} {pos p apos cpos : Pos} {x name : Str} {e : Expr} {es : List Expr} {ma : MA} {i : Nat} {id : String} {r : V → List V → Hp → VK → Prop} {s : SM}
theorem mut_core (os : MutS X.K r s) (hs : MonoM s) (ha : SA X c W es ma) {σ : L2.St} {H : Hp} {Q : VK} (h : rdE X.K X.mg c W (sMut i s ma) σ H Q) : tBM X.K "list" r (tVar i) (rdA X.K X.mg c W ma) σ H Q := by
  obtain ⟨T, ρ, R, ⟨xs, e0⟩, q⟩ := h
  obtain ⟨a, ea, ob⟩ := R.sl i _ e0
  refine ⟨.ref a, ea, ?_, ?_⟩
  · obtain ⟨vs, e1, _⟩ := ob.lst
    exact .inl ⟨rfl, vs, SqL.of e1⟩
  · refine ⟨T, ρ, R, ha.mo _ _ _ _ _ (fun rs ρ1 ⟨d, ds, e1, e2, q⟩ vs H1 ⟨R1, l1, o1⟩ => ?_) (fun _ _ h => h) q⟩
    obtain ⟨a', ea', ob1⟩ := R1.sl i _ e1
    rw [ea] at ea'; cases ea'
    refine os _ H1 a d vs ds Q fr_le ob1 (Opr.rps o1 e2) (hs _ _ _ _ (fun rr d' k v o rv ob' => k v _ ?_) q)
    have ef : Fr T (ρ1.set i (.ow d')) σ (upd H1 a o) = Fr T ρ1 σ H1 := fr_write e1 (.inl ⟨i, ⟨_, e1⟩, ea⟩)
    exact ⟨R1.write e1 ea ob', by rw [ef]; exact l1, by rw [ef]; exact rv⟩
/-- x.m(e, ..), x an own list -/
theorem se_mut (slot : Slot "list" name id) (hty : typeOf (.builtin id) = pure (.type "method_descriptor")) (hm : MtR X id r) (os : MutS X.K r s) (hs : MonoM s) (hN : X.N[i]? = some x) (hv : Vis X.env.scope x) (ha : SA X c W (e :: es) ma)
    (hd : (x == ("__debug__" : Str)) = false := by decide) (hcd : (x == ("__classdict__" : Str)) = false := by decide)
    (hbase : attributeBase (.Name x p) name X.env (eval (.Name x p) X.env) = eval (.Name x p) X.env := by rfl)
    (hfew : ((backTo cpos (starEach (e :: es) X.env)).all (fun x => !x.1) && (backToKw cpos (keywordEach [] X.env)).all (fun x => x.1.isSome)
      && decide ((e :: es).length + ([] : List Keyword).length + (if ([] : List Keyword).isEmpty then 0 else 1) < 30)) = true := by rfl)
    (hline : (apos.endLine == cpos.line) = true := by rfl) (he : starEach (e :: es) X.env = (false, eval e X.env) :: starEach es X.env := by rfl) (hplain : (backTo cpos (starEach es X.env)).any (·.1) = false := by rfl) :
    SE X c W (.Call (.Attribute (.Name x p) name apos) (e :: es) [] cpos) (sMut i s ma) :=
  se_of (pe_bm PySem.F.plainAttrs_list slot hty hm (pe_var hN hv hd hcd) ha.run hbase hfew hline he hplain) (mono_mut hs ha.mo) fun _ _ _ h => mut_core os hs ha h
end
def sMut0 (i : Nat) (s : SM) : ME := fun ρ Q _ => ∃ xs, ρ[i]? = some (.ow (.list xs)) ∧ s (.list xs) [] fun r d' => Q (.vl r) (ρ.set i (.ow d'))
theorem mono_mut0 {i : Nat} {s : SM} (hs : MonoM s) : Mono (sMut0 i s) := fun ρ Q Q' X X' hq hx ⟨xs, e, q⟩ => ⟨xs, e, hs _ _ _ _ (fun r e q => hq _ _ q) q⟩
section
variable {X : Cx} {c : Cf} {W : WX} {pos p apos cpos : Pos} {x name : Str} {i : Nat} {id : String} {r : V → List V → Hp → VK → Prop} {s : SM}
theorem se_mut0 (slot : Slot "list" name id) (hty : typeOf (.builtin id) = pure (.type "method_descriptor")) (hm : MtR X id r) (os : MutS X.K r s) (hs : MonoM s) (hN : X.N[i]? = some x) (hv : Vis X.env.scope x)
    (hd : (x == ("__debug__" : Str)) = false := by decide) (hcd : (x == ("__classdict__" : Str)) = false := by decide)
    (hbase : attributeBase (.Name x p) name X.env (eval (.Name x p) X.env) = eval (.Name x p) X.env := by rfl) (hline : (apos.endLine == cpos.line) = true := by rfl) :
    SE X c W (.Call (.Attribute (.Name x p) name apos) [] [] cpos) (sMut0 i s) := by
  refine se_of (pe_bm0 PySem.F.plainAttrs_list slot hty hm (pe_var hN hv hd hcd) hbase hline) (mono_mut0 hs) fun σ H Q ⟨T, ρ, R, xs, e1, q⟩ => ?_
  obtain ⟨a, ea, ob1⟩ := R.sl i _ e1
  refine ⟨.ref a, ea, ?_, ?_⟩
  · obtain ⟨vs, e2, _⟩ := ob1.lst
    exact .inl ⟨rfl, vs, SqL.of e2⟩
  · refine os _ H a _ [] [] Q fr_le ob1 .nil (hs _ _ _ _ (fun rr d' k v o rv ob' => k v _ ?_) q)
    have ef : Fr T (ρ.set i (.ow d')) σ (upd H a o) = Fr T ρ σ H := fr_write e1 (.inl ⟨i, ⟨_, e1⟩, ea⟩)
    exact ⟨R.write e1 ea ob', by rw [ef]; exact Le.refl, by rw [ef]; exact rv⟩
end
def m_append : SM := fun d ds k => match d, ds with
  | .list xs, [y] => xs.length < 1000000 ∧ k .none (.list (xs ++ [y]))
  | _, _ => False
def m_extend : SM := fun d ds k => match d, ds with
  | .list xs, [.list ys] => xs.length + ys.length ≤ 1000000 ∧ k .none (.list (xs ++ ys))
  | _, _ => False
def m_pop : SM := fun d ds k => match d, ds with
  | .list xs, [] => ∃ y, xs[xs.length - 1]? = some y ∧ k y (.list xs.dropLast)
  | _, _ => False
def m_popAt : SM := fun d ds k => match d, ds with
  | .list xs, [.int i] => ∃ j y, 0 ≤ i ∧ i < 2 ^ 63 ∧ j = i.toNat ∧ xs[j]? = some y ∧ k y (.list (xs.eraseIdx j))
  | _, _ => False
theorem mm_append : MonoM m_append := by
  intro d ds k k' h q
  unfold m_append at *
  split at q
  · exact ⟨q.1, h _ _ q.2⟩
  · exact q.elim
theorem mm_extend : MonoM m_extend := by
  intro d ds k k' h q
  unfold m_extend at *
  split at q
  · exact ⟨q.1, h _ _ q.2⟩
  · exact q.elim
theorem mm_pop : MonoM m_pop := by
  intro d ds k k' h q
  unfold m_pop at *
  split at q
  · obtain ⟨y, e, q⟩ := q
    exact ⟨y, e, h _ _ q⟩
  · exact q.elim
theorem mm_popAt : MonoM m_popAt := by
  intro d ds k k' h q
  unfold m_popAt at *
  split at q
  · obtain ⟨j, y, a, b, e, f, q⟩ := q
    exact ⟨j, y, a, b, e, f, h _ _ q⟩
  · exact q.elim
theorem lineM {n : Nat} (h : n ≤ 1000000) : n ≤ sizeLine := by rw [sizeLine_eq]; omega
theorem lineM' {n : Nat} (h : n < 1000000) : n < sizeLine := by rw [sizeLine_eq]; omega
theorem RpA.dropLast {K : PySem.W.Frag} {F : Hp} {vs : List V} {ds : List D} (r : RpA K F vs ds) : RpA K F vs.dropLast ds.dropLast := by
  rw [List.dropLast_eq_take, List.dropLast_eq_take, r.length]
  exact r.take _
section
variable {K : PySem.W.Frag}
theorem ms_append : MutS K rAppend m_append := by
  intro F H a d vs ds Q l ob ra q
  unfold m_append at q
  split at q
  · obtain ⟨xs, e, rx⟩ := ob.lst
    cases ra with
    | cons r1 r2 =>
      cases r2
      exact ⟨a, xs, _, rfl, rfl, e, by rw [rx.length]; exact lineM' q.1, q.2 _ _ .non (rx.app (.one r1))⟩
  · exact q.elim
theorem ms_extend : MutS K rExtend m_extend := by
  intro F H a d vs ds Q l ob ra q
  unfold m_extend at q
  split at q
  · obtain ⟨xs, e, rx⟩ := ob.lst
    cases ra with
    | cons r1 r2 =>
      cases r2
      cases r1 with
      | lst s rr =>
        exact ⟨a, _, xs, _, rfl, rfl, e, l _ _ s, by rw [rx.length, rr.length]; exact lineM q.1, q.2 _ _ .non (rx.app rr)⟩
  · exact q.elim
theorem ms_pop : MutS K rPop m_pop := by
  intro F H a d vs ds Q l ob ra q
  unfold m_pop at q
  split at q
  · obtain ⟨y, e1, q⟩ := q
    obtain ⟨xs, e, rx⟩ := ob.lst
    cases ra
    rw [← rx.length] at e1
    obtain ⟨v, e2, rv⟩ := rx.get' e1
    exact ⟨a, xs, v, rfl, rfl, e, e2, q _ _ rv rx.dropLast⟩
  · exact q.elim
theorem ms_popAt : MutS K rPopAt m_popAt := by
  intro F H a d vs ds Q l ob ra q
  unfold m_popAt at q
  split at q
  · obtain ⟨j, y, h0, h1, ej, e1, q⟩ := q
    obtain ⟨xs, e, rx⟩ := ob.lst
    cases ra with
    | cons r1 r2 =>
      cases r2
      cases r1
      subst ej
      obtain ⟨v, e2, rv⟩ := rx.get' e1
      have hlt : _ < xs.length := (List.getElem?_eq_some_iff.mp e2).1
      exact ⟨a, xs, _, _, v, rfl, rfl, e, by omega, h1, seqIndex_of h0 (by omega), e2, q _ _ rv (rx.erase _)⟩
  · exact q.elim
end

/-! ### xs.count(k), ints -/
def s_cnt : SC := fun ds k => match ds with
  | [.list xs, .int n] => ∃ ns : List Int, xs = ns.map PyData.int ∧ k (.vl (.int (ns.count n : Nat)))
  | _ => False
theorem mc_cnt : MonoC s_cnt := by
  intro ds k k' h q
  unfold s_cnt at *
  split at q
  · obtain ⟨ns, e, q⟩ := q
    exact ⟨ns, e, h _ q⟩
  · exact q.elim
def sCnt1 (s : SC) (mo : ME) (ma : MA) : ME := fun ρ Q X => mo ρ (fun r ρ1 => (∃ xs, res ρ1 r = some (.list xs)) ∧ ma ρ1 (fun rs ρ' => ∃ d ds, res ρ' r = some d ∧ ress ρ' rs = some ds ∧ s (d :: ds) fun r => Q r ρ') X) X
theorem mono_cnt1 {s : SC} {mo : ME} {ma : MA} (hs : MonoC s) (h : Mono mo) (h' : Mono ma) : Mono (sCnt1 s mo ma) := fun ρ Q Q' X X' hq hx q =>
  h _ _ _ _ _ (fun r ρ1 q => ⟨q.1, h' _ _ _ _ _ (fun rs ρ' ⟨d, ds, e, e2, q⟩ => ⟨d, ds, e, e2, hs _ _ _ (fun r q => hq _ _ q) q⟩) hx q.2⟩) hx q
section
variable {X : Cx} {c : Cf} {W : WX} {apos cpos : Pos} {name : Str} {o e : Expr} {es : List Expr} {mo : ME} {ma : MA}
theorem se_cnt (ho : SE X c W o mo) (ha : SA X c W [e] ma) (hbase : attributeBase o "count" X.env (eval o X.env) = eval o X.env := by rfl)
    (hfew : ((backTo cpos (starEach [e] X.env)).all (fun x => !x.1) && (backToKw cpos (keywordEach [] X.env)).all (fun x => x.1.isSome)
      && decide ([e].length + ([] : List Keyword).length + (if ([] : List Keyword).isEmpty then 0 else 1) < 30)) = true := by rfl)
    (hline : (apos.endLine == cpos.line) = true := by rfl) (he : starEach [e] X.env = (false, eval e X.env) :: starEach [] X.env := by rfl) (hplain : (backTo cpos (starEach [] X.env)).any (·.1) = false := by rfl) :
    SE X c W (.Call (.Attribute o "count" apos) [e] [] cpos) (sCnt1 s_cnt mo ma) := by
  refine se_of (pe_bm PySem.F.plainAttrs_list PySem.F.slot_list_count PySem.F.type_list_count mt_lcount ho.run ha.run hbase hfew hline he hplain) (mono_cnt1 mc_cnt ho.mo ha.mo) fun σ H Q ⟨T, ρ, R, q⟩ => ?_
  refine ⟨T, ρ, R, ho.mo _ _ _ _ _ (fun r ρ1 ⟨⟨xs, e0⟩, q⟩ v H1 hr => ?_) (fun _ _ h => h) q⟩
  obtain ⟨R1, l1, o1⟩ := hr.opr
  have p1 := o1.op R1 e0
  obtain ⟨a, vs, rfl, e1, r1⟩ := p1.list fr_le
  refine ⟨.inl ⟨rfl, vs, SqL.of e1⟩, T, ρ1, R1, ha.mo _ _ _ _ _ (fun rs ρ2 ⟨d, ds, e2, e3, q⟩ ws H2 ⟨R2, l2, o2⟩ => ?_) (fun x ρ' h => kX_le l1 h) q⟩
  have p2 := (o1.le l2).op R2 e2
  have p3 := Opr.ops R2 o2 e3
  unfold s_cnt at q
  split at q
  · rename_i xs' n heq
    cases heq
    obtain ⟨ns, e4, q⟩ := q
    subst e4
    obtain ⟨w, ew, o4⟩ := ops1 p3
    subst ew
    cases o4.int
    obtain ⟨a2, vs2, ea2, e5, r5⟩ := p2.list fr_le
    cases ea2
    cases r5.ints
    exact ⟨a, ns, n, rfl, rfl, SqL.of e5, q _ _ ((res_vl R2 (.int _)).le (l1.trans l2))⟩
  · exact q.elim
end

/-! ### x[i] = v -/
def ixD (d : D) (i : D) (v : D) (k : D → Prop) : Prop := match d, i with
  | .list xs, .int j => ∃ n, ixN xs.length j = some n ∧ k (.list (xs.set n v))
  | _, _ => False
def sSetL (i : Nat) (me mi : ME) : MS := fun ρ k => me ρ (fun r ρ1 => mi (ρ1) (fun r2 ρ2 => ∃ d v j, ρ2[i]? = some (.ow d) ∧ val r = some v ∧ val r2 = some j ∧ ixD d j v fun d' => k.nx (ρ2.set i (.ow d'))) k.ex) k.ex
end VL

set_option Elab.async false
set_option linter.all false
set_option maxRecDepth 100000
set_option maxHeartbeats 4000000
/-! VL18: dicts with plain keys: d[k], k in d, d[k] = v, xs[i] = v, d.get(k, x), displays. -/
namespace VL
open PySem PySem.Spec PyProof.Rows L2

/-- a plain key -/
def keyOf : D → Option Key
  | .int i => some (.inl i)
  | .str x => some (.inr x)
  | _ => none
def dget : List (D × D) → D → Option D
  | [], _ => none
  | (j, v) :: r, k => if PyData.eqv j k = true then some v else dget r k
def dhas : List (D × D) → D → Bool
  | [], _ => false
  | (j, _) :: r, k => PyData.eqv j k || dhas r k
def dmap : List (D × D) → D → D → List (D × D)
  | [], _, _ => []
  | (j, u) :: r, k, v => (j, if PyData.eqv j k = true then v else u) :: dmap r k v
def dput (kvs : List (D × D)) (k v : D) : List (D × D) := if dhas kvs k = true then dmap kvs k v else kvs ++ [(k, v)]
theorem keyD_eqv (j k : Key) : PyData.eqv (keyD j) (keyD k) = decide (j = k) := by
  cases j <;> cases k <;> simp [keyD, PyData.eqv, Bool.beq_eq_decide_eq]
section
variable {K : PySem.W.Frag} {F : Hp}
theorem RpK.get : ∀ {kvs : List (Key × V)} {ds : List (D × D)} {k : Key}, RpK K F kvs ds → (valV kvs k = none ∧ dget ds (keyD k) = none) ∨ ∃ v d, valV kvs k = some v ∧ dget ds (keyD k) = some d ∧ Rp K F v d
  | _, _, k, .nil => .inl ⟨rfl, rfl⟩
  | _, _, k, .cons (k := j) (v := v) (vs := vs) (d := d) (ds := ds) a r => by
    by_cases e : j = k
    · refine .inr ⟨v, d, valV_pos (p := (j, v)) e, ?_, a⟩
      simp [dget, keyD_eqv, e]
    · have h1 : valV ((j, v) :: vs) k = valV vs k := valV_neg (p := (j, v)) e
      have h2 : dget ((keyD j, d) :: ds) (keyD k) = dget ds (keyD k) := by simp [dget, keyD_eqv, e]
      rw [h1, h2]
      exact RpK.get r
theorem RpK.has : ∀ {kvs : List (Key × V)} {ds : List (D × D)} {k : Key}, RpK K F kvs ds → (kvs.any fun kv => decide (kv.1 = k)) = dhas ds (keyD k)
  | _, _, k, .nil => rfl
  | _, _, k, .cons (k := j) a r => by simp [dhas, keyD_eqv, RpK.has (k := k) r]
theorem RpK.map : ∀ {kvs : List (Key × V)} {ds : List (D × D)} {k : Key} {v : V} {d : D}, RpK K F kvs ds → Rp K F v d → RpK K F (kvs.map fun kv => if kv.1 = k then (kv.1, v) else kv) (dmap ds (keyD k) d)
  | _, _, k, _, _, .nil, _ => .nil
  | _, _, k, v, d, .cons (k := j) a r, q => by
    simp only [List.map_cons, dmap, keyD_eqv]
    by_cases e : j = k
    · simp only [e, if_true, decide_true]
      exact .cons q (RpK.map r q)
    · simp only [e, if_false, decide_false, Bool.false_eq_true]
      exact .cons a (RpK.map r q)
theorem RpK.app : ∀ {v w : List (Key × V)} {d e : List (D × D)}, RpK K F v d → RpK K F w e → RpK K F (v ++ w) (d ++ e)
  | _, _, _, _, .nil, s => s
  | _, _, _, _, .cons a r, s => .cons a (RpK.app r s)
theorem RpK.put {kvs : List (Key × V)} {ds : List (D × D)} {k : Key} {v : V} {d : D} (r : RpK K F kvs ds) (q : Rp K F v d) : RpK K F (putK kvs k v) (dput ds (keyD k) d) := by
  unfold putK dput
  rw [r.has]
  split
  · exact r.map q
  · exact r.app (.cons q .nil)
theorem op_key {H : Hp} {y : V} {d : D} {k : Key} (h : Op K F H y d) (e : keyOf d = some k) : y = kV k ∧ d = keyD k := by
  cases d <;> simp only [keyOf, reduceCtorEq, Option.some.injEq] at e
  · subst e; exact ⟨h.int, rfl⟩
  · subst e; exact ⟨h.str, rfl⟩
end

/-! ### d[k] -/
def s_ixD : S2 := fun d e k => match d with
  | .dict kvs => ∃ key v, keyOf e = some key ∧ dget kvs e = some v ∧ k (.vl v)
  | _ => s_ix d e k
theorem m_ixD : Mono2 s_ixD := by
  intro d e k k' h q
  unfold s_ixD at *
  split at q
  · obtain ⟨key, v, a, b, q⟩ := q
    exact ⟨key, v, a, b, h _ q⟩
  · exact m_ix _ _ _ _ h q
def r_ixD (K : PySem.W.Frag) : R2 := fun x y H Q => rIx K x y H Q ∨ ∃ a v, x = .ref a ∧ DGet H a y (some v) ∧ Q v H
section
variable {X : Cx}
theorem ix_dict (hu : X.A.units + 1 < cLine) : IxR X (fun x y H Q => ∃ a v, x = .ref a ∧ DGet H a y (some v) ∧ Q v H) := by
  intro value slice pins s σ H x y v u Q I rx ry h hs
  obtain ⟨a, z, rfl, g, q⟩ := h
  obtain rfl : v = Value.ref a := rx
  exact tail_any (dict_typeIs I g) PySem.F.slot_dict_getitem.lookup (d_getItem hu I g ry fun w' s3 I3 rw' => ⟨z, H, I3, rw', q⟩) hs
end
theorem os_ixD {K : PySem.W.Frag} : OpS K (r_ixD K) s_ixD := by
  intro c T ρ σ H x y d e Q R hx hy q
  unfold s_ixD at q
  split at q
  · obtain ⟨key, v, a, b, q⟩ := q
    obtain ⟨l, kvs, ex, e1, r1⟩ := hx.dict fr_le
    subst ex
    obtain ⟨ey, ed⟩ := op_key hy a
    subst ey
    rw [ed] at b
    rcases r1.get (k := key) with ⟨h1, h2⟩ | ⟨w, d, h1, h2, h3⟩
    · rw [h2] at b; cases b
    · rw [h2] at b; cases b
      exact .inr ⟨l, w, rfl, by rw [← h1]; exact DGet.k e1, q _ _ (res_vl R h3)⟩
  · exact .inl (os_ix c T ρ σ H x y _ e Q R hx hy q)
section
variable {X : Cx} {c : Cf} {W : WX} {pos : Pos} {a b : Expr} {ma mb : ME} {k : Nat}
theorem se_ixD (hr : Room k X.A) (ha : SE X c W a ma) (hb : SE X c W b mb) (hs : PlainIx b := by intro _ _; rfl) : SE X c W (.Subscript a b pos) (sBin s_ixD ma mb) :=
  se_of (pe_ix (IxR.or ix_seq (ix_dict (by have := units_of hr; omega))) ha.run hb.run hs) (mono_bin m_ixD ha.mo hb.mo) fun _ _ _ h => bin_core os_ixD m_ixD ha hb h
end

/-! ### k in d -/
def s_inD (neg : Bool) : S2 := fun d e k => match e with
  | .dict kvs => ∃ key, keyOf d = some key ∧ k (.vl (.bool (neg ^^ (dget kvs d).isSome)))
  | _ => s_in neg d e k
theorem m_inD {n : Bool} : Mono2 (s_inD n) := by
  intro d e k k' h q
  unfold s_inD at *
  split at q
  · obtain ⟨key, a, q⟩ := q
    exact ⟨key, a, h _ q⟩
  · exact m_in _ _ _ _ h q
def r_inD (K : PySem.W.Frag) (neg : Bool) : R2 := fun x y H Q => r_in K neg x y H Q ∨ ∃ a o, y = .ref a ∧ DGet H a x o ∧ Q (.bl (neg ^^ o.isSome)) H
section
variable {X : Cx} {c : Cf} {W : WX} {pos : Pos} {a b : Expr} {ma mb : ME} {k : Nat}
theorem or_inD (hr : Room k X.A) : OpR X (compareOp .In) (r_inD X.K false) := OpR.or (or_in hr) (by
  intro pins s σ H x y v u Q I rx ry h
  obtain ⟨a, o, rfl, g, q⟩ := h
  obtain rfl : u = Value.ref a := ry
  exact d_in (by have := units_of hr; omega) I g rx fun s3 I3 => ⟨.bl o.isSome, H, I3, rfl, by simpa using q⟩)
theorem or_notInD (hr : Room k X.A) : OpR X (compareOp .NotIn) (r_inD X.K true) := OpR.or (or_notIn hr) (by
  intro pins s σ H x y v u Q I rx ry h
  obtain ⟨a, o, rfl, g, q⟩ := h
  obtain rfl : u = Value.ref a := ry
  exact d_notIn (by have := units_of hr; omega) I g rx fun s3 I3 => ⟨.bl (!o.isSome), H, I3, rfl, by simpa using q⟩)
theorem os_inD {K : PySem.W.Frag} {n : Bool} : OpS K (r_inD K n) (s_inD n) := by
  intro c T ρ σ H x y d e Q R hx hy q
  unfold s_inD at q
  split at q
  · obtain ⟨key, a, q⟩ := q
    obtain ⟨l, kvs, ex, e1, r1⟩ := hy.dict fr_le
    subst ex
    obtain ⟨ey, ed⟩ := op_key hx a
    subst ey
    rw [ed] at q
    refine .inr ⟨l, valV kvs key, rfl, DGet.k e1, ?_⟩
    rcases r1.get (k := key) with ⟨h1, h2⟩ | ⟨w, d, h1, h2, h3⟩
    · rw [h1]; rw [h2] at q
      exact q _ _ (res_vl R (.bl _))
    · rw [h1]; rw [h2] at q
      exact q _ _ (res_vl R (.bl _))
  · exact .inl (os_in c T ρ σ H x y d _ Q R hx hy q)
theorem se_inD (hr : Room k X.A) (ha : SE X c W a ma) (hb : SE X c W b mb) (hm : behindInMarks .In b = false := by rfl) : SE X c W (.Compare a [.In] [b] pos) (sBin (s_inD false) ma mb) :=
  se_cmp (or_inD hr) os_inD m_inD ha hb hm
theorem se_notInD (hr : Room k X.A) (ha : SE X c W a ma) (hb : SE X c W b mb) (hm : behindInMarks .NotIn b = false := by rfl) : SE X c W (.Compare a [.NotIn] [b] pos) (sBin (s_inD true) ma mb) :=
  se_cmp (or_notInD hr) os_inD m_inD ha hb hm
end

/-! ### x[i] = v, x an own list or dict -/
def ixPut (d i v : D) (k : D → Prop) : Prop := match d with
  | .list xs => match i with
    | .int j => ∃ n, ixN xs.length j = some n ∧ k (.list (xs.set n v))
    | _ => False
  | .dict kvs => ∃ key, keyOf i = some key ∧ kvs.length < 1000000 ∧ k (.dict (dput kvs i v))
  | _ => False
theorem ixPut_mono {d i v : D} {k k' : D → Prop} (h : ∀ d, k d → k' d) (q : ixPut d i v k) : ixPut d i v k' := by
  unfold ixPut at *
  split at q
  · split at q
    · obtain ⟨n, e, q⟩ := q
      exact ⟨n, e, h _ q⟩
    · exact q.elim
  · obtain ⟨key, a, b, q⟩ := q
    exact ⟨key, a, b, h _ q⟩
  · exact q.elim
def sPutIx (i : Nat) (me mi : ME) : MS := fun ρ k => me ρ (fun r ρ1 => (∃ d0, ρ1[i]? = some (.ow d0)) ∧ mi ρ1 (fun r2 ρ2 => ∃ d v j, ρ2[i]? = some (.ow d) ∧ val r = some v ∧ val r2 = some j ∧ ixPut d j v fun d' => k.nx (ρ2.set i (.ow d'))) k.ex) k.ex
theorem monoS_putIx {i : Nat} {me mi : ME} (h : Mono me) (h' : Mono mi) : MonoS (sPutIx i me mi) := fun ρ k k' l q =>
  h _ _ _ _ _ (fun r ρ1 q => ⟨q.1, h' _ _ _ _ _ (fun r2 ρ2 ⟨d, v, j, a, b, b2, q⟩ => ⟨d, v, j, a, b, b2, ixPut_mono (fun d q => l.nx _ q) q⟩) l.ex q.2⟩) l.ex q
def rPutIx : TSet := fun o i v H Q => rSetL o i v H Q ∨ rSetD o i v H Q
theorem PSet.or {X : Cx} {r r' : TSet} (h : PSet X r) (h' : PSet X r') : PSet X (fun o i v H Q => r o i v H Q ∨ r' o i v H Q) := fun pins s σ H o i v ov iv u Q I ro ri rv q =>
  q.elim (h pins s σ H o i v ov iv u Q I ro ri rv) (h' pins s σ H o i v ov iv u Q I ro ri rv)
section
variable {X : Cx} {c : Cf} {W : WX} {pos p p2 : Pos} {e ie : Expr} {me mi : ME} {k i : Nat} {x : Str}
theorem ob_dict {K : PySem.W.Frag} {F : Hp} {o : Option HO} {ds : List (D × D)} (h : Ob K F o (.dict ds)) : ∃ kvs, o = some (HO.dK kvs) ∧ RpK K F kvs ds := by
  cases o with
  | none => exact h.elim
  | some o => cases o <;> first | exact h.elim | exact ⟨_, rfl, h⟩
/-- the store itself -/
theorem put_ob {K : PySem.W.Frag} {F H : Hp} {a : Addr} {d j v : D} {y w : V} {Q : Hp → Prop} (ob : Ob K F (H a) d) (hy : Rp K F y j) (hw : Rp K F w v)
    (q : ixPut d j v fun d' => ∀ o, Ob K F (some o) d' → Q (upd H a o)) : rPutIx (.ref a) y w H Q := by
  unfold ixPut at q
  split at q
  · split at q
    · obtain ⟨n, e, q⟩ := q
      obtain ⟨xs, e1, r1⟩ := ob.lst
      cases hy
      exact .inl ⟨a, xs, _, n, rfl, rfl, e1, by rw [r1.length]; exact e, q (.lst _) (r1.set hw n)⟩
    · exact q.elim
  · obtain ⟨key, ek, hl, q⟩ := q
    obtain ⟨kvs, e1, r1⟩ := ob_dict ob
    obtain ⟨ey, ed⟩ := op_key (Op.sh (H := H) hy) ek
    subst ey
    refine .inr ⟨a, _, rfl, DPut.k e1 (by rw [r1.length]; exact lineM' hl), q (.dK _) ?_⟩
    rw [ed]
    exact r1.put hw
  · exact q.elim
theorem ss_putIx (hr : Room k X.A) (hN : X.N[i]? = some x) (hv : Vis X.env.scope x) (he : SE X c W e me) (hi : SE X c W ie mi)
    (hs : swapsWithSole [.Subscript (.Name x p2) ie p] e pos.line X.env = pure false := by rfl) (hw : swappedStores [.Subscript (.Name x p2) ie p] e X.env = pure none := by rfl)
    (h1 : (assignEach [.Subscript (.Name x p2) ie p] X.env).map (·.2) = [assign (.Subscript (.Name x p2) ie p) X.env] := by rfl)
    (ha : ∀ v, assign (.Subscript (.Name x p2) ie p) X.env v = (do
      let ov ← holding [v] (eval (.Name x p2) X.env)
      let iv ← holding [v, ov] (eval ie X.env)
      standAt p
      holding [v, ov, iv] (setItem ov iv v)
      release [v, ov, iv] []) := by intro _; rfl)
    (hd : (x == ("__debug__" : Str)) = false := by decide) (hcd : (x == ("__classdict__" : Str)) = false := by decide) :
    SS X c W (.Assign [.Subscript (.Name x p2) ie p] e pos) (sPutIx i me mi) := by
  refine ss_of (ps_asg he.run (pg_sub (pe_var hN hv hd hcd) hi.run (PSet.or set_list (set_dict (by have := units_of hr; omega))) ha) hs hw h1) (monoS_putIx he.mo hi.mo) fun D σ H ⟨ρ, R, q⟩ => ?_
  unfold sPutIx at q
  refine ⟨c.T0, ρ, R, he.mo _ _ _ _ _ (fun r ρ1 q v H1 hr => ?_) (fun x ρ' h => kx_of (T := c.T0) h) q⟩
  obtain ⟨⟨d0, e0⟩, q⟩ := q
  obtain ⟨R1, l1, o1⟩ := hr.opr
  obtain ⟨a, ea, ob⟩ := R1.sl i _ e0
  refine ⟨.ref a, ea, c.T0, ρ1, R1, hi.mo _ _ _ _ _ (fun r2 ρ2 q y H2 hr2 => ?_) (fun x ρ' h => kx_of (T := c.T0) h) q⟩
  obtain ⟨d, w, j, e1, e2, e3, q⟩ := q
  obtain ⟨R2, l2, o2⟩ := hr2.opr
  obtain ⟨a', ea', ob2⟩ := R2.sl i _ e1
  rw [ea] at ea'; cases ea'
  refine put_ob ob2 (o2.rp e3) ((o1.le l2).rp e2) (ixPut_mono (fun d' q o ob' => ?_) q)
  exact q σ _ (R2.write e1 ea ob')
end

/-! ### d.get(k, x) -/
def sDGet2 (md mk mx : ME) : ME := fun ρ Q X => md ρ (fun r ρ1 => (∃ kvs, res ρ1 r = some (.dict kvs)) ∧ mk ρ1 (fun r2 ρ2 => mx ρ2 (fun r3 ρ3 => ∃ kvs kd key x, res ρ3 r = some (.dict kvs) ∧ res ρ3 r2 = some kd ∧ keyOf kd = some key ∧ val r3 = some x ∧ Q (.vl ((dget kvs kd).getD x)) ρ3) X) X) X
theorem mono_dget2 {md mk mx : ME} (h1 : Mono md) (h2 : Mono mk) (h3 : Mono mx) : Mono (sDGet2 md mk mx) := fun ρ Q Q' X X' hq hx q =>
  h1 _ _ _ _ _ (fun r ρ1 q => ⟨q.1, h2 _ _ _ _ _ (fun r2 ρ2 q => h3 _ _ _ _ _ (fun r3 ρ3 ⟨a, b, e, d, f, g, h, i, q⟩ => ⟨a, b, e, d, f, g, h, i, hq _ _ q⟩) hx q) hx q.2⟩) hx q
section
variable {X : Cx} {c : Cf} {W : WX} {apos cpos : Pos} {o e f : Expr} {md mk mx : ME} {k : Nat}
theorem se_dget2 (hr : Room k X.A) (ho : SE X c W o md) (he : SE X c W e mk) (hf : SE X c W f mx) (m : M2 X o "get" apos e f cpos) : SE X c W (.Call (.Attribute o "get" apos) [e, f] [] cpos) (sDGet2 md mk mx) := by
  refine se_of (pe_dget2 (by have := units_of hr; omega) ho.run he.run hf.run m) (mono_dget2 ho.mo he.mo hf.mo) fun σ H Q ⟨T, ρ, R, q⟩ => ?_
  refine ⟨T, ρ, R, ho.mo _ _ _ _ _ (fun r ρ1 ⟨⟨kv0, e0⟩, q⟩ v H1 hr => ?_) (fun _ _ h => h) q⟩
  obtain ⟨R1, l1, o1⟩ := hr.opr
  obtain ⟨a, kvs, ev, e1, r1⟩ := (o1.op R1 e0).dict fr_le
  subst ev
  refine ⟨a, rfl, .inl ⟨kvs, .inl e1⟩, T, ρ1, R1, he.mo _ _ _ _ _ (fun r2 ρ2 q y H2 hr2 => ?_) (fun x ρ' h => kX_le l1 h) q⟩
  obtain ⟨R2, l2, o2⟩ := hr2.opr
  refine ⟨T, ρ2, R2, hf.mo _ _ _ _ _ (fun r3 ρ3 ⟨kv3, kd, key, x, a1, a2, a3, a4, q⟩ z H3 hr3 => ?_) (fun x ρ' h => kX_le (l1.trans l2) h) q⟩
  obtain ⟨R3, l3, o3⟩ := hr3.opr
  obtain ⟨a', kvs3, ev, e3, r3⟩ := (((o1.le l2).le l3).op R3 a1).dict fr_le
  cases ev
  obtain ⟨ey, ed⟩ := op_key ((o2.le l3).op R3 a2) a3
  subst ey
  rw [ed] at q
  refine ⟨valV kvs3 key, DGet.k e3, ?_⟩
  have l := l1.trans (l2.trans l3)
  rcases r3.get (k := key) with ⟨h1, h2⟩ | ⟨w, d, h1, h2, h3⟩
  · rw [h1]; rw [h2] at q
    exact q _ _ ((res_vl R3 (o3.rp a4)).le l)
  · rw [h1]; rw [h2] at q
    exact q _ _ ((res_vl R3 h3).le l)
end

/-! ### {} and {k: v, ..} -/
def sDict0 : ME := fun ρ Q _ => Q (.fr (.dict [])) ρ
def sDict1 (mk mv : ME) : ME := fun ρ Q X => mk ρ (fun r ρ1 => mv ρ1 (fun r2 ρ2 => ∃ kd key v, val r = some kd ∧ keyOf kd = some key ∧ val r2 = some v ∧ Q (.fr (.dict [(kd, v)])) ρ2) X) X
theorem mono_dict0 : Mono sDict0 := fun _ _ _ _ _ hq _ h => hq _ _ h
theorem mono_dict1 {mk mv : ME} (h1 : Mono mk) (h2 : Mono mv) : Mono (sDict1 mk mv) := fun ρ Q Q' X X' hq hx q =>
  h1 _ _ _ _ _ (fun r ρ1 q => h2 _ _ _ _ _ (fun r2 ρ2 ⟨a, b, c, d, e, f, q⟩ => ⟨a, b, c, d, e, f, hq _ _ q⟩) hx q) hx q
section
variable {X : Cx} {c : Cf} {W : WX} {pos : Pos} {e f : Expr} {mk mv : ME}
theorem se_dict0 : SE X c W (.Dict [] [] pos) sDict0 :=
  se_of pe_dnewK mono_dict0 fun σ H Q ⟨T, ρ, R, q⟩ p hp => q _ _ (res_new (o := .dK []) (d := .dict []) R hp .nil)
theorem se_dict1 (hk : SE X c W e mk) (hv : SE X c W f mv) : SE X c W (.Dict [some e] [f] pos) (sDict1 mk mv) := by
  refine se_of (pe_disp (pps_cons hk.run hv.run pps_nil) (by rfl) (by rfl) (fun z => by cases z) (by simp)) (mono_dict1 hk.mo hv.mo) fun σ H Q ⟨T, ρ, R, q⟩ p hp => ?_
  have R0 : Rel X.K c ((p, .dK []) :: T) ρ σ (upd H p (.dK [])) := R.new hp mt_dK
  have l0 : Le (Fr T ρ σ H) (Fr ((p, .dK []) :: T) ρ σ (upd H p (.dK []))) := fr_new hp
  have hn : ∀ u, (p, u) ∉ T := fun u h => (R.tst p u h).ne hp
  refine ⟨_, ρ, R0, hk.mo _ _ _ _ _ (fun r ρ1 q v H1 (hr : Res X.K c _ _ ρ1 σ H1 r v) => ?_) (fun x ρ' h cls d H' R' l' er => ?_) q⟩
  · obtain ⟨R1, l1, o1⟩ := hr.opr
    refine ⟨_, ρ1, R1, hv.mo _ _ _ _ _ (fun r2 ρ2 q w H2 (hr2 : Res X.K c _ _ ρ2 σ H2 r2 w) => ?_) (fun x ρ' h cls d H' R' l' er => ?_) q⟩
    · obtain ⟨kd, key, vd, a1, a2, a3, q⟩ := q
      obtain ⟨R2, l2, o2⟩ := hr2.opr
      have k1 := (o1.le l2).rp a1
      obtain ⟨ey, ed⟩ := op_key (Op.sh (H := H2) k1) a2
      subst ey
      have hat : H2 p = some (.dK []) := (R2.tst p _ List.mem_cons_self).at mt_dK.1
      refine ⟨hat, [(key, w)], rfl, by simp, ?_⟩
      have em : mergeK [] [(key, w)] = [(key, w)] := rfl
      rw [em]
      have R3 := R2.rehead (o' := .dK [(key, w)]) hn mt_dK mt_dK
      have ef : Fr ((p, HO.dK []) :: T) ρ2 σ H2 = Fr ((p, HO.dK [(key, w)]) :: T) ρ2 σ (upd H2 p (.dK [(key, w)])) := fr_head
      refine q _ _ ⟨p, .dK [(key, w)], rfl, R3, hn, ?_, ?_⟩
      · rw [← ef]; exact l0.trans (l1.trans l2)
      · rw [← ef, ed]
        exact .cons (o2.rp a3) .nil
    · exact h cls d H' (R'.thaw mt_dK) ((l0.trans (l1.trans l')).trans fr_thaw) (exR_le fr_thaw er)
  · exact h cls d H' (R'.thaw mt_dK) ((l0.trans l').trans fr_thaw) (exR_le fr_thaw er)
end
end VL

set_option Elab.async false
set_option linter.all false
set_option maxRecDepth 100000
set_option maxHeartbeats 4000000
/-! VL19: calls of the program's own defs: pure ones (all arguments shared), ones that change their first argument, the one that is handed the script. -/
namespace VL
open PySem PySem.Spec PyProof.Rows L2

/-- what a def makes of its arguments: the result, the first argument's datum behind it (for a pure def: none) -/
abbrev FP := List D → (Rs → Option D → Prop) → (Ex → Option D → Prop) → Prop
def MonoF (F : FP) : Prop := ∀ ds Q Q' X X', (∀ r d, Q r d → Q' r d) → (∀ x d, X x d → X' x d) → F ds Q X → F ds Q' X'
def TOk (T : List (Addr × HO)) (H : Hp) : Prop := ∀ a o, (a, o) ∈ T → Sat H a o
/-- what is hidden from a def: what its callers own, and what it was handed to change -/
def Hid (io : Option Addr) (T : List (Addr × HO)) (b : Addr) : Prop := io = some b ∨ ∃ o, (b, o) ∈ T
/-- how a call ends -/
def RetOk (K : PySem.W.Frag) (io : Option Addr) (T : List (Addr × HO)) (F0 H : Hp) (r : Rs) (v : V) (d' : Option D) : Prop := TOk T H ∧ match r with
  | .vl d => Le F0 (Fz (Hid io T) H) ∧ Rp K (Fz (Hid io T) H) v d ∧ ∀ a, io = some a → ∃ e, d' = some e ∧ Ob K (Fz (Hid io T) H) (H a) e
  | .fr d => ∃ p o, v = .ref p ∧ H p = some o ∧ ¬ Hid io T p ∧ Le F0 (Fz (Hid io ((p, o) :: T)) H) ∧ Ob K (Fz (Hid io ((p, o) :: T)) H) (some o) d ∧ ∀ a, io = some a → ∃ e, d' = some e ∧ Ob K (Fz (Hid io ((p, o) :: T)) H) (H a) e
  | .bo _ => False
section
variable (K : PySem.W.Frag) (mg : Str → Option Value) (n : Nat) (F : FP)
def spP : Sp := fun vs H Q E => ∃ ds T, TOk T H ∧ RpA K (Fz (Hid none T) H) vs ds ∧ ds.length = n ∧ F ds (fun r d' => ∀ v H', RetOk K none T (Fz (Hid none T) H) H' r v d' → Q v H') (fun _ _ => True)
def spI : Sp := fun vs H Q E => ∃ a ws d0 ds T, vs = .ref a :: ws ∧ TOk T H ∧ (∀ u, (a, u) ∉ T) ∧ Ob K (Fz (Hid (some a) T) H) (H a) d0 ∧ RpA K (Fz (Hid (some a) T) H) ws ds ∧ (d0 :: ds).length = n ∧
  F (d0 :: ds) (fun r d' => ∀ v H', RetOk K (some a) T (Fz (Hid (some a) T) H) H' r v d' → Q v H') (fun _ _ => True)
def spS (F : List Int → (Rs → Prop) → Prop) : Sp := fun vs H Q E => ∃ a ns T, vs = [.ref a] ∧ TOk T H ∧ SqL K (Fz (Hid none T) H) a (ns.map V.int) ∧ F ns (fun r => ∀ v H', RetOk K none T (Fz (Hid none T) H) H' r v none → Q v H')
end
/-- nothing borrowed -/
def nb : Rs → Prop
  | .bo _ => False
  | _ => True
theorem nb_val {r : Rs} (h : nb r) : ∃ d, val r = some d := by cases r <;> first | exact ⟨_, rfl⟩ | exact h.elim
/-- a def's meaning by its body's: all arguments shared -/
def wpF (n N : Nat) (m : MS) : FP := fun ds Q X => ds.length = n ∧ m (ds.map Sl.sh ++ List.replicate (N - n) .no) ⟨fun _ => Q (.vl .none) none, fun r _ => nb r ∧ Q r none, fun _ => False, fun _ => False, fun x _ => X x none⟩
def cur (ρ : Env) (k : Option D → Prop) : Prop := ∃ d, ρ[0]? = some (.ow d) ∧ k (some d)
/-- .. the first one changed -/
def wpI (n N : Nat) (m : MS) : FP := fun ds Q X => ∃ d0 ds', ds = d0 :: ds' ∧ ds.length = n ∧ m (.ow d0 :: (ds'.map Sl.sh ++ List.replicate (N - n) .no)) ⟨fun ρ => cur ρ fun d => Q (.vl .none) d, fun r ρ => nb r ∧ cur ρ fun d => Q r d, fun _ => False, fun _ => False, fun x ρ => cur ρ fun d => X x d⟩
def wpSc (N : Nat) (m : MS) : List Int → (Rs → Prop) → Prop := fun ns Q => m (.sc ns :: List.replicate (N - 1) .no) ⟨fun _ => Q (.vl .none), fun r _ => nb r ∧ Q r, fun _ => False, fun _ => False, fun _ _ => True⟩
theorem monoF_wp {n N : Nat} {m : MS} (h : MonoS m) : MonoF (wpF n N m) := fun ds Q Q' X X' hq hx q => ⟨q.1, by refine h _ _ _ ?_ q.2; exact ⟨fun _ q => hq _ _ q, fun r _ q => ⟨q.1, hq _ _ q.2⟩, fun _ q => q, fun _ q => q, fun _ _ q => hx _ _ q⟩⟩
theorem cur_mono {ρ : Env} {k k' : Option D → Prop} (h : ∀ d, k d → k' d) (q : cur ρ k) : cur ρ k' := ⟨q.choose, q.choose_spec.1, h _ q.choose_spec.2⟩
theorem monoF_wpI {n N : Nat} {m : MS} (h : MonoS m) : MonoF (wpI n N m) := fun ds Q Q' X X' hq hx ⟨d0, ds', e, hl, q⟩ =>
  ⟨d0, ds', e, hl, by refine h _ _ _ ?_ q; exact ⟨fun _ q => cur_mono (fun d q => hq _ _ q) q, fun r _ q => ⟨q.1, cur_mono (fun d q => hq _ _ q) q.2⟩, fun _ q => q, fun _ q => q, fun _ _ q => cur_mono (fun d q => hx _ _ q) q⟩⟩

/-! ### the entry -/
section
variable {K : PySem.W.Frag} {H : Hp} {T : List (Addr × HO)} {N : List Str} {vs : List V} {ds : List D} {n : Nat}
theorem start_len (h : vs.length = n) (hn : n ≤ N.length) : (L2.start N vs).length = N.length := by
  unfold L2.start; simp; omega
theorem start_at {i : Nat} (h : i < vs.length) : (L2.start N vs)[i]? = some (some (vs[i])) := by
  unfold L2.start
  rw [List.getElem?_append_left (by simpa using h)]
  simp [h]
theorem env_at {ρ : Env} {m i : Nat} {s : Sl} (e : (ρ ++ List.replicate m .no)[i]? = some s) : (ρ[i]? = some s) ∨ s = .no := by
  by_cases h : i < ρ.length
  · rw [List.getElem?_append_left h] at e
    exact .inl e
  · rw [List.getElem?_append_right (by omega)] at e
    have := List.mem_of_getElem? e
    exact .inr (List.eq_of_mem_replicate this)
/-- the relation at a def's entry: slot 0 may be handed in to be changed -/
theorem Rel.entry {io : Option Addr} {ρ : Env} {m : Nat} (hT : TOk T H) (hl : ρ.length + m = N.length) (hv : vs.length = ρ.length) (hio : ∀ a, io = some a → (∀ u, (a, u) ∉ T) ∧ (∃ d, ρ[0]? = some (.ow d)) ∧ vs[0]? = some (.ref a))
    (ho : ∀ (i : Nat) (d : D), ρ[i]? = some (.ow d) → i = 0 ∧ ∃ a, io = some a ∧ Ob K (Fz (Hid io T) H) (H a) d) (hs : ∀ (i : Nat) (d : D) (v : V), ρ[i]? = some (.sh d) → vs[i]? = some v → Rp K (Fz (Hid io T) H) v d)
    (hsc : ∀ (i : Nat) (ns : List Int), ρ[i]? = some (.sc ns) → ∃ a, vs[i]? = some (.ref a) ∧ SqL K (Fz (Hid io T) H) a (ns.map V.int)) (hrf : ∀ (i : Nat) (v : V), ρ[i]? = some (.rf v) → vs[i]? = some v) :
    Rel K ⟨Fz (Hid io T) H, io, T⟩ T (ρ ++ List.replicate m .no) (L2.start N vs) H ∧ Fr T (ρ ++ List.replicate m .no) (L2.start N vs) H = Fz (Hid io T) H := by
  have vsat : ∀ {i : Nat} {v : V}, vs[i]? = some v → (L2.start N vs)[i]? = some (some v) := fun {i v} e => by
    obtain ⟨h, e'⟩ := List.getElem?_eq_some_iff.mp e
    rw [start_at h, e']
  have own : ∀ i a, OwnAt (ρ ++ List.replicate m .no) (L2.start N vs) i a → i = 0 ∧ io = some a := fun i a ⟨⟨d, e⟩, e2⟩ => by
    rcases env_at e with e | e
    · obtain ⟨h0, b, hb, _⟩ := ho i d e
      subst h0
      have := vsat (hio b hb).2.2
      rw [e2] at this; cases this
      exact ⟨rfl, hb⟩
    · cases e
  have own' : ∀ a, io = some a → OwnAt (ρ ++ List.replicate m .no) (L2.start N vs) 0 a := fun a ha => by
    obtain ⟨_, ⟨d, e⟩, e2⟩ := hio a ha
    have h0 : 0 < ρ.length := (List.getElem?_eq_some_iff.mp e).1
    exact ⟨⟨d, by rw [List.getElem?_append_left h0]; exact e⟩, vsat e2⟩
  have pr : ∀ a, Prot T (ρ ++ List.replicate m .no) (L2.start N vs) a ↔ Hid io T a := fun a => by
    constructor
    · rintro (⟨i, h⟩ | h)
      · exact .inl (own i a h).2
      · exact .inr h
    · rintro (h | h)
      · exact .inl ⟨0, own' a h⟩
      · exact .inr h
  have ef : Fr T (ρ ++ List.replicate m .no) (L2.start N vs) H = Fz (Hid io T) H := by
    have : Prot T (ρ ++ List.replicate m .no) (L2.start N vs) = Hid io T := funext fun a => propext (pr a)
    show Fz _ H = _
    rw [this]
  refine ⟨⟨by rw [start_len (n := vs.length) rfl (by omega)]; simp; omega, fun i j a h1 h2 => by rw [(own i a h1).1, (own j a h2).1], fun i a o h hm => (hio a (own i a h).2).1 o hm, hT, fun i s e => ?_, by rw [ef]; exact Le.refl, own', fun _ _ => Iff.rfl⟩, ef⟩
  rw [ef]
  rcases env_at e with e | e
  · have hi : i < vs.length := by rw [hv]; exact (List.getElem?_eq_some_iff.mp e).1
    have ev : vs[i]? = some vs[i] := by simp [hi]
    cases s with
    | no => trivial
    | sh d => exact ⟨_, vsat ev, hs i d _ e ev⟩
    | ow d =>
      obtain ⟨h0, a, ha, ob⟩ := ho i d e
      subst h0
      exact ⟨a, vsat (hio a ha).2.2, ob⟩
    | sc ns =>
      obtain ⟨a, e1, h⟩ := hsc i ns e
      exact ⟨a, vsat e1, h⟩
    | rf v => exact vsat (hrf i v e)
  · subst e; trivial
/-- the end: what the body leaves is what the call leaves -/
theorem ret_ok {c : Cf} {ρ : Env} {σ : L2.St} {r : Rs} {v : V} (h : Res K c c.T0 c.B ρ σ H r v) (hr : ∃ d, val r = some d) (d' : Option D) (hd : ∀ a, c.io = some a → ∃ e, ρ[0]? = some (.ow e) ∧ d' = some e) : RetOk K c.io c.T0 c.B H r v d' := by
  have pr : ∀ (T : List (Addr × HO)) (R : Rel K c T ρ σ H) a, Hid c.io T a → Prot T ρ σ a := fun T R a h => by
    rcases h with h | h
    · exact .inl ⟨0, R.io a h⟩
    · exact .inr h
  cases r with
  | bo i => obtain ⟨d, e⟩ := hr; cases e
  | vl d =>
    obtain ⟨R, l, rp⟩ := h
    have lf : Le (Fr c.T0 ρ σ H) (Fz (Hid c.io c.T0) H) := fz_mono (fun a _ => pr _ R a) Le.refl
    refine ⟨R.tst, l.trans lf, rp.le lf, fun a ha => ?_⟩
    obtain ⟨e, e1, e2⟩ := hd a ha
    obtain ⟨b, e3, ob⟩ := R.sl 0 _ e1
    obtain ⟨_, e4⟩ := R.io a ha
    rw [e3] at e4; cases e4
    exact ⟨e, e2, ob.le lf⟩
  | fr d =>
    obtain ⟨p, o, rfl, R, hn, l, ob⟩ := h
    have lf : Le (Fr ((p, o) :: c.T0) ρ σ H) (Fz (Hid c.io ((p, o) :: c.T0)) H) := fz_mono (fun a _ => pr _ R a) Le.refl
    refine ⟨fun a u hm => R.tst a u (List.mem_cons_of_mem _ hm), p, o, rfl, (R.tst p o List.mem_cons_self).at ob.mt.1, ?_, l.trans lf, ob.le lf, fun a ha => ?_⟩
    · rintro (h | ⟨u, h⟩)
      · exact R.dis 0 p o (R.io p h) List.mem_cons_self
      · exact hn u h
    · obtain ⟨e, e1, e2⟩ := hd a ha
      obtain ⟨b, e3, ob2⟩ := R.sl 0 _ e1
      obtain ⟨_, e4⟩ := R.io a ha
      rw [e3] at e4; cases e4
      exact ⟨e, e2, ob2.le lf⟩
end

theorem res_none {K : PySem.W.Frag} {c : Cf} {ρ : Env} {σ : L2.St} {H : Hp} (R : Rel K c c.T0 ρ σ H) : Res K c c.T0 c.B ρ σ H (.vl .none) .non := ⟨R, R.base, .non⟩
/-! ### a def by its body -/
section
variable {P : Program} {w : World} {K : PySem.W.Frag} {mg : Str → Option Value} {base : Heap} {x qual : Str} {st : Stmt} {f : Addr} {fd : FuncData} {N ps : List Str} {k n : Nat} {m : MS}
/-- the body's derivation, whatever the context of the call -/
def Body (P : Program) (w : World) (K : PySem.W.Frag) (mg : Str → Option Value) (base : Heap) (qual : Str) (st : Stmt) (f : Addr) (N : List Str) (k : Nat) (io : Bool) (m : MS) : Prop :=
  ∀ (cdv : Value) (A : Around) (outer : List PySem.Env) (s : Shared) (H : Hp) (E : XK), Room k (A.deeper (envOfC qual (defScope st) s.heap.objs.size f cdv)) → ∀ (c : Cf) (W : WX), (io = false → c.io = none) →
    SSs (cxOf CX0 P w K mg base N qual (defScope st) f cdv A outer s H E).nox c W (defBody st) m
theorem fn_P (F : L2.Fun K x qual st f fd) (S : FnScope N ps (defScope st)) (hn : ps.length = n) (hN : n ≤ N.length) (hb : Body P w K mg base qual st f N k false m) :
    FnOk P w K mg base CX0 (k + 1) f fd ps (spP K n (wpF n N.length m)) := by
  refine F.ok S (fun vs H Q E h => ?_) (fun cdv A outer s H vs Q E hr h => ?_)
  · obtain ⟨ds, T, _, r, hl, _⟩ := h
    rw [r.length, hl, hn]
  obtain ⟨ds, T, hT, ra, hl, _, q⟩ := h
  have B := hb cdv A outer s H E hr ⟨Fz (Hid none T) H, none, T⟩ (fun _ _ _ _ => True) (fun _ => rfl)
  obtain ⟨R, ef⟩ := Rel.entry (K := K) (N := N) (vs := vs) (io := none) (ρ := ds.map Sl.sh) (m := N.length - n) hT (by rw [List.length_map, hl]; omega) (by rw [List.length_map]; exact ra.length) (fun a e => nomatch e)
    (fun i d e => by rw [List.getElem?_map] at e; cases h : ds[i]? <;> rw [h] at e <;> cases e)
    (fun i d v e ev => by
      rw [List.getElem?_map] at e
      obtain ⟨d', e1, e2⟩ := ra.get ev
      rw [e1] at e; cases e
      exact e2)
    (fun i ns e => by rw [List.getElem?_map] at e; cases h : ds[i]? <;> rw [h] at e <;> cases e) (fun i v e => by rw [List.getElem?_map] at e; cases h : ds[i]? <;> rw [h] at e <;> cases e)
  refine ⟨_, B.run, _, R, B.mo _ _ _ ?_ q⟩
  refine ⟨fun ρ q σ' H' R' => ?_, fun r ρ q v σ' H' h => q.2 v H' (ret_ok h (nb_val q.1) none (fun a e => nomatch e)), fun _ q => q.elim, fun _ q => q.elim, fun x ρ q cls d σ' H' _ _ => True.intro⟩
  exact q .non H' (ret_ok (c := ⟨Fz (Hid none T) H, none, T⟩) (r := .vl .none) (res_none R') ⟨_, rfl⟩ none (fun a e => nomatch e))
end
end VL

set_option Elab.async false
set_option linter.all false
set_option maxRecDepth 100000
set_option maxHeartbeats 4000000
/-! VL20: defs that change their first argument, the def that is handed the script; the calls. -/
namespace VL
open PySem PySem.Spec PyProof.Rows L2

section
variable {P : Program} {w : World} {K : PySem.W.Frag} {mg : Str → Option Value} {base : Heap} {x qual : Str} {st : Stmt} {f : Addr} {fd : FuncData} {N ps : List Str} {k n : Nat} {m : MS}
theorem fn_I (F : L2.Fun K x qual st f fd) (S : FnScope N ps (defScope st)) (hn : ps.length = n) (hN : n ≤ N.length) (hb : Body P w K mg base qual st f N k true m) :
    FnOk P w K mg base CX0 (k + 1) f fd ps (spI K n (wpI n N.length m)) := by
  refine F.ok S (fun vs H Q E h => ?_) (fun cdv A outer s H vs Q E hr h => ?_)
  · obtain ⟨a, ws, d0, ds, T, rfl, _, _, _, r, hl, _⟩ := h
    rw [List.length_cons, r.length, hn, ← hl, List.length_cons]
  obtain ⟨a, ws, d0, ds, T, rfl, hT, ha, ob, ra, hl, d1, ds1, e1, _, q⟩ := h
  cases e1
  have B := hb cdv A outer s H E hr ⟨Fz (Hid (some a) T) H, some a, T⟩ (fun _ _ _ _ => True) (fun z => nomatch z)
  have atS : ∀ {i : Nat} {s : Sl}, (Sl.ow d0 :: ds.map Sl.sh)[i]? = some s → (i = 0 ∧ s = .ow d0) ∨ ∃ j d, i = j + 1 ∧ ds[j]? = some d ∧ s = .sh d := fun {i s} e => by
    cases i with
    | zero => exact .inl ⟨rfl, by simpa using e.symm⟩
    | succ j =>
      rw [List.getElem?_cons_succ, List.getElem?_map] at e
      cases h : ds[j]? with
      | none => rw [h] at e; cases e
      | some d => rw [h] at e; cases e; exact .inr ⟨j, d, rfl, h, rfl⟩
  obtain ⟨R, ef⟩ := Rel.entry (K := K) (N := N) (vs := .ref a :: ws) (io := some a) (ρ := .ow d0 :: ds.map Sl.sh) (m := N.length - n) hT (by simp only [List.length_cons, List.length_map] at hl ⊢; omega) (by simp [ra.length]) (fun b e => by
      cases e
      exact ⟨ha, ⟨d0, rfl⟩, rfl⟩)
    (fun i d e => by
      rcases atS e with ⟨h, e⟩ | ⟨j, d', _, _, e⟩
      · cases e; exact ⟨h, a, rfl, ob⟩
      · cases e)
    (fun i d v e ev => by
      rcases atS e with ⟨h, e⟩ | ⟨j, d', h, e1, e⟩
      · cases e
      · cases e
        subst h
        obtain ⟨d2, e2, e3⟩ := ra.get (i := j) (by simpa using ev)
        rw [e1] at e2; cases e2
        exact e3)
    (fun i ns e => by
      rcases atS e with ⟨h, e⟩ | ⟨j, d', h, e1, e⟩ <;> cases e) (fun i v e => by
      rcases atS e with ⟨h, e⟩ | ⟨j, d', h, e1, e⟩ <;> cases e)
  refine ⟨_, B.run, _, R, B.mo _ _ _ ?_ q⟩
  refine ⟨fun ρ q σ' H' R' => ?_, fun r ρ q v σ' H' h => ?_, fun _ q => q.elim, fun _ q => q.elim, fun x ρ q cls d σ' H' _ _ => True.intro⟩
  · obtain ⟨d, e, q⟩ := q
    exact q .non H' (ret_ok (c := ⟨Fz (Hid (some a) T) H, some a, T⟩) (r := .vl .none) (res_none R') ⟨_, rfl⟩ (some d) (fun b _ => ⟨d, e, rfl⟩))
  · obtain ⟨h1, d, e, q⟩ := q
    exact q v H' (ret_ok h (nb_val h1) (some d) (fun b _ => ⟨d, e, rfl⟩))
theorem fn_S (F : L2.Fun K x qual st f fd) (S : FnScope N ps (defScope st)) (hn : ps.length = 1) (hN : 1 ≤ N.length) (hb : Body P w K mg base qual st f N k false m) :
    FnOk P w K mg base CX0 (k + 1) f fd ps (spS K (wpSc N.length m)) := by
  refine F.ok S (fun vs H Q E h => ?_) (fun cdv A outer s H vs Q E hr h => ?_)
  · obtain ⟨a, ns, T, rfl, _⟩ := h
    rw [hn]; rfl
  obtain ⟨a, ns, T, rfl, hT, hs, q⟩ := h
  have B := hb cdv A outer s H E hr ⟨Fz (Hid none T) H, none, T⟩ (fun _ _ _ _ => True) (fun _ => rfl)
  have atS : ∀ {i : Nat} {s : Sl}, ([Sl.sc ns])[i]? = some s → i = 0 ∧ s = .sc ns := fun {i s} e => by
    cases i with
    | zero => exact ⟨rfl, by simpa using e.symm⟩
    | succ j => simp at e
  obtain ⟨R, ef⟩ := Rel.entry (K := K) (N := N) (vs := [.ref a]) (io := none) (ρ := [.sc ns]) (m := N.length - 1) hT (by simp only [List.length_cons, List.length_nil]; omega) rfl (fun a e => nomatch e)
    (fun i d e => by obtain ⟨_, e⟩ := atS e; cases e) (fun i d v e ev => by obtain ⟨_, e⟩ := atS e; cases e)
    (fun i ns' e => by obtain ⟨h, e⟩ := atS e; cases e; subst h; exact ⟨a, rfl, hs⟩) (fun i v e => by obtain ⟨_, e⟩ := atS e; cases e)
  refine ⟨_, B.run, _, R, B.mo _ _ _ ?_ q⟩
  refine ⟨fun ρ q σ' H' R' => ?_, fun r ρ q v σ' H' h => q.2 v H' (ret_ok h (nb_val q.1) none (fun a e => nomatch e)), fun _ q => q.elim, fun _ q => q.elim, fun x ρ q cls d σ' H' _ _ => True.intro⟩
  exact q .non H' (ret_ok (c := ⟨Fz (Hid none T) H, none, T⟩) (r := .vl .none) (res_none R') ⟨_, rfl⟩ none (fun a e => nomatch e))
end

/-! ### the caller's side -/
section
variable {K : PySem.W.Frag} {c : Cf} {T T2 : List (Addr × HO)} {ρ : Env} {σ : L2.St} {H H' : Hp} {i : Nat} {a : Addr} {d : D}
/-- all that is ours, but the thing of slot i -/
theorem own_list (H : Hp) (q : Nat → Prop) : ∀ n : Nat, ∃ L : List (Addr × HO), ∀ b o, (b, o) ∈ L ↔ H b = some o ∧ ∃ j, j < n ∧ q j ∧ OwnAt ρ σ j b
  | 0 => ⟨[], fun b o => by simp⟩
  | n + 1 => by
    obtain ⟨L, hL⟩ := own_list H q n
    by_cases h : q n ∧ ∃ b o, OwnAt ρ σ n b ∧ H b = some o
    · obtain ⟨hq, b0, o0, h1, h2⟩ := h
      refine ⟨(b0, o0) :: L, fun b o => ?_⟩
      rw [List.mem_cons, hL]
      constructor
      · rintro (e | ⟨e, j, hj, h⟩)
        · cases e; exact ⟨h2, n, Nat.lt_succ_self n, hq, h1⟩
        · exact ⟨e, j, Nat.lt_succ_of_lt hj, h⟩
      · rintro ⟨e, j, hj, h⟩
        rcases Nat.lt_succ_iff_lt_or_eq.mp hj with hj | hj
        · exact .inr ⟨e, j, hj, h⟩
        · subst hj
          have := h.2.2
          rw [h1.2] at this
          cases this
          rw [h2] at e; cases e
          exact .inl rfl
    · refine ⟨L, fun b o => ?_⟩
      rw [hL]
      constructor
      · rintro ⟨e, j, hj, h⟩
        exact ⟨e, j, Nat.lt_succ_of_lt hj, h⟩
      · rintro ⟨e, j, hj, hh⟩
        rcases Nat.lt_succ_iff_lt_or_eq.mp hj with hj | hj
        · exact ⟨e, j, hj, hh⟩
        · subst hj
          exact absurd ⟨hh.1, b, o, hh.2, e⟩ h
theorem Rel.hiddenT (R : Rel K c T ρ σ H) (q : Nat → Prop) : ∃ L : List (Addr × HO), TOk L H ∧ (∀ b o, (b, o) ∈ T → (b, o) ∈ L) ∧ (∀ p : Addr × HO, IsTb p.2 → (p ∈ L ↔ p ∈ c.T0)) ∧ ∀ b, (∃ o, (b, o) ∈ L) ↔ (∃ j, q j ∧ OwnAt ρ σ j b) ∨ ∃ o, (b, o) ∈ T := by
  obtain ⟨L, hL⟩ := own_list (ρ := ρ) (σ := σ) H q σ.length
  refine ⟨L ++ T, fun b o h => ?_, fun b o h => List.mem_append.mpr (.inr h), fun p b => ⟨fun h => ?_, fun h => List.mem_append.mpr (.inr ((R.t0 p b).mpr h))⟩, fun b => ?_⟩
  · rcases List.mem_append.mp h with h | h
    · obtain ⟨e, j, _, _, ho⟩ := (hL b o).mp h
      obtain ⟨_, _, ob⟩ := R.own ho
      rw [e] at ob
      exact .inr ⟨e, ob.mt⟩
    · exact R.tst b o h
  · rcases List.mem_append.mp h with h | h
    · obtain ⟨e, j, _, _, ho⟩ := (hL p.1 p.2).mp h
      obtain ⟨_, _, ob⟩ := R.own ho
      rw [e] at ob
      obtain ⟨ps, z⟩ := b
      exact absurd z (ob.mt.1 ps)
    · exact (R.t0 p b).mp h
  · constructor
    · rintro ⟨o, h⟩
      rcases List.mem_append.mp h with h | h
      · obtain ⟨_, j, _, h⟩ := (hL b o).mp h
        exact .inl ⟨j, h⟩
      · exact .inr ⟨o, h⟩
    · rintro (⟨j, hq, h⟩ | ⟨o, h⟩)
      · obtain ⟨u, e⟩ := Option.ne_none_iff_exists'.mp (R.prot (.inl ⟨j, h⟩))
        exact ⟨u, List.mem_append.mpr (.inl ((hL b u).mpr ⟨e, j, (List.getElem?_eq_some_iff.mp h.2).1, hq, h⟩))⟩
      · exact ⟨o, List.mem_append.mpr (.inr h)⟩
theorem Rel.hidden (R : Rel K c T ρ σ H) (q : Nat → Prop) : ∃ L : List (Addr × HO), TOk L H ∧ (∀ b o, (b, o) ∈ T → (b, o) ∈ L) ∧ ∀ b, (∃ o, (b, o) ∈ L) ↔ (∃ j, q j ∧ OwnAt ρ σ j b) ∨ ∃ o, (b, o) ∈ T := by
  obtain ⟨L, a, b, _, d⟩ := R.hiddenT q
  exact ⟨L, a, b, d⟩
/-- behind a call: what is ours is as it was, what is frozen has grown -/
theorem Rel.after (R : Rel K c T ρ σ H) (hk : ∀ b, (∃ j, OwnAt ρ σ j b) → H' b = H b) (ht : ∀ b o, (b, o) ∈ T2 → Sat H' b o) (hd : ∀ i b o, OwnAt ρ σ i b → (b, o) ∉ T2) (hs : ∀ p : Addr × HO, IsTb p.2 → (p ∈ T2 ↔ p ∈ T)) (l : Le (Fr T ρ σ H) (Fr T2 ρ σ H')) : Rel K c T2 ρ σ H' where
  len := R.len
  inj := R.inj
  dis := hd
  tst := ht
  sl := fun i s e => (R.sl i s e).le l fun d es a ea => by subst es; exact hk a ⟨i, ⟨d, e⟩, ea⟩
  base := R.base.trans l
  io := R.io
  t0 := fun p b => (hs p b).trans (R.t0 p b)
end
section
variable {X : Cx} {c : Cf} {W : WX} {k n : Nat} {f : Addr} {fd : FuncData} {ps : List Str} {F : FP} {x : Str} {p pos : Pos} {e : Expr} {es : List Expr} {ma : MA}
def sCallP (n : Nat) (F : FP) (ma : MA) : ME := fun ρ Q _ => ma ρ (fun rs ρ' => ∃ ds, vals rs = some ds ∧ ds.length = n ∧ F ds (fun r _ => Q r ρ') (fun _ _ => True)) (fun _ _ => False)
theorem mono_callP {ma : MA} (hF : MonoF F) (h : Mono ma) : Mono (sCallP n F ma) := fun ρ Q Q' X X' hq hx q =>
  h _ _ _ _ _ (fun rs ρ' ⟨ds, e, hl, q⟩ => ⟨ds, e, hl, hF _ _ _ _ _ (fun r _ q => hq _ _ q) (fun _ _ z => z) q⟩) (fun _ _ z => z) q
theorem hid_prot {T L : List (Addr × HO)} {ρ : Env} {σ : L2.St} (hL : ∀ b, (∃ o, (b, o) ∈ L) ↔ (∃ j, True ∧ OwnAt ρ σ j b) ∨ ∃ o, (b, o) ∈ T) : Hid none L = Prot T ρ σ := funext fun b => propext (by
  unfold Hid Prot
  constructor
  · rintro (h | h)
    · cases h
    · exact ((hL b).mp h).imp (fun ⟨j, _, h⟩ => ⟨j, h⟩) id
  · rintro (⟨j, h⟩ | h)
    · exact .inr ((hL b).mpr (.inl ⟨j, True.intro, h⟩))
    · exact .inr ((hL b).mpr (.inr h)))
theorem ret_caller {K : PySem.W.Frag} {c : Cf} {T L : List (Addr × HO)} {ρ : Env} {σ : L2.St} {H H' : Hp} {r : Rs} {v : V} {d' : Option D} (R : Rel K c T ρ σ H) (tL : TOk L H) (hT : ∀ b o, (b, o) ∈ T → (b, o) ∈ L) (hL : ∀ b, (∃ o, (b, o) ∈ L) ↔ (∃ j, True ∧ OwnAt ρ σ j b) ∨ ∃ o, (b, o) ∈ T)
    (h : RetOk K none L (Fr T ρ σ H) H' r v d') : Res K c T (Fr T ρ σ H) ρ σ H' r v := by
  have ep := hid_prot hL
  have keepO : ∀ b, (∃ j, OwnAt ρ σ j b) → H' b = H b := fun b ⟨j, hj⟩ => by
    obtain ⟨o, ho⟩ := (hL b).mpr (.inl ⟨j, True.intro, hj⟩)
    exact (tL b o ho).same (R.owned hj) (h.1 b o ho)
  have keepT : ∀ b o, (b, o) ∈ T → Sat H' b o := fun b o hb => h.1 b o (hT b o hb)
  cases r with
  | bo i => exact h.2.elim
  | vl d =>
    obtain ⟨_, l, rp, _⟩ := h
    rw [ep] at l rp
    exact ⟨R.after keepO keepT R.dis (fun _ _ => Iff.rfl) l, l, rp⟩
  | fr d =>
    obtain ⟨_, q, o, rfl, hq, hn, l, ob, _⟩ := h
    have ep2 : Hid none ((q, o) :: L) = Prot ((q, o) :: T) ρ σ := funext fun b => propext (by
      rw [prot_cons, ← ep]
      unfold Hid
      constructor
      · rintro (z | ⟨u, z⟩)
        · cases z
        · rcases List.mem_cons.mp z with z | z
          · exact .inl (congrArg Prod.fst z)
          · exact .inr (.inr ⟨u, z⟩)
      · rintro (z | z | ⟨u, z⟩)
        · exact .inr ⟨o, by rw [z]; exact List.mem_cons_self⟩
        · cases z
        · exact .inr ⟨u, List.mem_cons_of_mem _ z⟩)
    rw [ep2] at l ob
    rw [ep] at hn
    refine ⟨q, o, rfl, R.after keepO (fun b u hb => ?_) (fun i b u hi hb => ?_) (fun _ b => ⟨fun h => drop_head ob.mt h b, fun h => List.mem_cons_of_mem _ h⟩) l, fun u hu => hn (.inr ⟨u, hu⟩), l, ob⟩
    · rcases List.mem_cons.mp hb with z | z
      · cases z; exact .inr ⟨hq, ob.mt⟩
      · exact keepT b u z
    · rcases List.mem_cons.mp hb with z | z
      · cases z; exact hn (.inl ⟨i, hi⟩)
      · exact R.dis i b u hi z
theorem se_callP (G : FnOk X.prog X.w X.K X.mg X.base CX0 k f fd ps (spP X.K n F)) (hF : MonoF F) (hr : Room k X.A) (hg : Gl X x) (hm : X.mg x = some (.ref f)) (hk : PySem.W.keepIn X.K (.ref f) = true) (hb : Binds X.K fd ps []) (ha : SA X c W (e :: es) ma)
    (hdb : (x == ("__debug__" : Str)) = false := by decide) (he : starEach (e :: es) X.env = (false, eval e X.env) :: starEach es X.env := by rfl) (hpl : (backTo pos (starEach es X.env)).any (·.1) = false := by rfl) :
    SE X c W (.Call (.Name x p) (e :: es) [] pos) (sCallP n F ma) := by
  refine se_of (pe_call G hr hg hm hk hb .nil L2.pass0 ha.run hdb he hpl) (mono_callP hF ha.mo) fun σ H Q ⟨T, ρ, R, q⟩ => ?_
  refine ⟨T, ρ, R, ha.mo _ _ _ _ _ (fun rs ρ1 q vs H1 hA => ?_) (fun _ _ z => z.elim) q⟩
  obtain ⟨ds, e1, hl, q⟩ := q
  obtain ⟨R1, l1, o1⟩ := hA
  obtain ⟨L, tL, hT, hL⟩ := R1.hidden (fun _ => True)
  have ep := hid_prot hL
  rw [List.append_nil]
  refine ⟨ds, L, tL, ?_, hl, ?_⟩
  · rw [ep]; exact Opr.rps o1 e1
  · refine hF _ _ _ _ _ (fun r d' q v H' h => q v H' ?_) (fun _ _ z => z) q
    rw [ep] at h
    exact (ret_caller R1 tL hT hL h).le l1
theorem se_callP0 {F : FP} (G : FnOk X.prog X.w X.K X.mg X.base CX0 k f fd ps (spP X.K 0 F)) (hF : MonoF F) (hr : Room k X.A) (hg : Gl X x) (hm : X.mg x = some (.ref f)) (hk : PySem.W.keepIn X.K (.ref f) = true) (hb : Binds X.K fd ps [])
    (hdb : (x == ("__debug__" : Str)) = false := by decide) : SE X c W (.Call (.Name x p) [] [] pos) (sCallP 0 F sNil) := by
  refine se_of (pe_call0 G hr hg hm hk hb .nil L2.pass0 hdb) (mono_callP hF mono_nil) fun σ H Q ⟨T, ρ, R, q⟩ => ?_
  obtain ⟨ds, e1, hl, q⟩ := q
  cases e1
  obtain ⟨L, tL, hT, hL⟩ := R.hidden (fun _ => True)
  have ep := hid_prot hL
  refine ⟨[], L, tL, .nil, rfl, ?_⟩
  refine hF _ _ _ _ _ (fun r d' q v H' h => q v H' ?_) (fun _ _ z => z) q
  rw [ep] at h
  exact ret_caller R tL hT hL h
end

section
variable {K : PySem.W.Frag} {c : Cf} {T T2 L : List (Addr × HO)} {ρ : Env} {σ : L2.St} {H H' : Hp} {i : Nat} {a : Addr} {d e : D}
/-- behind a call that was handed the thing of slot i -/
theorem Rel.afterI (R : Rel K c T ρ σ H) (hi : ρ[i]? = some (.ow d)) (ea : σ[i]? = some (some (.ref a))) (hk : ∀ b j, j ≠ i → OwnAt ρ σ j b → H' b = H b) (ht : ∀ b o, (b, o) ∈ T2 → Sat H' b o) (hd : ∀ j b o, OwnAt ρ σ j b → (b, o) ∉ T2) (hs : ∀ p : Addr × HO, IsTb p.2 → (p ∈ T2 ↔ p ∈ T))
    (l : Le (Fr T ρ σ H) (Fr T2 ρ σ H')) (ob : Ob K (Fr T2 ρ σ H') (H' a) e) : Rel K c T2 (ρ.set i (.ow e)) σ H' ∧ Fr T2 (ρ.set i (.ow e)) σ H' = Fr T2 ρ σ H' := by
  have hlt : i < ρ.length := (List.getElem?_eq_some_iff.mp hi).1
  have ef : Fr T2 (ρ.set i (.ow e)) σ H' = Fr T2 ρ σ H' := by
    have : Prot T2 (ρ.set i (.ow e)) σ = Prot T2 ρ σ := funext fun b => propext (prot_write hi)
    show Fz _ _ = Fz _ _
    rw [this]
  refine ⟨⟨by simpa using R.len, fun x y b hx hy => R.inj x y b ((own_write hi).mp hx) ((own_write hi).mp hy), fun x b u hx => hd x b u ((own_write hi).mp hx), ht, fun j s ej => ?_, by rw [ef]; exact R.base.trans l, fun b eb => (own_write hi).mpr (R.io b eb), fun p b => (hs p b).trans (R.t0 p b)⟩, ef⟩
  rw [ef]
  by_cases hj : j = i
  · subst hj
    rw [List.getElem?_set_self hlt] at ej
    cases ej
    exact ⟨a, ea, ob⟩
  · rw [List.getElem?_set_ne (Ne.symm hj)] at ej
    exact (R.sl j s ej).le l fun d2 es b eb => by subst es; exact hk b j hj ⟨⟨d2, ej⟩, eb⟩
theorem hid_protI (hi : ρ[i]? = some (.ow d)) (ea : σ[i]? = some (some (.ref a))) (hL : ∀ b, (∃ o, (b, o) ∈ L) ↔ (∃ j, j ≠ i ∧ OwnAt ρ σ j b) ∨ ∃ o, (b, o) ∈ T) : Hid (some a) L = Prot T ρ σ := funext fun b => propext (by
  unfold Hid Prot
  constructor
  · rintro (h | h)
    · cases h; exact .inl ⟨i, ⟨d, hi⟩, ea⟩
    · exact ((hL b).mp h).imp (fun ⟨j, _, h⟩ => ⟨j, h⟩) id
  · rintro (⟨j, h⟩ | h)
    · by_cases hj : j = i
      · subst hj
        have := h.2
        rw [ea] at this; cases this
        exact .inl rfl
      · exact .inr ((hL b).mpr (.inl ⟨j, hj, h⟩))
    · exact .inr ((hL b).mpr (.inr h)))
theorem ret_callerI {r : Rs} {v : V} {d' : Option D} (R : Rel K c T ρ σ H) (hi : ρ[i]? = some (.ow d)) (ea : σ[i]? = some (some (.ref a))) (tL : TOk L H) (hT : ∀ b o, (b, o) ∈ T → (b, o) ∈ L) (hL : ∀ b, (∃ o, (b, o) ∈ L) ↔ (∃ j, j ≠ i ∧ OwnAt ρ σ j b) ∨ ∃ o, (b, o) ∈ T)
    (h : RetOk K (some a) L (Fr T ρ σ H) H' r v d') : ∃ e, d' = some e ∧ Res K c T (Fr T ρ σ H) (ρ.set i (.ow e)) σ H' r v := by
  have ep := hid_protI hi ea hL
  have keepO : ∀ b j, j ≠ i → OwnAt ρ σ j b → H' b = H b := fun b j hj hb => by
    obtain ⟨o, ho⟩ := (hL b).mpr (.inl ⟨j, hj, hb⟩)
    exact (tL b o ho).same (R.owned hb) (h.1 b o ho)
  have keepT : ∀ b o, (b, o) ∈ T → Sat H' b o := fun b o hb => h.1 b o (hT b o hb)
  cases r with
  | bo i => exact h.2.elim
  | vl d =>
    obtain ⟨_, l, rp, h3⟩ := h
    obtain ⟨e, ee, ob⟩ := h3 a rfl
    rw [ep] at l rp ob
    obtain ⟨R', ef⟩ := R.afterI hi ea keepO keepT R.dis (fun _ _ => Iff.rfl) l ob
    exact ⟨e, ee, R', by rw [ef]; exact l, by rw [ef]; exact rp⟩
  | fr d =>
    obtain ⟨_, q, o, rfl, hq, hn, l, ob, h3⟩ := h
    obtain ⟨e, ee, ob3⟩ := h3 a rfl
    have ep2 : Hid (some a) ((q, o) :: L) = Prot ((q, o) :: T) ρ σ := funext fun b => propext (by
      rw [prot_cons, ← ep]
      unfold Hid
      constructor
      · rintro (z | ⟨u, z⟩)
        · exact .inr (.inl z)
        · rcases List.mem_cons.mp z with z | z
          · exact .inl (congrArg Prod.fst z)
          · exact .inr (.inr ⟨u, z⟩)
      · rintro (z | z | ⟨u, z⟩)
        · exact .inr ⟨o, by rw [z]; exact List.mem_cons_self⟩
        · exact .inl z
        · exact .inr ⟨u, List.mem_cons_of_mem _ z⟩)
    rw [ep2] at l ob ob3
    rw [ep] at hn
    obtain ⟨R', ef⟩ := R.afterI (T2 := (q, o) :: T) hi ea keepO (fun b u hb => by
      rcases List.mem_cons.mp hb with z | z
      · cases z; exact .inr ⟨hq, ob.mt⟩
      · exact keepT b u z) (fun j b u hj hb => by
      rcases List.mem_cons.mp hb with z | z
      · cases z; exact hn (.inl ⟨j, hj⟩)
      · exact R.dis j b u hj z) (fun _ b => ⟨fun h => drop_head ob.mt h b, fun h => List.mem_cons_of_mem _ h⟩) l ob3
    exact ⟨e, ee, q, o, rfl, R', fun u hu => hn (.inr ⟨u, hu⟩), by rw [ef]; exact l, by rw [ef]; exact ob⟩
end
section
variable {X : Cx} {c : Cf} {W : WX} {k n i : Nat} {f : Addr} {fd : FuncData} {ps : List Str} {F : FP} {x y : Str} {p p2 pos : Pos} {es : List Expr} {ma : MA}
def sCallI (i n : Nat) (F : FP) (ma : MA) : ME := fun ρ Q _ => (∃ d0, ρ[i]? = some (.ow d0)) ∧ ma ρ (fun rs ρ' => ∃ d ds, ρ'[i]? = some (.ow d) ∧ vals rs = some ds ∧ (d :: ds).length = n ∧ F (d :: ds) (fun r d' => ∃ e, d' = some e ∧ Q r (ρ'.set i (.ow e))) (fun _ _ => True)) (fun _ _ => False)
theorem mono_callI {ma : MA} (hF : MonoF F) (h : Mono ma) : Mono (sCallI i n F ma) := fun ρ Q Q' X X' hq hx q =>
  ⟨q.1, h _ _ _ _ _ (fun rs ρ' ⟨d, ds, e, e2, hl, q⟩ => ⟨d, ds, e, e2, hl, hF _ _ _ _ _ (fun r d' ⟨e, ee, q⟩ => ⟨e, ee, hq _ _ q⟩) (fun _ _ z => z) q⟩) (fun _ _ z => z) q.2⟩
theorem se_callI (G : FnOk X.prog X.w X.K X.mg X.base CX0 k f fd ps (spI X.K n F)) (hF : MonoF F) (hr : Room k X.A) (hg : Gl X x) (hm : X.mg x = some (.ref f)) (hk : PySem.W.keepIn X.K (.ref f) = true) (hb : Binds X.K fd ps [])
    (hN : X.N[i]? = some y) (hv : Vis X.env.scope y) (ha : SA X c W es ma) (hdy : (y == ("__debug__" : Str)) = false := by decide) (hcy : (y == ("__classdict__" : Str)) = false := by decide)
    (hdb : (x == ("__debug__" : Str)) = false := by decide) (he : starEach (.Name y p2 :: es) X.env = (false, eval (.Name y p2) X.env) :: starEach es X.env := by rfl) (hpl : (backTo pos (starEach es X.env)).any (·.1) = false := by rfl) :
    SE X c W (.Call (.Name x p) (.Name y p2 :: es) [] pos) (sCallI i n F ma) := by
  refine se_of (pe_call G hr hg hm hk hb .nil L2.pass0 (pa_cons (pe_var hN hv hdy hcy) ha.run he) hdb he hpl) (mono_callI hF ha.mo) fun σ H Q ⟨T, ρ, R, ⟨d0, e0⟩, q⟩ => ?_
  obtain ⟨a, ea, ob⟩ := R.sl i _ e0
  refine ⟨.ref a, ea, T, ρ, R, ha.mo _ _ _ _ _ (fun rs ρ1 q vs H1 hA => ?_) (fun _ _ z => z.elim) q⟩
  obtain ⟨d, ds, e1, e2, hl, q⟩ := q
  obtain ⟨R1, l1, o1⟩ := hA
  obtain ⟨a', ea', ob1⟩ := R1.sl i _ e1
  rw [ea] at ea'; cases ea'
  obtain ⟨L, tL, hT, hL⟩ := R1.hidden (fun j => j ≠ i)
  have ep := hid_protI e1 ea hL
  rw [List.append_nil]
  refine ⟨a, vs, d, ds, L, rfl, tL, fun u hu => ?_, by rw [ep]; exact ob1, by rw [ep]; exact Opr.rps o1 e2, hl, ?_⟩
  · rcases (hL a).mp ⟨u, hu⟩ with ⟨j, hj, h⟩ | ⟨o, h⟩
    · exact hj (R1.inj j i a h ⟨⟨d, e1⟩, ea⟩)
    · exact R1.dis i a o ⟨⟨d, e1⟩, ea⟩ h
  · refine hF _ _ _ _ _ (fun r d' q v H' h => ?_) (fun _ _ z => z) q
    obtain ⟨e, ee, q⟩ := q
    rw [ep] at h
    obtain ⟨e2, ee2, hres⟩ := ret_callerI R1 e1 ea tL hT hL h
    rw [ee] at ee2; cases ee2
    exact q v H' (hres.le l1)
/-- f(script) -/
def sCallS (i : Nat) (F : List Int → (Rs → Prop) → Prop) : ME := fun ρ Q _ => ∃ ns, ρ[i]? = some (.sc ns) ∧ F ns fun r => Q r ρ
theorem mono_callS {F : List Int → (Rs → Prop) → Prop} (hF : ∀ ns (k k' : Rs → Prop), (∀ r, k r → k' r) → F ns k → F ns k') : Mono (sCallS i F) := fun ρ Q Q' X X' hq hx ⟨ns, e, q⟩ => ⟨ns, e, hF _ _ _ (fun r q => hq _ _ q) q⟩
theorem se_callS {F : List Int → (Rs → Prop) → Prop} (G : FnOk X.prog X.w X.K X.mg X.base CX0 k f fd ps (spS X.K F)) (hF : ∀ ns (k k' : Rs → Prop), (∀ r, k r → k' r) → F ns k → F ns k') (hr : Room k X.A) (hg : Gl X x) (hm : X.mg x = some (.ref f)) (hk : PySem.W.keepIn X.K (.ref f) = true) (hb : Binds X.K fd ps [])
    (hN : X.N[i]? = some y) (hv : Vis X.env.scope y) (hdy : (y == ("__debug__" : Str)) = false := by decide) (hcy : (y == ("__classdict__" : Str)) = false := by decide)
    (hdb : (x == ("__debug__" : Str)) = false := by decide) (he : starEach [.Name y p2] X.env = (false, eval (.Name y p2) X.env) :: starEach [] X.env := by rfl) (hpl : (backTo pos (starEach [] X.env)).any (·.1) = false := by rfl) :
    SE X c W (.Call (.Name x p) [.Name y p2] [] pos) (sCallS i F) := by
  refine se_of (pe_call G hr hg hm hk hb .nil L2.pass0 (pa_cons (pe_var hN hv hdy hcy) pa_nil he) hdb he hpl) (mono_callS hF) fun σ H Q ⟨T, ρ, R, ns, e0, q⟩ => ?_
  obtain ⟨a, ea, hs⟩ := R.sl i _ e0
  refine ⟨.ref a, ea, ?_⟩
  obtain ⟨L, tL, hT, hL⟩ := R.hidden (fun _ => True)
  have ep := hid_prot hL
  refine ⟨a, ns, L, rfl, tL, by rw [ep]; exact hs, ?_⟩
  refine hF _ _ _ (fun r q v H' h => q v H' ?_) q
  rw [ep] at h
  exact ret_caller R tL hT hL h
/-- script[:63] -/
def sSlSc (i m : Nat) : ME := fun ρ Q _ => ∃ ns, ρ[i]? = some (.sc ns) ∧ Q (.fr (.list ((ns.take m).map PyData.int))) ρ
theorem mono_slSc {m : Nat} : Mono (sSlSc i m) := fun ρ Q Q' X X' hq hx ⟨ns, e, q⟩ => ⟨ns, e, hq _ _ q⟩
theorem se_slSc {m : Nat} {j : Nat} {p3 : Pos} (hN : X.N[i]? = some y) (hv : Vis X.env.scope y) (hdy : (y == ("__debug__" : Str)) = false := by decide) (hcy : (y == ("__classdict__" : Str)) = false := by decide) :
    SE X c W (.Subscript (.Name y p2) (.Slice none (some (.Constant (.int (m : Nat)) j p3)) none p) pos) (sSlSc i m) := by
  refine se_of (pe_slice sl_list (pe_var hN hv hdy hcy) po_none (po_some pe_int)) mono_slSc fun σ H Q ⟨T, ρ, R, ns, e0, q⟩ => ?_
  obtain ⟨a, ea, hs⟩ := R.sl i _ e0
  refine ⟨.ref a, ea, m, rfl, a, _, rfl, sqL_le hs fr_le, fun p hp => q _ _ ?_⟩
  have e1 : cutV (ns.map V.int) none (some (m : Int)) = (ns.take m).map V.int := by
    unfold cutV
    rw [HT.sIx_none, HT.sIx_nat, List.drop_zero, Nat.sub_zero, List.map_take]
    by_cases h : m ≤ (ns.map V.int).length
    · rw [Nat.min_eq_left h]
    · rw [Nat.min_eq_right (by omega), List.take_length, List.take_of_length_le (by omega)]
  rw [e1]
  exact res_new (d := .list _) R hp (RpA.of_ints _)
end
end VL

set_option Elab.async false
set_option linter.all false
set_option maxRecDepth 100000
set_option maxHeartbeats 4000000
/-! VL21: bundles for a program's defs; a, b, c = x, y, z; short words. -/
namespace VL
open PySem PySem.Spec PyProof.Rows L2

/-! ### zip, named -/
def sZip2 (ma : MA) : MI := fun ρ Q X => ma ρ (fun rs ρ' => ∃ ds, vals rs = some ds ∧ ∃ xs ys, itemss ds = some [xs, ys] ∧ Q (zip2D xs ys) ρ') X
def sZip3 (ma : MA) : MI := fun ρ Q X => ma ρ (fun rs ρ' => ∃ ds, vals rs = some ds ∧ ∃ xs ys zs, itemss ds = some [xs, ys, zs] ∧ Q (zip3D xs ys zs) ρ') X
theorem mono_zip2 {ma : MA} (h : Mono ma) : Mono (sZip2 ma) := fun ρ Q Q' X X' hq hx => h ρ _ _ X X' (fun _ _ ⟨ds, a, xs, ys, e, q⟩ => ⟨ds, a, xs, ys, e, hq _ _ q⟩) hx
theorem mono_zip3 {ma : MA} (h : Mono ma) : Mono (sZip3 ma) := fun ρ Q Q' X X' hq hx => h ρ _ _ X X' (fun _ _ ⟨ds, a, xs, ys, zs, e, q⟩ => ⟨ds, a, xs, ys, zs, e, hq _ _ q⟩) hx
section
variable {X : Cx} {c : Cf} {W : WX} {pos p tpos : Pos} {e1 e2 e3 : Expr} {ma : MA} {elts : List Expr} {kk : Nat}
theorem si_zip2N (hg : Gl X "zip") (hm : X.mg "zip" = none) (ha : SA X c W [e1, e2] ma) (hs : starEach [e1, e2] X.env = (false, eval e1 X.env) :: starEach [e2] X.env := by rfl) (hpl : (backTo pos (starEach [e2] X.env)).any (·.1) = false := by rfl) :
    SI X c W (.Tuple elts kk tpos) (.Call (.Name "zip" p) [e1, e2] [] pos) (sZip2 ma) := si_zip2 hg hm ha hs hpl
theorem si_zip3N (hg : Gl X "zip") (hm : X.mg "zip" = none) (ha : SA X c W [e1, e2, e3] ma) (hs : starEach [e1, e2, e3] X.env = (false, eval e1 X.env) :: starEach [e2, e3] X.env := by rfl) (hpl : (backTo pos (starEach [e2, e3] X.env)).any (·.1) = false := by rfl) :
    SI X c W (.Tuple elts kk tpos) (.Call (.Name "zip" p) [e1, e2, e3] [] pos) (sZip3 ma) := si_zip3 hg hm ha hs hpl
end

/-! ### a, b, c = x, y, z: all shared -/
def sPar3 (i j l : Nat) (ma : MA) : MS := fun ρ k => ma ρ (fun rs ρ' => ∃ x y z, vals rs = some [x, y, z] ∧ k.nx (((ρ'.set i (.sh x)).set j (.sh y)).set l (.sh z))) k.ex
theorem monoS_par3 {i j l : Nat} {ma : MA} (h : Mono ma) : MonoS (sPar3 i j l ma) := fun ρ k k' le q => h _ _ _ _ _ (fun _ _ ⟨x, y, z, e, q⟩ => ⟨x, y, z, e, le.nx _ q⟩) le.ex q
section
variable {X : Cx} {c : Cf} {W : WX} {pos px py pz pt pt2 : Pos} {kt k2 : Nat} {a b d : Expr} {ma : MA} {i j l : Nat} {x y z : Str}
theorem ss_par3 (hc : X.calm = true) (hN : X.N.Nodup) (hi : X.N[i]? = some x) (hj : X.N[j]? = some y) (hl : X.N[l]? = some z) (hij : i ≠ j) (hil : i ≠ l) (hjl : j ≠ l)
    (hx : X.env.scope.names.lookup x = some .local) (hy : X.env.scope.names.lookup y = some .local) (hz : X.env.scope.names.lookup z = some .local) (hio : c.io = none ∨ (i ≠ 0 ∧ j ≠ 0 ∧ l ≠ 0)) (ha : SA X c W [a, b, d] ma)
    (hw : swappedStores [.Tuple [.Name x px, .Name y py, .Name z pz] kt pt] (.Tuple [a, b, d] k2 pt2) X.env = pure (some [x, y, z]))
    (hs : swapsWithSole [.Tuple [.Name x px, .Name y py, .Name z pz] kt pt] (.Tuple [a, b, d] k2 pt2) pos.line X.env = pure false := by rfl) :
    SS X c W (.Assign [.Tuple [.Name x px, .Name y py, .Name z pz] kt pt] (.Tuple [a, b, d] k2 pt2) pos) (sPar3 i j l ma) := by
  have h1 : c.io = none ∨ i ≠ 0 := hio.imp id (·.1)
  have h2 : c.io = none ∨ j ≠ 0 := hio.imp id (·.2.1)
  have h3 : c.io = none ∨ l ≠ 0 := hio.imp id (·.2.2)
  refine ss_of (ps_par3 hc hN hi hj hl hij hil hjl hx hy hz ha.run hw hs) (monoS_par3 ha.mo) fun D σ H ⟨ρ, R, q⟩ => ?_
  unfold sPar3 at q
  refine ⟨c.T0, ρ, R, ha.mo _ _ _ _ _ (fun rs ρ1 q vs H1 hA => ?_) (fun x ρ' h => kx_of (T := c.T0) h) q⟩
  obtain ⟨u, v, w, e, q⟩ := q
  obtain ⟨R1, l1, o1⟩ := hA
  have rp := Opr.rps o1 e
  cases rp with
  | cons r1 t => cases t with
    | cons r2 t => cases t with
      | cons r3 t =>
        cases t
        obtain ⟨S1, m1⟩ := R1.store (i := i) (s := .sh u) h1 (.inr ⟨u, rfl, r1⟩)
        obtain ⟨S2, m2⟩ := S1.store (i := j) (s := .sh v) h2 (.inr ⟨v, rfl, r2.le m1⟩)
        obtain ⟨S3, m3⟩ := S2.store (i := l) (s := .sh w) h3 (.inr ⟨w, rfl, (r3.le m1).le m2⟩)
        exact ⟨_, _, _, rfl, q _ _ S3⟩
end

/-! ### the module's constants -/
def GlobM (K : PySem.W.Frag) (mg : Str → Option Value) (x : Str) (d : D) : Prop := ∃ u v, mg x = some u ∧ RelV v u ∧ ∀ H, Rp K H v d
section
variable {K : PySem.W.Frag} {mg : Str → Option Value} {x : Str}
theorem glob_int {i : Int} {t : Tok} (h : mg x = some (.int i t)) : GlobM K mg x (.int i) := ⟨_, .int i, h, ⟨t, rfl⟩, fun _ => .int i⟩
theorem glob_str {s : Str} {t : Tok} (h : mg x = some (.str s t)) : GlobM K mg x (.str s) := ⟨_, .str s, h, ⟨t, rfl⟩, fun _ => .str s⟩
theorem rpa_ints {vs : List Value} {ns : List Int} {H : Hp} (h : IntsAre vs ns) : RpA K H (ns.map V.int) (ns.map PyData.int) := RpA.of_ints ns
theorem glob_tup {a : Addr} {o : Obj} {its : Array Value} {n : Nat} {vs : List V} {ds : List D} (h : mg x = some (.ref a)) (hk : K.lookup a = some o) (hc : o.cls = .type "tuple") (hs : o.data = .seq its n) (hz : its.size ≤ sizeLine) (hv : Vals vs its.toList) (hr : ∀ H, RpA K H vs ds) : GlobM K mg x (.tuple ds) :=
  ⟨_, .ref a, h, rfl, fun H => .tup (.inr ⟨o, its, n, hk, hc, hs, hz, hv⟩) (hr H)⟩
theorem se_gl {X : Cx} {c : Cf} {W : WX} {pos : Pos} {x : Str} {d : D} (g : GlobM X.K X.mg x d) (hg : Gl X x) (hd : (x == ("__debug__" : Str)) = false := by decide) : SE X c W (.Name x pos) (sC d) := se_glob ⟨g⟩ hg hd
end

/-! ### bundles -/
structure FunM (K : PySem.W.Frag) (mg : Str → Option Value) (x : Str) (st : Stmt) (ps : List Str) : Prop where
  ex : ∃ f fd, L2.Fun K x x st f fd ∧ mg x = some (.ref f) ∧ Binds K fd ps []
structure FnB (P : Program) (w : World) (K : PySem.W.Frag) (mg : Str → Option Value) (base : Heap) (k : Nat) (x : Str) (ps : List Str) (sp : Sp) : Prop where
  ex : ∃ f fd, FnOk P w K mg base CX0 k f fd ps sp ∧ mg x = some (.ref f) ∧ PySem.W.keepIn K (.ref f) = true ∧ Binds K fd ps []
section
variable {P : Program} {w : World} {K : PySem.W.Frag} {mg : Str → Option Value} {base : Heap} {x : Str} {st : Stmt} {N ps : List Str} {k n : Nat} {m : MS}
theorem fnB_P (F : FunM K mg x st ps) (S : FnScope N ps (defScope st)) (hn : ps.length = n) (hN : n ≤ N.length) (hb : ∀ f, Body P w K mg base x st f N k false m) : FnB P w K mg base (k + 1) x ps (spP K n (wpF n N.length m)) := by
  obtain ⟨f, fd, h1, h2, h3⟩ := F.ex
  exact ⟨f, fd, fn_P h1 S hn hN (hb f), h2, h1.kp, h3⟩
theorem fnB_I (F : FunM K mg x st ps) (S : FnScope N ps (defScope st)) (hn : ps.length = n) (hN : n ≤ N.length) (hb : ∀ f, Body P w K mg base x st f N k true m) : FnB P w K mg base (k + 1) x ps (spI K n (wpI n N.length m)) := by
  obtain ⟨f, fd, h1, h2, h3⟩ := F.ex
  exact ⟨f, fd, fn_I h1 S hn hN (hb f), h2, h1.kp, h3⟩
theorem fnB_S (F : FunM K mg x st ps) (S : FnScope N ps (defScope st)) (hn : ps.length = 1) (hN : 1 ≤ N.length) (hb : ∀ f, Body P w K mg base x st f N k false m) : FnB P w K mg base (k + 1) x ps (spS K (wpSc N.length m)) := by
  obtain ⟨f, fd, h1, h2, h3⟩ := F.ex
  exact ⟨f, fd, fn_S h1 S hn hN (hb f), h2, h1.kp, h3⟩
theorem fnB_0 (F : FunM K mg x st ps) (k : Nat) : FnB P w K mg base k x ps (spP K n fun _ _ _ => False) := by
  obtain ⟨f, fd, h1, h2, h3⟩ := F.ex
  exact ⟨f, fd, ⟨fun vs H Q E h => by obtain ⟨_, _, _, _, _, h⟩ := h; exact h.elim, fun A outer s H args us vs Q E _ _ _ _ h => by obtain ⟨_, _, _, _, _, h⟩ := h; exact h.elim⟩, h2, h1.kp, h3⟩
theorem fnB_0I (F : FunM K mg x st ps) (k : Nat) : FnB P w K mg base k x ps (spI K n fun _ _ _ => False) := by
  obtain ⟨f, fd, h1, h2, h3⟩ := F.ex
  exact ⟨f, fd, ⟨fun vs H Q E h => by obtain ⟨_, _, _, _, _, _, _, _, _, _, _, h⟩ := h; exact h.elim, fun A outer s H args us vs Q E _ _ _ _ h => by obtain ⟨_, _, _, _, _, _, _, _, _, _, _, h⟩ := h; exact h.elim⟩, h2, h1.kp, h3⟩
end
section
variable {X : Cx} {c : Cf} {W : WX} {k j n i : Nat} {ps : List Str} {F : FP} {x y : Str} {p p2 pos : Pos} {e : Expr} {es : List Expr} {ma : MA}
theorem se_fnP (G : FnB X.prog X.w X.K X.mg X.base k x ps (spP X.K n F)) (hF : MonoF F) (hr : Room j X.A) (hj : k ≤ j) (hg : Gl X x) (ha : SA X c W (e :: es) ma)
    (hdb : (x == ("__debug__" : Str)) = false := by decide) (he : starEach (e :: es) X.env = (false, eval e X.env) :: starEach es X.env := by rfl) (hpl : (backTo pos (starEach es X.env)).any (·.1) = false := by rfl) :
    SE X c W (.Call (.Name x p) (e :: es) [] pos) (sCallP n F ma) := by
  obtain ⟨f, fd, h1, h2, h3, h4⟩ := G.ex
  exact se_callP h1 hF (hr.mono hj) hg h2 h3 h4 ha hdb he hpl
theorem se_fnP0 (G : FnB X.prog X.w X.K X.mg X.base k x ps (spP X.K 0 F)) (hF : MonoF F) (hr : Room j X.A) (hj : k ≤ j) (hg : Gl X x)
    (hdb : (x == ("__debug__" : Str)) = false := by decide) : SE X c W (.Call (.Name x p) [] [] pos) (sCallP 0 F sNil) := by
  obtain ⟨f, fd, h1, h2, h3, h4⟩ := G.ex
  exact se_callP0 h1 hF (hr.mono hj) hg h2 h3 h4 hdb
theorem se_fnI (G : FnB X.prog X.w X.K X.mg X.base k x ps (spI X.K n F)) (hF : MonoF F) (hr : Room j X.A) (hj : k ≤ j) (hg : Gl X x)
    (hN : X.N[i]? = some y) (hv : Vis X.env.scope y) (ha : SA X c W es ma) (hdy : (y == ("__debug__" : Str)) = false := by decide) (hcy : (y == ("__classdict__" : Str)) = false := by decide)
    (hdb : (x == ("__debug__" : Str)) = false := by decide) (he : starEach (.Name y p2 :: es) X.env = (false, eval (.Name y p2) X.env) :: starEach es X.env := by rfl) (hpl : (backTo pos (starEach es X.env)).any (·.1) = false := by rfl) :
    SE X c W (.Call (.Name x p) (.Name y p2 :: es) [] pos) (sCallI i n F ma) := by
  obtain ⟨f, fd, h1, h2, h3, h4⟩ := G.ex
  exact se_callI h1 hF (hr.mono hj) hg h2 h3 h4 hN hv ha hdy hcy hdb he hpl
theorem se_fnS {F : List Int → (Rs → Prop) → Prop} (G : FnB X.prog X.w X.K X.mg X.base k x ps (spS X.K F)) (hF : ∀ ns (k k' : Rs → Prop), (∀ r, k r → k' r) → F ns k → F ns k') (hr : Room j X.A) (hj : k ≤ j) (hg : Gl X x)
    (hN : X.N[i]? = some y) (hv : Vis X.env.scope y) (hdy : (y == ("__debug__" : Str)) = false := by decide) (hcy : (y == ("__classdict__" : Str)) = false := by decide)
    (hdb : (x == ("__debug__" : Str)) = false := by decide) (he : starEach [.Name y p2] X.env = (false, eval (.Name y p2) X.env) :: starEach [] X.env := by rfl) (hpl : (backTo pos (starEach [] X.env)).any (·.1) = false := by rfl) :
    SE X c W (.Call (.Name x p) [.Name y p2] [] pos) (sCallS i F) := by
  obtain ⟨f, fd, h1, h2, h3, h4⟩ := G.ex
  exact se_callS h1 hF (hr.mono hj) hg h2 h3 h4 hN hv hdy hcy hdb he hpl
end
theorem monoF_0 : MonoF (fun _ _ _ => False) := fun _ _ _ _ _ _ _ h => h
theorem monoSc {N : Nat} {m : MS} (h : MonoS m) : ∀ ns (k k' : Rs → Prop), (∀ r, k r → k' r) → wpSc N m ns k → wpSc N m ns k' := fun ns k k' hk q => by
  refine h _ _ _ ?_ q
  exact ⟨fun _ q => hk _ q, fun r _ q => ⟨q.1, hk _ q.2⟩, fun _ q => q, fun _ q => q, fun _ _ q => q⟩
theorem mono_fun {s : SC} : MonoC s ↔ MonoC s := Iff.rfl
theorem boot_zip : bootBuiltins "zip" = some (.type "zip") := by decide +kernel
theorem boot_enumerate : bootBuiltins "enumerate" = some (.type "enumerate") := by decide +kernel
theorem boot_str : bootBuiltins "str" = some (.type "str") := by decide +kernel
theorem boot_bool : bootBuiltins "bool" = some (.type "bool") := by decide +kernel
end VL

set_option Elab.async false
set_option linter.all false
set_option maxRecDepth 100000
set_option maxHeartbeats 4000000
/-! VL22: comparisons as tests. -/
namespace VL
open PySem PySem.Spec PyProof.Rows L2

section
variable {X : Cx} {c : Cf} {W : WX} {pos : Pos} {a b e3 : Expr} {ma mb mc : ME} {k : Nat} {op op' : CmpOp}
theorem st_eq (hr : Room k X.A) (ha : SE X c W a ma) (hb : SE X c W b mb) (hm : behindInMarks .Eq b = false := by rfl) : ST X c W (.Compare a [.Eq] [b] pos) (sBl (sBin s_eq ma mb)) := st_cmp (op_eqD (by have := units_of hr; omega)) os_eq m_eq ha hb hm
theorem st_ne (hr : Room k X.A) (ha : SE X c W a ma) (hb : SE X c W b mb) (hm : behindInMarks .NotEq b = false := by rfl) : ST X c W (.Compare a [.NotEq] [b] pos) (sBl (sBin s_ne ma mb)) := st_cmp (op_neD (by have := units_of hr; omega)) os_ne m_ne ha hb hm
theorem st_ord (ho : isOrd op = true) (hr : Room k X.A) (ha : SE X c W a ma) (hb : SE X c W b mb) (hm : behindInMarks op b = false := by rfl) : ST X c W (.Compare a [op] [b] pos) (sBl (sBin (s_ord op) ma mb)) := st_cmp (or_ord ho hr) os_ord m_ord ha hb hm
theorem st_inD (hr : Room k X.A) (ha : SE X c W a ma) (hb : SE X c W b mb) (hm : behindInMarks .In b = false := by rfl) : ST X c W (.Compare a [.In] [b] pos) (sBl (sBin (s_inD false) ma mb)) := st_cmp (or_inD hr) os_inD m_inD ha hb hm
theorem st_notInD (hr : Room k X.A) (ha : SE X c W a ma) (hb : SE X c W b mb) (hm : behindInMarks .NotIn b = false := by rfl) : ST X c W (.Compare a [.NotIn] [b] pos) (sBl (sBin (s_inD true) ma mb)) := st_cmp (or_notInD hr) os_inD m_inD ha hb hm
theorem st_is (ha : SE X c W a ma) (hb : SE X c W b mb) : ST X c W (.Compare a [.Is] [b] pos) (sBl (sBin (s_is false) ma mb)) := st_cmp (OpR.or op_isN op_is_bl) os_is m_is ha hb (nomark _)
theorem st_isnot (ha : SE X c W a ma) (hb : SE X c W b mb) : ST X c W (.Compare a [.IsNot] [b] pos) (sBl (sBin (s_is true) ma mb)) := st_cmp (OpR.or op_notN op_isnot_bl) os_isnot m_is ha hb (nomark _)
theorem st_ord2 (ho : isOrd op = true) (ho' : isOrd op' = true) (hr : Room k X.A) (ha : SE X c W a ma) (hb : SE X c W b mb) (hc : SE X c W e3 mc) (hm : lastMarks [op, op'] [b, e3] = false := by with_unfolding_all rfl) :
    ST X c W (.Compare a [op, op'] [b, e3] pos) (sBl (sChain (s_ord op) (s_ord op') ma mb mc)) := st_chain (or_ord ho hr) (or_ord ho' hr) os_ord os_ord m_ord m_ord ha hb hc hm
theorem st_ordEq (ho : isOrd op = true) (hr : Room k X.A) (ha : SE X c W a ma) (hb : SE X c W b mb) (hc : SE X c W e3 mc) (hm : lastMarks [op, .Eq] [b, e3] = false := by with_unfolding_all rfl) :
    ST X c W (.Compare a [op, .Eq] [b, e3] pos) (sBl (sChain (s_ord op) s_eq ma mb mc)) := st_chain (or_ord ho hr) (op_eqD (by have := units_of hr; omega)) os_ord os_eq m_ord m_eq ha hb hc hm
end
theorem cs_all {K : PySem.W.Frag} : CallS K (rAll K) (s_aa true) := cs_aa (al := true)
theorem cs_any {K : PySem.W.Frag} : CallS K (rAny K) (s_aa false) := cs_aa (al := false)
theorem cr_sumA {X : Cx} (hc : X.calm = true) : CallR X (.builtin "sum") (r_sum X.K) := VL.cr_sum hc
theorem cr_minA {X : Cx} {k : Nat} (hr : Room k X.A) (hc : X.calm = true) : CallR X (.builtin "min") (r_mm X.K false) := VL.cr_min hr hc
theorem cr_maxA {X : Cx} {k : Nat} (hr : Room k X.A) (hc : X.calm = true) : CallR X (.builtin "max") (r_mm X.K true) := VL.cr_max hr hc
theorem law_sp {K : PySem.W.Frag} {F : List Int → (Rs → Prop) → Prop} {ns : List Int} {H : Hp} {a : Addr} (h : F ns (fun r => r = .vl (.bool true))) (mF : ∀ ns (k k' : Rs → Prop), (∀ r, k r → k' r) → F ns k → F ns k') (hS : SqL K H a (ns.map V.int)) : spS K F [.ref a] H (fun v _ => v = .bl true) (fun _ _ _ => False) := by
  have no : ∀ b, ¬ Hid none [] b := fun b h => by
    rcases h with h | ⟨o, h⟩
    · cases h
    · cases h
  have e : SqL K (Fz (Hid none []) H) a (ns.map V.int) := by
    rcases hS with (r | ⟨o, r⟩) | r
    · exact .inl (.inl (fz_some.mpr ⟨no a, r, fun _ z => nomatch z⟩))
    · exact .inl (.inr ⟨o, fz_some.mpr ⟨no a, r, fun _ z => nomatch z⟩⟩)
    · exact .inr r
  refine ⟨a, ns, [], rfl, (fun _ _ h => nomatch h), e, mF _ _ _ (fun r hr v H' q => ?_) h⟩
  subst hr
  exact rp_bool q.2.2.1
theorem mono_pn : Mono sPn := fun _ _ _ _ _ hq _ h => hq _ _ h
theorem mono_ps {m : ME} (h : Mono m) : Mono (sPs m) := fun ρ Q Q' X X' hq hx => h ρ _ _ X X' (fun _ _ ⟨i, e, q⟩ => ⟨i, e, hq _ _ q⟩) hx
end VL

set_option Elab.async false
set_option linter.all false
set_option maxRecDepth 100000
set_option maxHeartbeats 4000000
/-! VL23: the plain side: reading a meaning, the law's draws, the law's own equality. -/
namespace VL
open PySem PySem.Spec PyProof.Rows L2
theorem shp_int {i : Int} : shp (.int i) = true := by simp [shp, SeqAt.shaped, PyData.canLay0, PyData.depth]
theorem shp_bool {i : Bool} : shp (.bool i) = true := by simp [shp, SeqAt.shaped, PyData.canLay0, PyData.depth]
theorem shp_none : shp .none = true := by simp [shp, SeqAt.shaped, PyData.canLay0, PyData.depth]
theorem ord_lt {i j : Int} : opB .Lt (ordD (.int i) (.int j)) = decide (i < j) := opB_int (op := .Lt) rfl i j
theorem ord_le {i j : Int} : opB .LtE (ordD (.int i) (.int j)) = decide (i ≤ j) := opB_int (op := .LtE) rfl i j
theorem ord_gt {i j : Int} : opB .Gt (ordD (.int i) (.int j)) = decide (j < i) := opB_int (op := .Gt) rfl i j
theorem ord_ge {i j : Int} : opB .GtE (ordD (.int i) (.int j)) = decide (j ≤ i) := opB_int (op := .GtE) rfl i j
theorem cmb_int {i j : Int} : cmb (.int i) (.int j) = true := by simp [cmb]
theorem ite_dec {p : Prop} [Decidable p] {A B : Prop} : (if decide p = true then A else B) ↔ (if p then A else B) := by by_cases h : p <;> simp [h]
theorem eqv_int {i j : Int} : PyData.eqv (.int i) (.int j) = (i == j) := by simp [PyData.eqv]
theorem eqv_bool {i j : Bool} : PyData.eqv (.bool i) (.bool j) = (i == j) := by simp [PyData.eqv]
theorem atI_int {α : Type} {xs : List α} {i : Int} (n : Nat) (h : i = n) {x : α} (e : xs[n]? = some x) : atI xs i = some x := by
  have hlt : n < xs.length := (List.getElem?_eq_some_iff.mp e).1
  unfold atI ixN
  rw [if_pos (by omega), if_pos (by omega)]
  subst h
  simpa using e
/-! the operators on constructors -/
section
variable {i j : Int} {b c : Bool} {x y : Str} {ds es : List D} {kvs : List (D × D)} {d e : D} {k : Rs → Prop} {kd : D → Prop}
theorem q_add : s_add (.int i) (.int j) k ↔ k (.vl (.int (i + j))) := Iff.rfl
theorem q_addT : s_add (.tuple ds) (.tuple es) k ↔ ds.length + es.length ≤ sizeLine ∧ k (.vl (.tuple (ds ++ es))) := Iff.rfl
theorem q_addL : s_add (.list ds) (.list es) k ↔ ds.length + es.length ≤ sizeLine ∧ k (.fr (.list (ds ++ es))) := Iff.rfl
theorem q_iadd : s_iadd (.int i) (.int j) k ↔ k (.vl (.int (i + j))) := Iff.rfl
theorem q_sub : s_sub (.int i) (.int j) k ↔ k (.vl (.int (i - j))) := Iff.rfl
theorem q_mul : s_mul (.int i) (.int j) k ↔ (CMul i j ∨ CMulW i j) ∧ k (.vl (.int (i * j))) := Iff.rfl
theorem q_mulT : s_mul (.tuple ds) (.int j) k ↔ ds ≠ [] ∧ 2 ≤ j ∧ j ≤ 1000 ∧ ds.length ≤ 1000 ∧ k (.vl (.tuple (List.replicate j.toNat ds).flatten)) := Iff.rfl
theorem q_fdiv : s_fdiv (.int i) (.int j) k ↔ ((0 < j ∧ j.natAbs.log2 < 9000 ∧ k (.vl (.int (i / j)))) ∨ (j ≠ 0 ∧ j.natAbs < 1073741824 ∧ k (.vl (.int (i.fdiv j))))) := Iff.rfl
theorem q_mod : s_mod (.int i) (.int j) k ↔ j ≠ 0 ∧ k (.vl (.int (i.fmod j))) := Iff.rfl
theorem q_pow : s_pow (.int i) (.int j) k ↔ (0 ≤ j ∧ j ≤ 1000000 ∧ i.natAbs < 2 ^ 64) ∧ k (.vl (.int (i ^ j.toNat))) := Iff.rfl
theorem q_shl : s_shl (.int i) (.int j) k ↔ (0 ≤ j ∧ j ≤ 1000000 ∧ i.natAbs < 2 ^ 64) ∧ k (.vl (.int (i * 2 ^ j.toNat))) := Iff.rfl
theorem q_eqI : s_eq (.int i) (.int j) k ↔ k (.vl (.bool (decide (i = j)))) := by simp [s_eq, shp_int, eqv_int, Bool.beq_eq_decide_eq]
theorem q_eqB : s_eq (.bool b) (.bool c) k ↔ k (.vl (.bool (b == c))) := by simp [s_eq, shp_bool, eqv_bool]
theorem q_neI : s_ne (.int i) (.int j) k ↔ k (.vl (.bool (!decide (i = j)))) := by simp [s_ne, shp_int, eqv_int, Bool.beq_eq_decide_eq]
theorem q_neB : s_ne (.bool b) (.bool c) k ↔ k (.vl (.bool (!(b == c)))) := by simp [s_ne, shp_bool, eqv_bool]
theorem q_lt : s_ord .Lt (.int i) (.int j) k ↔ k (.vl (.bool (decide (i < j)))) := by simp [s_ord, shp_int, cmb_int, ord_lt]
theorem q_le : s_ord .LtE (.int i) (.int j) k ↔ k (.vl (.bool (decide (i ≤ j)))) := by simp [s_ord, shp_int, cmb_int, ord_le]
theorem q_gt : s_ord .Gt (.int i) (.int j) k ↔ k (.vl (.bool (decide (j < i)))) := by simp [s_ord, shp_int, cmb_int, ord_gt]
theorem q_ge : s_ord .GtE (.int i) (.int j) k ↔ k (.vl (.bool (decide (j ≤ i)))) := by simp [s_ord, shp_int, cmb_int, ord_ge]
theorem q_ixL : s_ixD (.list ds) (.int i) k ↔ ∃ y, atI ds i = some y ∧ k (.vl y) := Iff.rfl
theorem q_ixT : s_ixD (.tuple ds) (.int i) k ↔ ∃ y, atI ds i = some y ∧ k (.vl y) := Iff.rfl
theorem q_isN : s_is false d .none k ↔ k (.vl (.bool (isNone d))) := by simp [s_is]
theorem q_isnN : s_is true d .none k ↔ k (.vl (.bool (!isNone d))) := by simp [s_is]
theorem q_lenL : s_len [.list ds] k ↔ k (.vl (.int ds.length)) := Iff.rfl
theorem q_lenT : s_len [.tuple ds] k ↔ k (.vl (.int ds.length)) := Iff.rfl
theorem q_lenD : s_len [.dict kvs] k ↔ k (.vl (.int kvs.length)) := Iff.rfl
theorem q_int : s_int [.int i] k ↔ k (.vl (.int i)) := Iff.rfl
theorem q_intB : s_int [.bool b] k ↔ k (.vl (.int (if b then 1 else 0))) := Iff.rfl
theorem q_abs : s_abs [.int i] k ↔ k (.vl (.int (absI i))) := Iff.rfl
theorem q_tupL : s_tuple [.list ds] k ↔ k (.vl (.tuple ds)) := Iff.rfl
theorem q_tupT : s_tuple [.tuple ds] k ↔ k (.vl (.tuple ds)) := Iff.rfl
theorem q_listL : s_list [.list ds] k ↔ k (.fr (.list ds)) := Iff.rfl
theorem q_listT : s_list [.tuple ds] k ↔ k (.fr (.list ds)) := Iff.rfl
theorem q_min2 : s_mm false [.int i, .int j] k ↔ k (.vl (.int (if j < i then j else i))) := Iff.rfl
theorem q_max2 : s_mm true [.int i, .int j] k ↔ k (.vl (.int (if j > i then j else i))) := Iff.rfl
theorem q_putL : ixPut (.list ds) (.int i) e kd ↔ ∃ n, ixN ds.length i = some n ∧ kd (.list (ds.set n e)) := Iff.rfl
theorem q_putDI : ixPut (.dict kvs) (.int i) e kd ↔ kvs.length < 1000000 ∧ kd (.dict (dput kvs (.int i) e)) := by simp [ixPut, keyOf]
theorem at0 {α : Type} {a : α} {l : List α} : atI (a :: l) 0 = some a := atI_int 0 rfl rfl
theorem at1 {α : Type} {a b : α} {l : List α} : atI (a :: b :: l) 1 = some b := atI_int 1 rfl rfl
theorem at2 {α : Type} {a b c : α} {l : List α} : atI (a :: b :: c :: l) 2 = some c := atI_int 2 rfl rfl
theorem at3 {α : Type} {a b c d : α} {l : List α} : atI (a :: b :: c :: d :: l) 3 = some d := atI_int 3 rfl rfl
theorem at4 {α : Type} {a b c d e : α} {l : List α} : atI (a :: b :: c :: d :: e :: l) 4 = some e := atI_int 4 rfl rfl
theorem put5_0 : ixN 5 0 = some 0 := rfl
theorem put5_1 : ixN 5 1 = some 1 := rfl
theorem put5_2 : ixN 5 2 = some 2 := rfl
theorem put5_3 : ixN 5 3 = some 3 := rfl
theorem put5_4 : ixN 5 4 = some 4 := rfl
end
local macro_rules | `(tactic| walk_at "vl") => `(tactic| simp only [wpF, wpI, wpSc, cur, sSeq, sIte, sRet, sRetN, sAsg, sExpr, sSkip, put, sTru, sBl, sAndB, sOrB, sNotB, sAnd, sOr, sNot, sNeg, sIf, sC, sVar, sBor, sNil, sCons, sTup, sLst, sBin, sChain, sCall, sCallP, sCallI, sIsi, sIsi2, sAug, sAsgT, sPar, sPar3, sPutIx, sMut, sMut0, sFor, sIt, sRng1, sRng2, sZip2, sZip3, sEnum, sComp, sLRg1, sSl, sPn, sPs, sCnt1, sBrk, sCnt, res, val, vals, ress, nb, tru, List.map_cons, List.map_nil, List.replicate_succ, List.replicate_zero, List.replicate_one, List.cons_append, List.nil_append, List.append_nil, List.length_cons, List.length_nil, List.getElem?_cons_zero, List.getElem?_cons_succ, List.set_cons_zero, List.set_cons_succ, Option.some.injEq, exists_eq_left', exists_eq_left, exists_and_left, exists_eq', true_and, and_true, Nat.reduceSub, Nat.reduceAdd, List.cons.injEq, PyData.int.injEq, PyData.bool.injEq, PyData.list.injEq, PyData.tuple.injEq, Rs.vl.injEq, Rs.fr.injEq, if_true, if_false, Bool.false_eq_true, Bool.not_eq_true, Bool.not_true, Bool.not_false, isT, ite_dec, Sl.ow.injEq, Sl.sh.injEq, Sl.sc.injEq, Tg.put, TgL.put, TgL.len, exists_const, q_add, q_addT, q_addL, q_iadd, q_sub, q_mul, q_mulT, q_fdiv, q_mod, q_pow, q_shl, q_eqI, q_eqB, q_neI, q_neB, q_lt, q_le, q_gt, q_ge, q_ixL, q_ixT, q_isN, q_isnN, q_lenL, q_lenT, q_lenD, q_int, q_intB, q_abs, q_tupL, q_tupT, q_listL, q_listT, q_min2, q_max2, q_putL, q_putDI, at0, at1, at2, at3, at4, put5_0, put5_1, put5_2, put5_3, put5_4])
/-! ### the draws -/
theorem seq_i {m n : MS} {ρ : Env} {k : Ks} (h : ∀ N : Env → Prop, (∀ ρ', n ρ' k → N ρ') → m ρ ⟨N, k.rt, k.bk, k.ct, k.ex⟩) : sSeq m n ρ k := h _ (fun _ h => h)
/-- the law's hand: cells, the next one, the figures left, two sums -/
def HandOk (d : D) : Prop := ∃ (cs : List Int) (p b a e : Int), d = .list [.list (cs.map .int), .int p, .int b, .int a, .int e] ∧ 0 ≤ p
theorem cmul_r {i j : Int} (h : -(2 ^ 64) < j ∧ j < 2 ^ 64) : CMul i j := .inr h
theorem cmul_l {i j : Int} (h : -(2 ^ 64) < i ∧ i < 2 ^ 64) : CMul i j := .inl h
def m_drawA (c1 c2 c3 c4 c5 c6 c7 c8 c9 c10 c11 c12 : Int) : MS :=
  (sSeq (sIte (sAndB (sBl (sBin s_eq (sBin s_ixD (sBor 0) (sC (.int 2))) (sC (.int 0)))) (sBl (sBin (s_ord .Lt) (sBin s_ixD (sBor 0) (sC (.int 1))) (sCall s_len (sCons (sBin s_ixD (sBor 0) (sC (.int 0))) sNil))))) (sSeq (sAsg 2 (sBin s_ixD (sBin s_ixD (sBor 0) (sC (.int 0))) (sBin s_ixD (sBor 0) (sC (.int 1)))))
    (sSeq (sPutIx 0 (sBin s_add (sBin s_ixD (sBor 0) (sC (.int 1))) (sC (.int 1))) (sC (.int 1)))
    (sSeq (sPutIx 0 (sBin s_mod (sCall s_int (sCons (sBin s_add (sBin s_add (sBin s_mul (sBin s_ixD (sBor 0) (sC (.int 3))) (sC (.int c1))) (sBor 2)) (sC (.int c2))) sNil)) (sC (.int c3))) (sC (.int 3)))
    (sIte (sBl (sBin (s_ord .GtE) (sBor 2) (sBin s_pow (sC (.int 10)) (sC (.int 18))))) (sPutIx 0 (sVar 2) (sC (.int 2))) sSkip)))) sSkip)
    (sSeq (sIte (sBl (sBin (s_ord .Gt) (sBin s_ixD (sBor 0) (sC (.int 2))) (sC (.int 0)))) (sSeq (sAsg 3 (sBin s_mod (sCall s_int (sCons (sBin s_ixD (sBor 0) (sC (.int 2))) sNil)) (sBor 1)))
    (sSeq (sPutIx 0 (sBin s_fdiv (sBin s_ixD (sBor 0) (sC (.int 2))) (sBor 1)) (sC (.int 2)))
    (sRet (sVar 3)))) sSkip)
    (sSeq (sPutIx 0 (sBin s_add (sBin s_ixD (sBor 0) (sC (.int 4))) (sC (.int 1))) (sC (.int 4)))
    (sSeq (sAsg 4 (sBin s_mod (sCall s_int (sCons (sBin s_mul (sCall s_int (sCons (sBin s_add (sBin s_ixD (sBor 0) (sC (.int 3))) (sBin s_mul (sC (.int c4)) (sBin s_ixD (sBor 0) (sC (.int 4))))) sNil)) (sC (.int c5))) sNil)) (sC (.int c6))))
    (sSeq (sAsg 4 (sBin s_mod (sCall s_int (sCons (sBin s_mul (sBor 4) (sBin s_add (sBin s_fdiv (sBor 4) (sC (.int c7))) (sC (.int c8)))) sNil)) (sC (.int c9))))
    (sSeq (sAsg 4 (sBin s_mod (sCall s_int (sCons (sBin s_mul (sBor 4) (sBin s_add (sBin s_fdiv (sBor 4) (sC (.int c10))) (sC (.int c11)))) sNil)) (sC (.int c12))))
    (sRet (sBin s_mod (sCall s_int (sCons (sBin s_fdiv (sBor 4) (sC (.int 32))) sNil)) (sBor 1)))))))))
theorem fm0 {i m : Int} (h : 0 < m) : 0 ≤ i.fmod m := by rw [Int.fmod_eq_emod_of_nonneg i (by omega)]; exact Int.emod_nonneg _ (by omega)
theorem fm1 {i m : Int} (h : 0 < m) : i.fmod m < m := Int.fmod_lt_of_pos _ h
theorem atI_map {α β : Type} {f : α → β} {xs : List α} {p : Int} (h0 : 0 ≤ p) (h1 : p < xs.length) : ∃ c, atI (xs.map f) p = some (f c) := by
  obtain ⟨n, rfl⟩ := Int.eq_ofNat_of_zero_le h0
  have hn : n < xs.length := by omega
  exact ⟨xs[n], atI_int n rfl (by simp [hn])⟩
theorem draw_tail {c4 c5 c6 c7 c8 c9 c10 c11 c12 a e many : Int} {cs : List Int} {p b : Int} {x3 x2 : Sl} {k : Ks}
    (h4 : -(2 ^ 64) < c4 ∧ c4 < 2 ^ 64) (h5 : -(2 ^ 64) < c5 ∧ c5 < 2 ^ 64) (h6 : 0 < c6 ∧ c6 < 2 ^ 32) (h7 : 0 < c7 ∧ c7 < 2 ^ 30) (h9 : 0 < c9 ∧ c9 < 2 ^ 32) (h10 : 0 < c10 ∧ c10 < 2 ^ 30) (h12 : 0 < c12) (hm : 0 < many)
    (q : ∀ j x4 e', 0 ≤ j → j < many → nb (.vl (.int j)) ∧ k.rt (.vl (.int j)) [.ow (.list [.list (cs.map .int), .int p, .int b, .int a, .int e']), .sh (.int many), x2, x3, x4]) :
    (sSeq (sPutIx 0 (sBin s_add (sBin s_ixD (sBor 0) (sC (.int 4))) (sC (.int 1))) (sC (.int 4)))
    (sSeq (sAsg 4 (sBin s_mod (sCall s_int (sCons (sBin s_mul (sCall s_int (sCons (sBin s_add (sBin s_ixD (sBor 0) (sC (.int 3))) (sBin s_mul (sC (.int c4)) (sBin s_ixD (sBor 0) (sC (.int 4))))) sNil)) (sC (.int c5))) sNil)) (sC (.int c6))))
    (sSeq (sAsg 4 (sBin s_mod (sCall s_int (sCons (sBin s_mul (sBor 4) (sBin s_add (sBin s_fdiv (sBor 4) (sC (.int c7))) (sC (.int c8)))) sNil)) (sC (.int c9))))
    (sSeq (sAsg 4 (sBin s_mod (sCall s_int (sCons (sBin s_mul (sBor 4) (sBin s_add (sBin s_fdiv (sBor 4) (sC (.int c10))) (sC (.int c11)))) sNil)) (sC (.int c12))))
    (sRet (sBin s_mod (sCall s_int (sCons (sBin s_fdiv (sBor 4) (sC (.int 32))) sNil)) (sBor 1))))))) [.ow (.list [.list (cs.map .int), .int p, .int b, .int a, .int e]), .sh (.int many), x2, x3, .no] k := by
  refine seq_i fun N hN => ?_
  walk_at "vl"
  refine hN _ (seq_i fun N hN => ?_)
  walk_at "vl"
  refine ⟨.inl (cmul_l h4), .inl (cmul_r h5), by omega, hN _ (seq_i fun N hN => ?_)⟩
  generalize hy : ((a + c4 * (e + 1)) * c5).fmod c6 = y1
  have y0 : 0 ≤ y1 ∧ y1 < c6 := by rw [← hy]; exact ⟨fm0 h6.1, Int.fmod_lt_of_pos _ h6.1⟩
  walk_at "vl"
  refine .inr ⟨by omega, by omega, .inl (cmul_l ⟨by omega, by omega⟩), by omega, hN _ (seq_i fun N hN => ?_)⟩
  generalize hz : (y1 * (y1.fdiv c7 + c8)).fmod c9 = y2
  have z0 : 0 ≤ y2 ∧ y2 < c9 := by rw [← hz]; exact ⟨fm0 h9.1, Int.fmod_lt_of_pos _ h9.1⟩
  walk_at "vl"
  refine .inr ⟨by omega, by omega, .inl (cmul_l ⟨by omega, by omega⟩), by omega, hN _ ?_⟩
  walk_at "vl"
  refine .inr ⟨by omega, by omega, by omega, ?_⟩
  exact (q _ _ _ (fm0 hm) (fm1 hm)).2
theorem draw_spec {c1 c2 c3 c4 c5 c6 c7 c8 c9 c10 c11 c12 many : Int} {d : D} {Q : Rs → Option D → Prop} {X : Ex → Option D → Prop} (h1 : -(2 ^ 64) < c1 ∧ c1 < 2 ^ 64) (h3 : 0 < c3)
    (h4 : -(2 ^ 64) < c4 ∧ c4 < 2 ^ 64) (h5 : -(2 ^ 64) < c5 ∧ c5 < 2 ^ 64) (h6 : 0 < c6 ∧ c6 < 2 ^ 32) (h7 : 0 < c7 ∧ c7 < 2 ^ 30) (h9 : 0 < c9 ∧ c9 < 2 ^ 32) (h10 : 0 < c10 ∧ c10 < 2 ^ 30) (h12 : 0 < c12)
    (hd : HandOk d) (hm : 0 < many ∧ many < 1000000000) (q : ∀ j d', 0 ≤ j → j < many → HandOk d' → Q (.vl (.int j)) (some d')) : wpI 2 5 (m_drawA c1 c2 c3 c4 c5 c6 c7 c8 c9 c10 c11 c12) [d, .int many] Q X := by
  obtain ⟨cs, p, b, a, e, rfl, hp⟩ := hd
  unfold m_drawA
  refine ⟨_, _, rfl, rfl, ?_⟩
  have tail : ∀ (p b a : Int) (x2 : Sl), 0 ≤ p → (sSeq (sIte (sBl (sBin (s_ord .Gt) (sBin s_ixD (sBor 0) (sC (.int 2))) (sC (.int 0)))) (sSeq (sAsg 3 (sBin s_mod (sCall s_int (sCons (sBin s_ixD (sBor 0) (sC (.int 2))) sNil)) (sBor 1)))
    (sSeq (sPutIx 0 (sBin s_fdiv (sBin s_ixD (sBor 0) (sC (.int 2))) (sBor 1)) (sC (.int 2)))
    (sRet (sVar 3)))) sSkip)
    (sSeq (sPutIx 0 (sBin s_add (sBin s_ixD (sBor 0) (sC (.int 4))) (sC (.int 1))) (sC (.int 4)))
    (sSeq (sAsg 4 (sBin s_mod (sCall s_int (sCons (sBin s_mul (sCall s_int (sCons (sBin s_add (sBin s_ixD (sBor 0) (sC (.int 3))) (sBin s_mul (sC (.int c4)) (sBin s_ixD (sBor 0) (sC (.int 4))))) sNil)) (sC (.int c5))) sNil)) (sC (.int c6))))
    (sSeq (sAsg 4 (sBin s_mod (sCall s_int (sCons (sBin s_mul (sBor 4) (sBin s_add (sBin s_fdiv (sBor 4) (sC (.int c7))) (sC (.int c8)))) sNil)) (sC (.int c9))))
    (sSeq (sAsg 4 (sBin s_mod (sCall s_int (sCons (sBin s_mul (sBor 4) (sBin s_add (sBin s_fdiv (sBor 4) (sC (.int c10))) (sC (.int c11)))) sNil)) (sC (.int c12))))
    (sRet (sBin s_mod (sCall s_int (sCons (sBin s_fdiv (sBor 4) (sC (.int 32))) sNil)) (sBor 1)))))))) [.ow (.list [.list (cs.map .int), .int p, .int b, .int a, .int e]), .sh (.int many), x2, .no, .no] ⟨fun ρ => cur ρ fun d => Q (.vl .none) d, fun r ρ => nb r ∧ cur ρ fun d => Q r d, fun _ => False, fun _ => False, fun x ρ => cur ρ fun d => X x d⟩ := by
    intro p b a x2 hp
    refine seq_i fun N hN => ?_
    walk_at "vl"
    by_cases hb : 0 < b
    · rw [if_pos hb]
      refine ⟨by omega, .inl ⟨hm.1, ?_, ?_⟩⟩
      · have := Nat.log2_lt (n := many.natAbs) (k := 30) (by omega)
        have h2 := this.mpr (by omega)
        omega
      · exact q _ _ (fm0 hm.1) (fm1 hm.1) ⟨_, _, _, _, _, rfl, hp⟩
    · rw [if_neg hb]
      refine hN _ ?_
      refine draw_tail h4 h5 h6 h7 h9 h10 h12 hm.1 fun j x4 e' h0 h1 => ⟨True.intro, ?_⟩
      exact ⟨True.intro, _, rfl, q _ _ h0 h1 ⟨_, _, _, _, _, rfl, hp⟩⟩
  refine seq_i fun N hN => ?_
  have fin : ∀ (p b a : Int) (x2 : Sl), 0 ≤ p → N [.ow (.list [.list (cs.map .int), .int p, .int b, .int a, .int e]), .sh (.int many), x2, .no, .no] := fun p b a x2 hp => hN _ (tail p b a x2 hp)
  clear hN tail
  walk_at "vl"
  by_cases hb : b = 0
  · rw [if_pos hb]
    by_cases hc : p < ((cs.map PyData.int).length : Int)
    · rw [if_pos hc]
      obtain ⟨c, ec⟩ := atI_map (f := PyData.int) hp (by simpa using hc)
      refine ⟨_, ec, .inl (cmul_r h1), ?_⟩
      walk_at "vl"
      refine ⟨by omega, by decide, ?_⟩
      by_cases hg : (10 : Int) ^ (18 : Int).toNat ≤ c
      · rw [if_pos hg]; exact fin _ _ _ _ (by omega)
      · rw [if_neg hg]; exact fin _ _ _ _ (by omega)
    · rw [if_neg hc]; exact fin _ _ _ _ hp
  · rw [if_neg hb]; exact fin _ _ _ _ hp
end VL

set_option Elab.async false
set_option linter.all false
set_option maxRecDepth 100000
set_option maxHeartbeats 4000000
/-! VL24: the plain side: comprehensions, the law's hand, the law's own equality. -/
namespace VL
open PySem PySem.Spec PyProof.Rows L2
local macro_rules | `(tactic| walk_at "vl") => `(tactic| simp only [wpF, wpI, wpSc, cur, sSeq, sIte, sRet, sRetN, sAsg, sExpr, sSkip, put, sTru, sBl, sAndB, sOrB, sNotB, sAnd, sOr, sNot, sNeg, sIf, sC, sVar, sBor, sNil, sCons, sTup, sLst, sBin, sChain, sCall, sCallP, sCallI, sIsi, sIsi2, sAug, sAsgT, sPar, sPar3, sPutIx, sMut, sMut0, sFor, sIt, sRng1, sRng2, sZip2, sZip3, sEnum, sComp, sLRg1, sSl, sPn, sPs, sCnt1, sBrk, sCnt, res, val, vals, ress, nb, tru, List.map_cons, List.map_nil, List.replicate_succ, List.replicate_zero, List.replicate_one, List.cons_append, List.nil_append, List.append_nil, List.length_cons, List.length_nil, List.getElem?_cons_zero, List.getElem?_cons_succ, List.set_cons_zero, List.set_cons_succ, Option.some.injEq, exists_eq_left', exists_eq_left, exists_and_left, exists_eq', true_and, and_true, Nat.reduceSub, Nat.reduceAdd, List.cons.injEq, PyData.int.injEq, PyData.bool.injEq, PyData.list.injEq, PyData.tuple.injEq, Rs.vl.injEq, Rs.fr.injEq, if_true, if_false, Bool.false_eq_true, Bool.not_eq_true, Bool.not_true, Bool.not_false, isT, ite_dec, Sl.ow.injEq, Sl.sh.injEq, Sl.sc.injEq, Tg.put, TgL.put, TgL.len, exists_const, q_add, q_addT, q_addL, q_iadd, q_sub, q_mul, q_mulT, q_fdiv, q_mod, q_pow, q_shl, q_eqI, q_eqB, q_neI, q_neB, q_lt, q_le, q_gt, q_ge, q_ixL, q_ixT, q_isN, q_isnN, q_lenL, q_lenT, q_lenD, q_int, q_intB, q_abs, q_tupL, q_tupT, q_listL, q_listT, q_min2, q_max2, q_putL, q_putDI, at0, at1, at2, at3, at4, put5_0, put5_1, put5_2, put5_3, put5_4, wipeE, backE, List.getD_cons_zero, List.getD_cons_succ, sYes, sSlSc, shp_none, List.flatten_cons, List.flatten_nil])
theorem ifF {b : Bool} {A B : Prop} (e : b = false) (h : B) : (if b = true then A else B) := by rw [e]; simpa using h
theorem ifT {b : Bool} {A B : Prop} (e : b = true) (h : A) : (if b = true then A else B) := by rw [e]; simpa using h
/-- one turn of a comprehension that leaves all as it was -/
def StepOk (vs : List Nat) (t : Tg) (mt : MB) (me : ME) (ρ : Env) (d : D) (o : Option D) : Prop := ∀ (k1 : D → Env → Prop) (k2 : Env → Prop), (match o with | some e => k1 e ρ | none => k2 ρ) →
  Tg.put t d (wipeE vs ρ) fun ρ1 => mt ρ1 (fun b ρ2 => if b = true then me ρ2 (fun r ρ3 => ∃ e, val r = some e ∧ k1 e (backE vs ρ ρ3)) (fun _ _ => False) else k2 (backE vs ρ ρ2)) (fun _ _ => False)
theorem compW_pure {vs : List Nat} {t : Tg} {mt : MB} {me : ME} {ρ : Env} {k : List D → Env → Prop} (f : D → Option D) : ∀ (its acc : List D), (∀ d ∈ its, StepOk vs t mt me ρ d (f d)) → k (acc ++ its.filterMap f) ρ → compW vs ρ t mt me its acc ρ k
  | [], acc, _, q => by simpa [compW] using q
  | d :: its, acc, h, q => by
    unfold compW
    refine h d List.mem_cons_self (fun e ρ' => compW vs ρ t mt me its (acc ++ [e]) ρ' k) (fun ρ' => compW vs ρ t mt me its acc ρ' k) ?_
    have ih := fun acc => compW_pure (k := k) f its acc fun d hd => h d (List.mem_cons_of_mem _ hd)
    cases e : f d with
    | none =>
      refine ih acc ?_
      simpa [List.filterMap_cons, e] using q
    | some x =>
      refine ih _ ?_
      simpa [List.filterMap_cons, e, List.append_assoc] using q
theorem compW_map {vs : List Nat} {t : Tg} {mt : MB} {me : ME} {ρ : Env} {k : List D → Env → Prop} (g : D → D) {its : List D} (h : ∀ d ∈ its, StepOk vs t mt me ρ d (some (g d))) (q : k (its.map g) ρ) : compW vs ρ t mt me its [] ρ k :=
  compW_pure (fun d => some (g d)) its [] h (by simpa using q)

theorem aa_all {xs : List D} {k : Rs → Prop} (h : ∀ x ∈ xs, x = .bool true) (q : k (.vl (.bool true))) : s_aa true [.list xs] k := by
  refine ⟨xs.map fun _ => true, ?_, ?_⟩
  · rw [List.map_map]
    have : xs.map (fun _ => PyData.bool true) = xs := by
      induction xs with
      | nil => rfl
      | cons x xs ih => rw [List.map_cons, ih fun y hy => h y (List.mem_cons_of_mem _ hy), h x List.mem_cons_self]
    exact this.symm
  · have : (xs.map fun _ => true).all id = true := by simp
    rw [if_pos rfl, this]
    exact q
theorem q_slT {ds : List D} {lo hi : Option Int} {k : Rs → Prop} : s_sl (.tuple ds) lo hi k ↔ k (.vl (.tuple (cutD ds lo hi))) := Iff.rfl
theorem q_slL {ds : List D} {lo hi : Option Int} {k : Rs → Prop} : s_sl (.list ds) lo hi k ↔ k (.fr (.list (cutD ds lo hi))) := Iff.rfl
theorem cut_1 {ds : List D} : cutD ds (some 1) none = ds.drop 1 := by
  unfold cutD
  have : HT.sIx ds.length 0 (some 1) = min 1 ds.length := HT.sIx_nat ds.length 0 1
  rw [this, HT.sIx_none, List.take_of_length_le (by simp)]
  cases ds with
  | nil => rfl
  | cons d ds => simp [Nat.min_eq_left (show 1 ≤ (d :: ds).length by simp)]
/-! ### the law's hand -/
def m_handA (k0 k1 : Int) : MS :=
  (sSeq (sAsg 1 (sComp [2] (sIt (sSlSc 0 63)) (.nm 2) sYes (sCall s_abs (sCons (sCall s_int (sCons (sBor 2) sNil)) sNil))))
    (sRet (sLst (sCons (sVar 1) (sCons (sC (.int 0)) (sCons (sC (.int 0)) (sCons (sBin s_add (sC (.int k0)) (sBin s_mul (sC (.int k1)) (sCall s_len (sCons (sBor 1) sNil)))) (sCons (sC (.int 0)) sNil))))))))
def absD : D → D
  | .int i => .int (absI i)
  | d => d
theorem hand_spec {k0 k1 : Int} {ns : List Int} {Q : Rs → Prop} (h1 : -(2 ^ 64) < k1 ∧ k1 < 2 ^ 64) (q : ∀ d, HandOk d → Q (.fr d)) : wpSc 3 (m_handA k0 k1) ns Q := by
  unfold m_handA wpSc
  refine seq_i fun N hN => ?_
  walk_at "vl"
  refine ⟨_, rfl, rfl, ?_, ?_⟩
  · simp only [List.length_map, List.length_take, sizeLine_eq]; omega
  refine compW_map absD (fun d hd k1 k2 hk => ?_) (hN _ ?_)
  · obtain ⟨i, _, rfl⟩ := List.mem_map.mp hd
    walk_at "vl"
    exact hk
  · rw [List.map_map]
    walk_at "vl"
    refine ⟨.inl (cmul_l h1), by omega, ?_⟩
    have e1 : (absD ∘ PyData.int) = PyData.int ∘ absI := rfl
    rw [e1, ← List.map_map]
    exact q _ ⟨_, 0, 0, _, 0, rfl, by omega⟩

/-! ### the law's own equality -/
def m_isA (rec : FP) : MS :=
  (sSeq (sIte (sTru (sIsi2 "tuple" "list" (sBor 1))) (sSeq (sIte (sOrB (sBl (sBin s_ne (sIsi "tuple" (sBor 0)) (sIsi "tuple" (sBor 1)))) (sNotB (sTru (sIsi2 "tuple" "list" (sBor 0))))) (sRet (sC (.bool false))) sSkip)
    (sRet (sAnd (sBin s_eq (sCall s_len (sCons (sBor 0) sNil)) (sCall s_len (sCons (sBor 1) sNil))) (sCall (s_aa true) (sCons (sComp [2, 3] (sZip2 (sCons (sVar 0) (sCons (sVar 1) sNil))) (.tp (.cons (.nm 2) (.cons (.nm 3) .nil))) sYes (sCallP 2 rec (sCons (sVar 2) (sCons (sVar 3) sNil)))) sNil))))) sSkip)
    (sSeq (sIte (sTru (sIsi "dict" (sBor 1))) (sSeq (sIte (sOrB (sNotB (sTru (sIsi "dict" (sBor 0)))) (sBl (sBin s_ne (sCall s_len (sCons (sBor 0) sNil)) (sCall s_len (sCons (sBor 1) sNil))))) (sRet (sC (.bool false))) sSkip)
    (sRet (sCall (s_aa true) (sCons (sComp [4] (sIt (sVar 1)) (.nm 4) sYes (sAnd (sBin (s_inD false) (sBor 4) (sBor 0)) (sCallP 2 rec (sCons (sBin s_ixD (sBor 0) (sBor 4)) (sCons (sBin s_ixD (sBor 1) (sBor 4)) sNil))))) sNil)))) sSkip)
    (sSeq (sIte (sOrB (sTru (sIsi "str" (sBor 1))) (sBl (sBin (s_is false) (sBor 1) (sC .none)))) (sRet (sAnd (sBin s_eq (sIsi "str" (sBor 0)) (sIsi "str" (sBor 1))) (sBin s_eq (sBor 0) (sBor 1)))) sSkip)
    (sRet (sAnd (sIsi "int" (sBor 0)) (sAnd (sBin s_eq (sIsi "bool" (sBor 0)) (sIsi "bool" (sBor 1))) (sBin s_eq (sBor 0) (sBor 1))))))))
def F_isA : Nat → FP
  | 0 => fun _ _ _ => False
  | n + 1 => wpF 2 5 (m_isA (F_isA n))
mutual
def pln : D → Bool
  | .none => true
  | .bool _ => true
  | .int _ => true
  | .str x => shp (.str x)
  | .tuple ds => decide (ds.length ≤ 1000) && plnA ds
  | _ => false
def plnA : List D → Bool
  | [] => true
  | d :: ds => pln d && plnA ds
end
theorem plnA_mem : ∀ {ds : List D} {d : D}, plnA ds = true → d ∈ ds → pln d = true
  | x :: xs, d, h, hm => by
    simp only [plnA, Bool.and_eq_true] at h
    rcases List.mem_cons.mp hm with e | hm
    · subst e; exact h.1
    · exact plnA_mem h.2 hm
theorem s_eq_self {d : D} {k : Rs → Prop} (h : shp d = true) (he : PyData.eqv d d = true) (q : k (.vl (.bool true))) : s_eq d d k := ⟨h, h, by rw [he]; exact q⟩
theorem zip_self : ∀ {ds : List D} {d : D}, d ∈ zip2D ds ds → ∃ x ∈ ds, d = .tuple [x, x]
  | x :: xs, d, h => by
    have h' : d ∈ PyData.tuple [x, x] :: zip2D xs xs := h
    rcases List.mem_cons.mp h' with e | h
    · exact ⟨x, List.mem_cons_self, e⟩
    · obtain ⟨y, hy, e⟩ := zip_self h
      exact ⟨y, List.mem_cons_of_mem _ hy, e⟩
theorem isA_self : ∀ (n : Nat) (d : D) (Q : Rs → Option D → Prop) (X : Ex → Option D → Prop), pln d = true → d.depth < n → Q (.vl (.bool true)) none → F_isA n [d, d] Q X
  | 0, d, Q, X, _, h, _ => absurd h (Nat.not_lt_zero _)
  | n + 1, d, Q, X, hp, hd, q => by
    unfold F_isA m_isA wpF
    refine ⟨rfl, ?_⟩
    refine seq_i fun N hN => ?_
    cases d with
    | tuple ds =>
      simp only [pln, Bool.and_eq_true, decide_eq_true_eq] at hp
      simp only [PyData.depth] at hd
      walk_at "vl"
      refine ifT rfl (ifF rfl (ifF rfl ?_))
      refine ⟨ds, ds, rfl, rfl, ?_, ?_⟩
      · rw [zip2_len, sizeLine_eq]; omega
      refine compW_map (fun _ => .bool true) (fun d hd' k1 k2 hk => ?_) ?_
      · obtain ⟨x, hx, rfl⟩ := zip_self hd'
        walk_at "vl"
        refine isA_self n x _ _ (plnA_mem hp.2 hx) (by have := depth_mem hx; omega) ?_
        walk_at "vl"
        exact hk
      · refine ⟨(zip2D ds ds).map (fun _ => true), by rw [List.map_map]; rfl, ?_⟩
        have : ((zip2D ds ds).map (fun _ => true)).all id = true := by simp
        rw [if_pos rfl, this]
        exact ⟨True.intro, q⟩
    | none =>
      walk_at "vl"
      (try refine ifF rfl ?_)
      refine hN _ (seq_i fun N hN => ?_)
      walk_at "vl"
      (try refine ifF rfl ?_)
      refine hN _ (seq_i fun N hN => ?_)
      walk_at "vl"
      refine ifT rfl (ifT rfl ?_)
      exact s_eq_self shp_none (by simp [PyData.eqv]) ⟨True.intro, q⟩
    | bool b =>
      walk_at "vl"
      (try refine ifF rfl ?_)
      refine hN _ (seq_i fun N hN => ?_)
      walk_at "vl"
      (try refine ifF rfl ?_)
      refine hN _ (seq_i fun N hN => ?_)
      walk_at "vl"
      refine ifF rfl (hN _ ?_)
      walk_at "vl"
      (try refine ifT rfl ?_)
      (try refine ifT rfl ?_)
      simpa using q
    | int i =>
      walk_at "vl"
      (try refine ifF rfl ?_)
      refine hN _ (seq_i fun N hN => ?_)
      walk_at "vl"
      (try refine ifF rfl ?_)
      refine hN _ (seq_i fun N hN => ?_)
      walk_at "vl"
      refine ifF rfl (hN _ ?_)
      walk_at "vl"
      (try refine ifT rfl ?_)
      (try refine ifT rfl ?_)
      simpa using q
    | str x =>
      simp only [pln] at hp
      walk_at "vl"
      (try refine ifF rfl ?_)
      refine hN _ (seq_i fun N hN => ?_)
      walk_at "vl"
      (try refine ifF rfl ?_)
      refine hN _ (seq_i fun N hN => ?_)
      walk_at "vl"
      (try refine ifT rfl ?_)
      (try refine ifT rfl ?_)
      exact s_eq_self hp (by simp [PyData.eqv]) ⟨True.intro, q⟩
    | list ds => simp [pln] at hp
    | dict ds => simp [pln] at hp
end VL

set_option Elab.async false
set_option linter.all false
set_option maxRecDepth 100000
set_option maxHeartbeats 4000000
/-! VL25: (x,) * n where n may be 0 or 1. -/
namespace VL
open PySem PySem.Spec PyProof.Rows L2
theorem tuple_mul0 (l : PySem.Addr) (items : Array Value) (n : Nat) (dd : Option PySem.Addr) (sl : Array (Option Value)) (x : Int) (u : Tok) (c0 : (decide (x < -(2 ^ 63)) || decide (x ≥ 2 ^ 63)) = false) (c1 : (items.isEmpty || x == 1) = false) (c2 : (decide (x ≤ 0) || items.isEmpty) = true) :
    Meets (Builtin.«tuple.__mul__» ⟨[.ref l, .int x u], []⟩) (fun _ R s => s.heap.get? l = some { cls := .type "tuple", dict := dd, data := .seq items n, slots := sl } ∧
      R (.ok (.ret (Value.ref s.heap.objs.size))) { s with heap := s.heap.push { cls := Value.type "tuple", data := Data.seq #[] }, toks := s.toks }) :=
  .of_wp fun prog w A R s h => by
    obtain ⟨hp, g, d, tk, os⟩ := s
    obtain ⟨hl, h⟩ := h
    have f1 := AutoSeq1.idx_int
    wp_walk using wpAny_loadPart' hl
    repeat (first
      | (refine wpAny_ite_false (decide_eq_false (by rw [c0]; exact Bool.false_ne_true)) ?_; wp_walk using wpAny_loadPart' hl)
      | (refine wpAny_ite_false (decide_eq_false (by rw [c1]; exact Bool.false_ne_true)) ?_; wp_walk using wpAny_loadPart' hl)
      | (refine wpAny_ite_true (decide_eq_true c2) ?_; wp_walk using wpAny_loadPart' hl))
    exact ⟨_, rfl, h⟩
theorem tuple_mul1 (l : PySem.Addr) (items : Array Value) (n : Nat) (dd : Option PySem.Addr) (sl : Array (Option Value)) (u : Tok) :
    Meets (Builtin.«tuple.__mul__» ⟨[.ref l, .int 1 u], []⟩) (fun _ R s => s.heap.get? l = some { cls := .type "tuple", dict := dd, data := .seq items n, slots := sl } ∧
      R (.ok (.ret (.ref l))) s) :=
  .of_wp fun prog w A R s h => by
    obtain ⟨hp, g, d, tk, os⟩ := s
    obtain ⟨hl, h⟩ := h
    have f1 := AutoSeq1.idx_int
    have c0 : (decide ((1 : Int) < -(2 ^ 63)) || decide ((1 : Int) ≥ 2 ^ 63)) = false := by decide
    have c1 : (items.isEmpty || (1 : Int) == 1) = true := by simp
    wp_walk using wpAny_loadPart' hl
    repeat (first
      | (refine wpAny_ite_false (decide_eq_false (by rw [c0]; exact Bool.false_ne_true)) ?_; wp_walk using wpAny_loadPart' hl)
      | (refine wpAny_ite_true (decide_eq_true c1) ?_; wp_walk using wpAny_loadPart' hl))
    exact ⟨_, rfl, h⟩
/-- the least repeats -/
def rRepU (K : PySem.W.Frag) : R2 := fun x y H Q => ∃ l k xs, x = .ref l ∧ y = .int k ∧ SqT K H l xs ∧ xs ≠ [] ∧ 0 ≤ k ∧ k < 2 ∧ (k = 0 → ∀ p, H p = none → Q (.ref p) (upd H p (.tup []))) ∧ (k = 1 → Q (.ref l) H)
section
variable {X : Cx}
theorem op_repU : OpR X (binaryOp .Mult) (rRepU X.K) := by
  intro pins s σ H x y v u Q I rx ry h
  obtain ⟨l, k, xs, rfl, rfl, hT, hne, h1, h2, q0, q1⟩ := h
  cases rx
  obtain ⟨t, rfl⟩ := ry
  obtain ⟨its, r, ⟨⟨cls, dd, data, sl⟩, ho, hc, n, hd⟩, hs⟩ := I.tuple hT
  simp only at hc hd
  subst hc hd
  have hle : its.length = xs.length := r.length.symm
  have hn : its ≠ [] := fun e => hne (by
    rw [e] at hle
    exact List.eq_nil_of_length_eq_zero hle.symm)
  have hi : its.toArray.isEmpty = false := by
    cases its with
    | nil => exact absurd rfl hn
    | cons a b => rfl
  rcases (by omega : k = 0 ∨ k = 1) with rfl | rfl
  · refine wpAny_binaryOp_repeat_ref (T := "tuple") (U := "int") (by decide) ⟨_, ho, rfl⟩ (fun s' => typeIs_int s' 0 t) noFill_tuple_mul F.fills_int_mul F.slot_int_rmul repeat_tuple F.slot_int_index.lookup
      (call_meets F.slot_int_rmul (typeIs_int s 0 t) F.entry_int_rmul (F.args_int_rmul_2 _ _) (int_rmul_tuple 0 t l its.toArray n dd sl)
        ⟨ho, rfl, ⟨_, ho, rfl⟩, call_meets F.slot_tuple_mul ⟨_, ho, rfl⟩ F.entry_tuple_mul (F.args_tuple_mul_2 _ _) (tuple_mul0 l its.toArray n dd sl 0 t (by decide) (by rw [hi]; rfl) (by rw [hi]; rfl)) ⟨ho, ?_⟩⟩)
    refine ⟨.ref s.heap.objs.size, _, I.laid (t' := s.toks) (o := .tup []) (fun b ob q => Heap.get?_push_of_some _ q) (Nat.le_refl _) ?_, rfl, q0 rfl _ (I.hok.fresh (Nat.le_refl _))⟩
    exact ⟨by rw [sizeLine_eq]; simp, [], .nil, IsTup.new _ _⟩
  · refine wpAny_binaryOp_repeat_ref (T := "tuple") (U := "int") (by decide) ⟨_, ho, rfl⟩ (fun s' => typeIs_int s' 1 t) noFill_tuple_mul F.fills_int_mul F.slot_int_rmul repeat_tuple F.slot_int_index.lookup
      (call_meets F.slot_int_rmul (typeIs_int s 1 t) F.entry_int_rmul (F.args_int_rmul_2 _ _) (int_rmul_tuple 1 t l its.toArray n dd sl)
        ⟨ho, rfl, ⟨_, ho, rfl⟩, call_meets F.slot_tuple_mul ⟨_, ho, rfl⟩ F.entry_tuple_mul (F.args_tuple_mul_2 _ _) (tuple_mul1 l its.toArray n dd sl t) ⟨ho, ?_⟩⟩)
    exact ⟨.ref l, _, I, rfl, q1 rfl⟩
end
/-- a tuple, again so often -/
def s_mulR : S2 := fun d e k => match d, e with
  | .tuple xs, .int n => xs ≠ [] ∧ 0 ≤ n ∧ n ≤ 1000 ∧ xs.length ≤ 1000 ∧ k (.vl (.tuple (List.replicate n.toNat xs).flatten))
  | _, _ => False
theorem m_mulR : Mono2 s_mulR := by
  intro d e k k' h q
  unfold s_mulR at *
  split at q
  · exact ⟨q.1, q.2.1, q.2.2.1, q.2.2.2.1, h _ q.2.2.2.2⟩
  · exact q.elim
def r_mulR (K : PySem.W.Frag) : R2 := fun x y H Q => rRepU K x y H Q ∨ rRepT K x y H Q
theorem os_mulR {K : PySem.W.Frag} : OpS K (r_mulR K) s_mulR := by
  intro c T ρ σ H x y d e Q R hx hy q
  cases d <;> cases e <;> first | exact q.elim | skip
  cases hy.int
  obtain ⟨l, xs, rfl, f1, e1, r1⟩ := hx.tup fr_le
  have hne : xs ≠ [] := fun z => by
    subst z
    cases r1
    exact q.1 rfl
  rename_i ds n
  by_cases h2 : n < 2
  · refine .inl ⟨l, _, xs, rfl, rfl, e1, hne, q.2.1, h2, fun e0 p hp => ?_, fun e0 => ?_⟩
    · subst e0
      exact q.2.2.2.2 _ _ (res_tup R hp .nil)
    · subst e0
      have ed : (List.replicate (Int.toNat 1) ds).flatten = ds := by simp
      have q5 := q.2.2.2.2
      rw [ed] at q5
      exact q5 _ _ (res_vl R (Rp.tup f1 r1))
  · exact .inr ⟨l, _, xs, rfl, rfl, e1, hne, by omega, q.2.2.1, by rw [r1.length]; exact q.2.2.2.1, fun p hp => q.2.2.2.2 _ _ (res_tup R hp (rep_flat r1 _))⟩
section
variable {X : Cx} {c : Cf} {W : WX} {pos : Pos} {a b : Expr} {ma mb : ME}
theorem se_mulR (ha : SE X c W a ma) (hb : SE X c W b mb) : SE X c W (.BinOp a .Mult b pos) (sBin s_mulR ma mb) := se_bin (OpR.or op_repU op_repT) os_mulR m_mulR ha hb
end
theorem q_mulR {ds : List D} {j : Int} {k : Rs → Prop} : s_mulR (.tuple ds) (.int j) k ↔ ds ≠ [] ∧ 0 ≤ j ∧ j ≤ 1000 ∧ ds.length ≤ 1000 ∧ k (.vl (.tuple (List.replicate j.toNat ds).flatten)) := Iff.rfl
end VL

set_option Elab.async false
set_option linter.all false
set_option maxRecDepth 100000
set_option maxHeartbeats 4000000
/-! VL26: x[::-1], x a tuple or a list. -/
namespace VL
open PySem PySem.Spec PyProof.Rows L2 HT
section
variable {prog : Program} {w : World} {A : Around} {E : Value → Shared → Prop} {s : Shared}
theorem places_rev (n : Nat) : Builtin.Slice.slicePlaces ((n : Int) - 1) (-1) (-1) = n := by
  unfold Builtin.Slice.slicePlaces
  have h1 : ¬ ((-1 : Int) > 0) := by omega
  simp only [h1, if_false]
  by_cases h : (n : Int) - 1 > -1
  · rw [if_pos h, show (- -1 : Int) = 1 by decide, Int.ediv_one]
    omega
  · rw [if_neg h]
    omega
theorem applied_rev {sl : PySem.Addr} {vl vu vs : Value} {n : Nat} {Q : Int × Int × Nat → Shared → Prop} (hs : s.heap.IsSliceOf sl vl vu vs) (pl : IsPart vl none) (pu : IsPart vu none) (ps : IsPart vs (some (-1)))
    (h : Q ((n : Int) - 1, -1, n) s) : wpAny (model prog w) A (Builtin.Slice.sliceApplied (.ref sl) (pure (n : Int))) Q E s := by
  obtain ⟨os, hos, hcs, hds⟩ := id hs
  unfold Builtin.Slice.sliceApplied Builtin.Slice.sliceFields
  refine wpAny_bind (wpAny_bind (wpAny_field hos hds (x := vl) rfl (wpAny_bind (wpAny_field hos hds (x := vu) rfl (wpAny_bind (wpAny_field hos hds (x := vs) rfl (wpAny_pure ?_)))))))
  refine wpAny_bind (slicePart_ ps ?_)
  show wpAny _ _ (if ((-1 : Int) == 0) = true then _ else _) _ _ s
  rw [if_neg (by decide)]
  refine wpAny_bind (slicePart_ pl (wpAny_bind (slicePart_ pu (wpAny_bind (wpAny_pure ?_)))))
  show wpAny _ _ (pure ((n : Int) - 1, (-1 : Int), Builtin.Slice.slicePlaces ((n : Int) - 1) (-1) (-1))) _ _ s
  rw [places_rev]
  exact wpAny_pure h
theorem pick_rev (xs : Array Value) : ((List.range xs.size).filterMap fun (m : Nat) => xs[((xs.size : Int) - 1 + (m : Int) * (-1)).toNat]?).toArray = xs.toList.reverse.toArray := by
  have h := PySem.W.krv_pick xs
  unfold slicePick at h
  rw [PySem.W.krv_bounds] at h
  have h2 : (sliceRange ((xs.size : Int) - 1) (-1) (-1)).filterMap (xs[·]?) = (List.range xs.size).filterMap fun (m : Nat) => xs[((xs.size : Int) - 1 + (m : Int) * (-1)).toNat]? := by
    rw [PySem.W.krv_sliceRange, List.filterMap_map]
    have cg : ∀ (l : List Nat) (f g : Nat → Option Value), (∀ m ∈ l, f m = g m) → l.filterMap f = l.filterMap g := fun l f g => by
      induction l with
      | nil => intro _; rfl
      | cons a l ih =>
        intro hh
        rw [List.filterMap_cons, List.filterMap_cons, hh a List.mem_cons_self, ih fun m hm => hh m (List.mem_cons_of_mem _ hm)]
    refine cg _ _ _ fun m hm => ?_
    have := List.mem_range.mp hm
    show xs[xs.size - 1 - m]? = _
    rw [show xs.size - 1 - m = ((xs.size : Int) - 1 + (m : Int) * (-1)).toNat by omega]
  rw [← h2]
  exact h
theorem getItem_tuple_rev {t sl : PySem.Addr} {items : Array Value} {vl vu vs : Value} {Q : Value → Shared → Prop} (ht : IsTup s.heap t items) (hs : s.heap.IsSliceOf sl vl vu vs) (pl : IsPart vl none) (pu : IsPart vu none) (ps : IsPart vs (some (-1)))
    (h : Q (.ref s.heap.objs.size) { s with heap := s.heap.push { cls := .type "tuple", data := .seq items.toList.reverse.toArray } })
    (hsz : items.size ≤ sizeLine) : wpAny (model prog w) A (getItem (.ref t) (.ref sl)) Q E s := by
  have htake : sizeOk (.seq items.toList.reverse.toArray) := by
    show items.toList.reverse.toArray.size ≤ sizeLine
    rw [List.size_toArray, List.length_reverse, Array.length_toList]
    exact hsz
  obtain ⟨os, hos, hcs, hds⟩ := id hs
  have hTs : s.TypeIs (.ref sl) "slice" := ⟨os, hos, hcs⟩
  unfold getItem
  try with_reducible refine wpAny_holding ?_
  first | refine wpAny_bind (wpAny_pure ?_) | skip
  refine wpAny_bind (wpAny_sequenceKey ht.typeIs (by decide) ?_)
  refine wpAny_bind (wpAny_callSpecial?_slot (name := Str.ofString "__getitem__") ht.typeIs PyProof.Rows.slot_tuple_getitem
    (wpAny_call_entry PyProof.Rows.slot_tuple_getitem ht.typeIs entry_tuple_getitem ?_ (args_tuple_getitem _ _)))
  show wpAny _ _ (Builtin.Tuple.tupleItemsOf (.ref t) >>= _) _ _ s
  refine wpAny_bind (tupleItemsOf_ ht ?_)
  refine wpAny_bind (wpAny_typeOf hTs ?_)
  rw [if_pos (by decide)]
  refine wpAny_bind (applied_rev hs pl pu ps ?_)
  have hno : ¬ ((((items.size : Int) - 1) == 0 && (-1 : Int) == 1 && items.size == items.size) = true) := by
    intro q
    rw [Bool.and_eq_true, Bool.and_eq_true] at q
    exact absurd q.1.2 (by decide)
  show wpAny _ _ (if (((items.size : Int) - 1) == 0 && (-1 : Int) == 1 && items.size == items.size) = true then _ else _) _ _ s
  rw [if_neg hno, pick_rev]
  first
    | exact wpAny_bind (m := Builtin.Tuple.tupleExact _) (wpAny_newObj_type (wpAny_pure ⟨_, rfl, wpAny_pure h⟩) htake)
    | exact wpAny_bind (m := Builtin.Tuple.tupleExact _) (wpAny_newObj_type (wpAny_bind (wpAny_pure (wpAny_pure ⟨_, rfl, wpAny_pure h⟩))) htake)
    | exact wpAny_bind (wpAny_bind (m := Builtin.Tuple.tupleExact _) (wpAny_newObj_type (wpAny_pure (wpAny_pure ⟨_, rfl, wpAny_pure h⟩)) htake))
    | exact wpAny_bind (wpAny_bind (m := Builtin.Tuple.tupleExact _) (wpAny_newObj_type (wpAny_pure ⟨_, rfl, wpAny_pure h⟩) htake))
end
section
variable {X : Cx}
def tRevA (K : PySem.W.Frag) (te : TE) : TE := fun σ H Q => te σ H fun x H1 => ∃ a xs, x = .ref a ∧ ((SqL K H1 a xs ∧ ∀ p, H1 p = none → Q (.ref p) (upd H1 p (.lst xs.reverse))) ∨ (SqT K H1 a xs ∧ ∀ p, H1 p = none → Q (.ref p) (upd H1 p (.tup xs.reverse))))
theorem pe_revA {e : Expr} {te : TE} {k : Nat} {p1 p2 p3 pos : Pos} (he : PE X e te) : PE X (.Subscript e (.Slice none none (some (.UnaryOp .USub (.Constant (.int 1) k p1) p2)) p3) pos) (tRevA X.K te) := by
  refine ⟨fun pins s σ H Q I h => ?_⟩
  refine Subscript_ (thn (he.run pins s σ H _ I h) fun v s1 ⟨x, H1, I1, r1, q1⟩ => ?_)
  obtain ⟨a, xs, ex, hx⟩ := q1
  subst ex
  cases r1
  have hst : PO X (some (.UnaryOp .USub (.Constant (.int 1) k p1) p2)) (tPart (tUn (rU fun i => .int (-i)) (tC (.int 1)))) := po_some (pe_un un_neg pe_int)
  refine wpAny_Slice (thn (po_none.run pins s1 σ H1 (fun o H2 => o = none ∧ H2 = H1) I1 ⟨rfl, rfl⟩) fun vl s2 ⟨l, H2, I2, pl, el, e2⟩ => ?_)
  subst el e2
  refine thn (po_none.run pins s2 σ H2 (fun o H3 => o = none ∧ H3 = H2) I2 ⟨rfl, rfl⟩) fun vu s3 ⟨u, H3, I3, pu, eu, e3⟩ => ?_
  subst eu e3
  refine thn (hst.run pins s3 σ H3 (fun o H4 => o = some (-1) ∧ H4 = H3) I3 ⟨1, rfl, -1, rfl, rfl, rfl⟩) fun vs s4 ⟨o, H4, I4, ps, eo, e4⟩ => ?_
  subst eo e4
  have I5 : Inv X pins σ H4 { s4 with heap := s4.heap.push { cls := .type "slice", data := .fields #[vl, vu, vs] } } := I4.kept (t' := s4.toks) fun b ob q => Heap.get?_push_of_some _ q
  show wpAny (model X.prog X.w) X.A (subscriptTail e (.Slice none none (some (.UnaryOp .USub (.Constant (.int 1) k p1) p2)) p3) (.ref a) (.ref s4.heap.objs.size)) (EP X pins σ Q) X.xe { s4 with heap := s4.heap.push { cls := .type "slice", data := .fields #[vl, vu, vs] } }
  rcases hx with ⟨hx, q⟩ | ⟨hx, q⟩
  · obtain ⟨its, r, ht, hz⟩ := I5.list hx
    have hlen := r.length
    refine tail_any (ops := [.ref a, .ref s4.heap.objs.size]) ht.isList.typeIs (PySem.slot_list_getitem.lookup) ?_ (by with_unfolding_all rfl)
    refine wpAny_getItem_list_slice ht.isList (Heap.IsSliceOf.new _ vl vu vs) pl pu ps (by decide) ?_ (by rw [List.size_toArray]; omega)
    rw [PySem.W.krv_pick]
    refine ⟨.ref _, _, I5.laid (t' := s4.toks) (o := .lst xs.reverse) (fun b ob q => Heap.get?_push_of_some _ q) (Nat.le_refl _) ?_, rfl, q _ (I5.hok.fresh (Nat.le_refl _))⟩
    exact ⟨by rw [List.length_reverse]; exact hz, _, 0, r.reverse, Heap.get?_push_size _ rfl⟩
  · obtain ⟨its, r, ht, hz⟩ := I5.tuple hx
    have hlen := r.length
    refine tail_any (ops := [.ref a, .ref s4.heap.objs.size]) ht.typeIs (PyProof.Rows.slot_tuple_getitem.lookup) ?_ (by with_unfolding_all rfl)
    refine getItem_tuple_rev ht (Heap.IsSliceOf.new _ vl vu vs) pl pu ps ?_ (by rw [List.size_toArray]; omega)
    refine ⟨.ref _, _, I5.laid (t' := s4.toks) (o := .tup xs.reverse) (fun b ob q => Heap.get?_push_of_some _ q) (Nat.le_refl _) ?_, rfl, q _ (I5.hok.fresh (Nat.le_refl _))⟩
    exact ⟨by rw [List.length_reverse]; exact hz, _, r.reverse, IsTup.new _ _⟩
end
def s_rev (d : D) (k : Rs → Prop) : Prop := match d with
  | .list ds => k (.fr (.list ds.reverse))
  | .tuple ds => k (.vl (.tuple ds.reverse))
  | _ => False
def sRev (m : ME) : ME := fun ρ Q X => m ρ (fun r ρ1 => ∃ d, res ρ1 r = some d ∧ s_rev d fun r => Q r ρ1) X
theorem m_rev {d : D} {k k' : Rs → Prop} (h : ∀ r, k r → k' r) (q : s_rev d k) : s_rev d k' := by
  cases d <;> first | exact q.elim | exact h _ q
theorem mono_rev {m : ME} (hm : Mono m) : Mono (sRev m) := fun ρ Q Q' X X' hq hx q => hm _ _ _ _ _ (fun r ρ1 ⟨d, e, q⟩ => ⟨d, e, m_rev (fun r q => hq _ _ q) q⟩) hx q
theorem rev_rp {K : PySem.W.Frag} {F : Hp} : ∀ {vs : List V} {ds : List D}, RpA K F vs ds → RpA K F vs.reverse ds.reverse
  | [], _, r => by cases r; exact .nil
  | v :: vs, _, r => by
    cases r with
    | cons h r =>
      rw [List.reverse_cons, List.reverse_cons]
      exact (rev_rp r).app (.cons h .nil)
section
variable {X : Cx} {c : Cf} {W : WX} {k : Nat} {p1 p2 p3 pos : Pos} {e : Expr} {m : ME}
theorem se_rev (h : SE X c W e m) : SE X c W (.Subscript e (.Slice none none (some (.UnaryOp .USub (.Constant (.int 1) k p1) p2)) p3) pos) (sRev m) := by
  refine se_of (pe_revA h.run) (mono_rev h.mo) fun σ H Q ⟨T, ρ, R, q⟩ => ?_
  refine ⟨T, ρ, R, h.mo _ _ _ _ _ (fun r ρ1 ⟨d, e1, q⟩ v H1 hr => ?_) (fun _ _ h => h) q⟩
  obtain ⟨R1, l1, o1⟩ := hr.opr
  have o3 := o1.op R1 e1
  cases d <;> first | exact q.elim | skip
  · obtain ⟨a, xs, rfl, e1, r1⟩ := o3.list fr_le
    exact ⟨a, xs, rfl, .inl ⟨SqL.of e1, fun p hp => q _ _ ((res_new (o := .lst xs.reverse) (d := .list _) R1 hp (rev_rp r1)).le l1)⟩⟩
  · obtain ⟨a, xs, rfl, f1, e1, r1⟩ := o3.tup fr_le
    exact ⟨a, xs, rfl, .inr ⟨e1, fun p hp => q _ _ ((res_tup R1 hp (rev_rp r1)).le l1)⟩⟩
end
theorem q_revL {ds : List D} {k : Rs → Prop} : s_rev (.list ds) k ↔ k (.fr (.list ds.reverse)) := Iff.rfl
theorem q_revT {ds : List D} {k : Rs → Prop} : s_rev (.tuple ds) k ↔ k (.vl (.tuple ds.reverse)) := Iff.rfl
end VL

set_option Elab.async false
set_option linter.all false
set_option maxRecDepth 100000
set_option maxHeartbeats 4000000
/-! VL27: [.. for k in d], d an own dict; d.update(e); dict(list of pairs). -/
namespace VL
open PySem PySem.Spec PyProof.Rows L2
section
variable {K : PySem.W.Frag} {c : Cf} {T : List (Addr × HO)} {ρ : Env} {σ : L2.St} {H H' : Hp} {i : Nat} {a p : Addr} {o u : HO} {d e : D} {v : V}
/-- an own thing is set aside, another object in its place -/
theorem prot_aside (ho : OwnAt ρ σ i a) {b : Addr} : Prot ((a, u) :: T) (ρ.set i .no) σ b ↔ Prot T ρ σ b := by
  have hs : ∀ d' : D, Sl.no ≠ .ow d' := fun _ q => nomatch q
  constructor
  · rintro (⟨j, h⟩ | ⟨o, h⟩)
    · exact .inl ⟨j, (own_set hs h).1⟩
    · rcases List.mem_cons.mp h with e | h
      · cases e; exact .inl ⟨i, ho⟩
      · exact .inr ⟨o, h⟩
  · rintro (⟨j, h⟩ | ⟨o, h⟩)
    · by_cases hj : j = i
      · subst hj
        have : b = a := by
          have h1 := h.2.symm.trans ho.2
          cases h1; rfl
        subst this
        exact .inr ⟨u, List.mem_cons_self⟩
      · refine .inl ⟨j, ?_⟩
        obtain ⟨⟨d', e1⟩, e2⟩ := h
        exact ⟨⟨d', by rw [List.getElem?_set_ne (Ne.symm hj)]; exact e1⟩, e2⟩
    · exact .inr ⟨o, List.mem_cons_of_mem _ h⟩
theorem fr_aside (ho : OwnAt ρ σ i a) : Fr ((a, u) :: T) (ρ.set i .no) σ (upd H a u) = Fr T ρ σ H := by
  funext b
  by_cases hp : Prot T ρ σ b
  · show Fz _ _ b = Fz _ _ b
    rw [fz_yes ((prot_aside ho).mpr hp), fz_yes hp]
  · have hb : b ≠ a := fun z => hp (z ▸ .inl ⟨i, ho⟩)
    show Fz _ _ b = Fz _ _ b
    rw [fz_no (fun z => hp ((prot_aside ho).mp z)), fz_no hp, upd_ne hb]
theorem Rel.aside (R : Rel K c T ρ σ H) (e : ρ[i]? = some (.ow d)) (ea : σ[i]? = some (some (.ref a))) (hio : c.io = none ∨ i ≠ 0) (hu : Mt u) : Rel K c ((a, u) :: T) (ρ.set i .no) σ (upd H a u) := by
  have hs : ∀ d' : D, Sl.no ≠ .ow d' := fun _ q => nomatch q
  have ho : OwnAt ρ σ i a := ⟨⟨d, e⟩, ea⟩
  have ef : Fr ((a, u) :: T) (ρ.set i .no) σ (upd H a u) = Fr T ρ σ H := fr_aside ho
  have hna : ∀ {j b}, OwnAt (ρ.set i .no) σ j b → b ≠ a := fun h z => by
    subst z
    obtain ⟨h1, h2⟩ := own_set hs h
    exact h2 (R.inj _ _ _ h1 ho)
  refine ⟨by simpa using R.len, fun x y b hx hy => R.inj x y b (own_set hs hx).1 (own_set hs hy).1, fun x b w hx hm => ?_, fun b w hm => ?_, fun j s ej => ?_, by rw [ef]; exact R.base, fun b eb => ?_, fun p b => ⟨fun h => (R.t0 p b).mp (drop_head hu h b), fun h => List.mem_cons_of_mem _ ((R.t0 p b).mpr h)⟩⟩
  · rcases List.mem_cons.mp hm with e | hm
    · cases e; exact hna hx rfl
    · exact R.dis x b w (own_set hs hx).1 hm
  · rcases List.mem_cons.mp hm with e | hm
    · cases e; exact .inr ⟨upd_same, hu⟩
    · have hb : b ≠ a := fun z => R.dis i a w ho (z ▸ hm)
      obtain ⟨w2, e2, m2⟩ := R.owned ho
      exact (R.tst b w hm).upd hb e2 m2
  · rw [ef]
    by_cases hj : j = i
    · subst hj
      have hlt : j < ρ.length := by
        have := (List.getElem?_eq_some_iff.mp ej).1
        simpa using this
      rw [List.getElem?_set_self hlt] at ej
      cases ej
      trivial
    · have ej' := ej
      rw [List.getElem?_set_ne (Ne.symm hj)] at ej
      refine (R.sl j s ej).le Le.refl fun d2 es b eb => ?_
      subst es
      exact upd_ne (hna ⟨⟨d2, ej'⟩, eb⟩)
  · rcases hio with h | h
    · rw [h] at eb; cases eb
    · obtain ⟨⟨d', e1⟩, e2⟩ := R.io b eb
      exact ⟨⟨d', by rw [List.getElem?_set_ne h]; exact e1⟩, e2⟩
/-- .. and put back -/
theorem Rel.back (R : Rel K c ((a, u) :: T) ρ σ H) (hn : ∀ w, (a, w) ∉ T) (hmu : Mt u) (hlt : i < ρ.length) (e0 : ρ[i]? = some .no) (ea : σ[i]? = some (some (.ref a))) (ob : Ob K (Fr ((a, u) :: T) ρ σ H) (some o) d) : Rel K c T (ρ.set i (.ow d)) σ (upd H a o) ∧ Fr T (ρ.set i (.ow d)) σ (upd H a o) = Fr ((a, u) :: T) ρ σ H := by
  have ho : OwnAt (ρ.set i (.ow d)) σ i a := ⟨⟨d, List.getElem?_set_self hlt⟩, ea⟩
  have hr : (ρ.set i (.ow d)).set i .no = ρ := by
    rw [List.set_set]
    refine List.ext_getElem? fun j => ?_
    by_cases hj : j = i
    · subst hj; rw [List.getElem?_set_self hlt, e0]
    · rw [List.getElem?_set_ne (Ne.symm hj)]
  have ef : Fr T (ρ.set i (.ow d)) σ (upd H a o) = Fr ((a, u) :: T) ρ σ H := by
    have h1 := fr_aside (T := T) (H := upd H a o) (u := u) ho
    rw [hr] at h1
    rw [← h1]
    have hu : upd (upd H a o) a u = H := by
      funext b
      by_cases hb : b = a
      · subst hb; rw [upd_same]; exact ((R.tst b u List.mem_cons_self).at hmu.1).symm
      · rw [upd_ne hb, upd_ne hb]
    rw [hu]
  have od : ∀ {j b}, OwnAt (ρ.set i (.ow d)) σ j b → (j ≠ i ∧ OwnAt ρ σ j b) ∨ (j = i ∧ b = a) := fun {j b} h => by
    by_cases hj : j = i
    · subst hj
      have h1 := h.2.symm.trans ea
      cases h1
      exact .inr ⟨rfl, rfl⟩
    · obtain ⟨⟨d', e1⟩, e2⟩ := h
      rw [List.getElem?_set_ne (Ne.symm hj)] at e1
      exact .inl ⟨hj, ⟨d', e1⟩, e2⟩
  have pa : ∀ {j}, ¬ OwnAt ρ σ j a := fun h => R.dis _ _ _ h List.mem_cons_self
  refine ⟨⟨by simpa using R.len, fun x y b hx hy => ?_, fun x b w hx hm => ?_, fun b w hm => ?_, fun j s ej => ?_, by rw [ef]; exact R.base, fun b eb => ?_, fun q b => ⟨fun h => (R.t0 q b).mp (List.mem_cons_of_mem _ h), fun h => drop_head hmu ((R.t0 q b).mpr h) b⟩⟩, ef⟩
  · rcases od hx with h1 | ⟨h1, h1'⟩ <;> rcases od hy with h2 | ⟨h2, h2'⟩
    · exact R.inj x y b h1.2 h2.2
    · subst h2'; exact absurd h1.2 pa
    · subst h1'; exact absurd h2.2 pa
    · rw [h1, h2]
  · rcases od hx with h1 | ⟨h1, h1'⟩
    · exact R.dis x b w h1.2 (List.mem_cons_of_mem _ hm)
    · subst h1'; exact hn w hm
  · have hb : b ≠ a := fun z => hn w (z ▸ hm)
    exact (R.tst b w (List.mem_cons_of_mem _ hm)).upd hb ((R.tst a u List.mem_cons_self).at hmu.1) hmu
  · rw [ef]
    by_cases hj : j = i
    · subst hj
      rw [List.getElem?_set_self hlt] at ej
      cases ej
      exact ⟨a, ea, by rw [upd_same]; exact ob⟩
    · rw [List.getElem?_set_ne (Ne.symm hj)] at ej
      refine (R.sl j s ej).le Le.refl fun d2 es b eb => ?_
      subst es
      have hb : b ≠ a := fun z => by
        subst z
        exact pa ⟨⟨d2, ej⟩, eb⟩
      exact upd_ne hb
  · obtain ⟨⟨d', e1⟩, e2⟩ := R.io b eb
    by_cases hj : (0 : Nat) = i
    · subst hj
      rw [e0] at e1
      cases e1
    · exact ⟨⟨d', by rw [List.getElem?_set_ne (Ne.symm hj)]; exact e1⟩, e2⟩
end

/-! ### [.. for k in d], d an own dict -/
def sCompK (vs : List Nat) (i : Nat) (t : Tg) (mt : MB) (me : ME) : ME := fun ρ Q _ => ∃ kvs, ρ[i]? = some (.ow (.dict kvs)) ∧ okv vs (ρ.set i .no) = true ∧ kvs.length ≤ sizeLine ∧
  compW vs (ρ.set i .no) t mt me (kvs.map Prod.fst) [] (ρ.set i .no) (fun ds ρ2 => ρ2[i]? = some .no ∧ i < ρ2.length ∧ Q (.fr (.list ds)) (ρ2.set i (.ow (.dict kvs))))
theorem mono_compK {vs : List Nat} {i : Nat} {t : Tg} {mt : MB} {me : ME} (ht : Mono mt) (he : Mono me) : Mono (sCompK vs i t mt me) := fun ρ Q Q' X X' hq hx ⟨kvs, e, a, b, q⟩ =>
  ⟨kvs, e, a, b, compW_mono ht he _ _ _ _ _ (fun ds ρ ⟨e1, e2, q⟩ => ⟨e1, e2, hq _ _ q⟩) q⟩
theorem rpk_at {K : PySem.W.Frag} {F : Hp} : ∀ {kvs : List (Key × V)} {ds : List (D × D)}, RpK K F kvs ds → ∀ {n : Nat} {k : Key} {v : V}, kvs[n]? = some (k, v) → (ds.map Prod.fst)[n]? = some (keyD k)
  | _, _, .nil, n, k, v, e => by simp at e
  | _, _, .cons a r, 0, k, v, e => by simp at e; simp [e.1]
  | _, _, .cons a r, n + 1, k, v, e => by
    have := rpk_at r (n := n) (k := k) (v := v) (by simpa using e)
    simpa using this
theorem rpk_len {K : PySem.W.Frag} {F : Hp} : ∀ {kvs : List (Key × V)} {ds : List (D × D)}, RpK K F kvs ds → kvs.length = ds.length
  | _, _, .nil => rfl
  | _, _, .cons a r => by rw [List.length_cons, List.length_cons, rpk_len r]
theorem rp_key {K : PySem.W.Frag} {F : Hp} (k : Key) : Rp K F (kV k) (keyD k) := by cases k <;> constructor
section
variable {X : Cx} {c : Cf} {W : WX} {pos p : Pos} {tg elt : Expr} {ifs : List Expr} {scope : Scope} {own : List (Str × Nat)} {t : Tg} {mt : MB} {me : ME} {i : Nat} {x : Str}
theorem compK_core {vs : List Nat} (ht : Mono mt) (he : Mono me) (hsub : ∀ i ∈ t.slots, i ∈ vs) (hio : c.io = none ∨ 0 ∉ vs) (hioi : c.io = none ∨ i ≠ 0) {σ : L2.St} {H : Hp} {Q : VK} (h : rdE X.K X.mg c W (sCompK vs i t mt me) σ H Q) :
    tLockE (tLc (iKeys (tVar i)) (gRd X.K c t) (rdB X.K X.mg c W0 mt) (rdE X.K X.mg c W0 me) vs) σ H Q := by
  obtain ⟨T, ρ, R, kvs, e0, ov, sz, q⟩ := h
  obtain ⟨a, ea, ob⟩ := R.sl i _ e0
  obtain ⟨kvV, eH, rk⟩ := ob_dict ob
  have hiρ : i < ρ.length := (List.getElem?_eq_some_iff.mp e0).1
  have ho : OwnAt ρ σ i a := ⟨⟨_, e0⟩, ea⟩
  refine ⟨a, .dK kvV, eH, trivial, fun od => ?_⟩
  refine ⟨.ref a, ea, a, od, rfl, .inl ⟨kvV, upd_same, ?_⟩⟩
  have R1 : Rel X.K c ((a, .frz od (.dK kvV)) :: T) (ρ.set i .no) σ (upd H a (.frz od (.dK kvV))) := R.aside e0 ea hioi mt_frz
  have ef : Fr ((a, .frz od (.dK kvV)) :: T) (ρ.set i .no) σ (upd H a (.frz od (.dK kvV))) = Fr T ρ σ H := fr_aside ho
  have naT : ∀ u, (a, u) ∉ T := fun u z => R.dis i a u ho z
  generalize hT' : ((a, HO.frz od (.dK kvV)) :: T) = T' at R1 ef
  generalize hH1 : upd H a (.frz od (.dK kvV)) = H1 at R1 ef
  have hmem : (a, HO.frz od (.dK kvV)) ∈ T' := by rw [← hT']; exact List.mem_cons_self
  generalize hρ1 : ρ.set i .no = ρ1 at R1 ef ov q
  have hlen := rpk_len rk
  intro A hA
  have nA : ∀ u, (A, u) ∉ T' := fun u z => (R1.tst A u z).ne hA
  have hAa : A ≠ a := fun z => nA _ (z ▸ hmem)
  refine ⟨fun n m H' => m + n = kvs.length ∧ ∃ ρ' accD accV, Rel X.K c ((A, .lst accV) :: T') ρ' σ H' ∧ Le (Fr T' ρ1 σ H1) (Fr ((A, .lst accV) :: T') ρ' σ H') ∧ RpA X.K (Fr ((A, .lst accV) :: T') ρ' σ H') accV accD ∧ accD.length ≤ n ∧ okv vs ρ' = true ∧
    compW vs ρ1 t mt me ((kvs.map Prod.fst).drop n) accD ρ' (fun ds ρ2 => ρ2[i]? = some .no ∧ i < ρ2.length ∧ ∀ v H', Res X.K c T (Fr T ρ σ H) (ρ2.set i (.ow (.dict kvs))) σ H' (.fr (.list ds)) v → Q v H'), ⟨kvs.length, rfl, ρ1, [], [], R1.new hA mt_lst, fr_new hA, .nil, Nat.zero_le _, ov, q⟩, fun n m H' ⟨em, ρ', accD, accV, R', l', ra, hz, ov', q'⟩ => ?_⟩
  have hd' : H' a = some (.frz od (.dK kvV)) := (R'.tst a _ (List.mem_cons_of_mem _ hmem)).at mt_frz.1
  by_cases hi' : n < kvs.length
  · refine .inr ⟨⟨hd', by omega⟩, fun H2 => ∃ ρ2 accD2 accV2, Rel X.K c ((A, .lst accV2) :: T') ρ2 σ H2 ∧ Le (Fr T' ρ1 σ H1) (Fr ((A, .lst accV2) :: T') ρ2 σ H2) ∧ RpA X.K (Fr ((A, .lst accV2) :: T') ρ2 σ H2) accV2 accD2 ∧ accD2.length ≤ n + 1 ∧ okv vs ρ2 = true ∧
      compW vs ρ1 t mt me ((kvs.map Prod.fst).drop (n + 1)) accD2 ρ2 (fun ds ρ2 => ρ2[i]? = some .no ∧ i < ρ2.length ∧ ∀ v H', Res X.K c T (Fr T ρ σ H) (ρ2.set i (.ow (.dict kvs))) σ H' (.fr (.list ds)) v → Q v H'), fun H2 hN => ⟨m - 1, by omega, by omega, hN⟩, fun y H2 hy => ?_⟩
    obtain ⟨eH2, k, v0, ek, ey⟩ := hy
    subst eH2; subst ey
    have ed := rpk_at rk ek
    have e : (kvs.map Prod.fst).drop n = keyD k :: (kvs.map Prod.fst).drop (n + 1) := by
      rw [List.drop_eq_getElem_cons (by simpa using hi')]
      rw [List.getElem?_eq_getElem (by simpa using hi')] at ed
      rw [Option.some.inj ed]
    obtain ⟨Rw, ew⟩ := R'.wiped ov' hio
    rw [e] at q'
    have lw : Le (Fr ((A, .lst accV) :: T') ρ' σ H2) (Fr ((A, .lst accV) :: T') (wipeE vs ρ') (wipe σ vs) H2) := by rw [← ew]; exact Le.refl
    refine ⟨(A, .lst accV) :: T', wipeE vs ρ', keyD k, Rw, rp_key k, Tg.put_mono _ _ _ _ _ (fun ρ3 q3 σ3 R3 l3 p3 => ?_) q'⟩
    have hw : wipe σ3 vs = wipe σ vs := wipe_put p3 hsub
    refine ⟨hw, (A, .lst accV) :: T', ρ3, R3, ht _ _ _ _ _ (fun b ρ4 q4 H4 ⟨R4, l4⟩ => ?_) (fun _ _ z => z.elim) q3⟩
    have back : ∀ {TT : List (Addr × HO)} {ρ5 : Env} {σ5 : L2.St} {H5 : Hp}, Rel X.K c TT ρ5 σ5 H5 → wipe σ5 vs = wipe σ vs → Le (Fr T' ρ1 σ H1) (Fr TT ρ5 σ5 H5) → Rel X.K c TT (backE vs ρ1 ρ5) σ H5 ∧ Le (Fr TT ρ5 σ5 H5) (Fr TT (backE vs ρ1 ρ5) σ H5) := fun R5 hw5 l5 => by
      refine Rel.backed (H := H1) R5 R1.len hw5 ov (fun j hj s es => ?_) l5 hio
      exact R1.sl j s es
    have lw4 : Le (Fr T' ρ1 σ H1) (Fr ((A, .lst accV) :: T') ρ4 σ3 H4) := l'.trans (lw.trans (l3.trans l4))
    cases b with
    | false =>
      show (if false = true then _ else _)
      rw [if_neg Bool.false_ne_true] at q4 ⊢
      obtain ⟨R5, l5⟩ := back R4 hw lw4
      exact ⟨_, accD, accV, R5, lw4.trans l5, ra.le (lw.trans (l3.trans (l4.trans l5))), by omega, okv_back ov, q4⟩
    | true =>
      show (if true = true then _ else _)
      rw [if_pos rfl] at q4 ⊢
      refine ⟨(A, .lst accV) :: T', ρ4, R4, he _ _ _ _ _ (fun r ρ5 ⟨y, ey, q5⟩ v H5 hr => ?_) (fun _ _ z => z.elim) q4⟩
      obtain ⟨R5, l5, o5⟩ := hr.opr
      have rpy := o5.rp ey
      refine ⟨accV, (R5.tst A _ List.mem_cons_self).at mt_lst.1, by have := ra.length; omega, ?_⟩
      have R6 := R5.rehead (o' := .lst (accV ++ [v])) nA mt_lst mt_lst
      have lw5 : Le (Fr T' ρ1 σ H1) (Fr ((A, .lst (accV ++ [v])) :: T') ρ5 σ3 (upd H5 A (.lst (accV ++ [v])))) := by
        rw [← fr_head (o := .lst accV)]
        exact lw4.trans l5
      obtain ⟨R7, l7⟩ := back R6 hw lw5
      refine ⟨_, accD ++ [y], accV ++ [v], R7, lw5.trans l7, ?_, by simp; omega, okv_back ov, q5⟩
      refine RpA.le l7 ?_
      rw [← fr_head (o := .lst accV)]
      exact (ra.le (lw.trans (l3.trans (l4.trans l5)))).app (.one rpy)
  · have ei : n = kvs.length := by omega
    subst ei
    have edr : (kvs.map Prod.fst).drop kvs.length = [] := by rw [List.drop_eq_nil_of_le]; simp
    rw [edr] at q'
    obtain ⟨f1, f2, q'⟩ := q'
    refine .inl ⟨⟨hd', by omega⟩, hd', ?_⟩
    -- the lock is off
    subst hT'
    have Rs : Rel X.K c ((a, .frz od (.dK kvV)) :: (A, .lst accV) :: T) ρ' σ H' := R'.perm mem_swap
    have fs : Fr ((A, .lst accV) :: (a, .frz od (.dK kvV)) :: T) ρ' σ H' = Fr ((a, .frz od (.dK kvV)) :: (A, .lst accV) :: T) ρ' σ H' := fr_perm mem_swap
    rw [ef, fs] at l'
    rw [fs] at ra
    have hn2 : ∀ w, (a, w) ∉ (A, HO.lst accV) :: T := fun w z => by
      rcases List.mem_cons.mp z with e | z
      · cases e; exact hAa rfl
      · exact naT w z
    have obk : Ob X.K (Fr ((a, .frz od (.dK kvV)) :: (A, .lst accV) :: T) ρ' σ H') (some (.dK kvV)) (.dict kvs) := rk.le l'
    obtain ⟨Rb, eb⟩ := Rs.back (o := .dK kvV) (d := .dict kvs) hn2 mt_frz f2 f1 ea obk
    refine q' _ _ ⟨A, .lst accV, rfl, Rb, fun u z => nA u (List.mem_cons_of_mem _ z), by rw [eb]; exact l', ?_⟩
    rw [eb]
    exact ra
theorem se_compK (hc : X.calm = true) (hN : X.N.Nodup) (hi : X.N[i]? = some x) (hv : Vis X.env.scope x) (ok : BlkOk X.N X.env.scope scope own) (hsub : ∀ i ∈ t.slots, i ∈ own.map (·.2)) (hio : c.io = none ∨ 0 ∉ own.map (·.2)) (hioi : c.io = none ∨ i ≠ 0)
    (hg : ∀ (s : Shared) (H : Hp) (C : Addr) (cl : List (Str × Addr)) (fp : List Addr), SG (X.blk s H scope (compEnvC scope cl C X.env) fp) c tg t) (ht : ∀ (s : Shared) (H : Hp) (C : Addr) (cl : List (Str × Addr)) (fp : List Addr), STs (X.blk s H scope (compEnvC scope cl C X.env) fp) c W0 ifs mt)
    (he : ∀ (s : Shared) (H : Hp) (C : Addr) (cl : List (Str × Addr)) (fp : List Addr), SE (X.blk s H scope (compEnvC scope cl C X.env) fp) c W0 elt me) (hs : ∀ y, foldedSetIterable (.Name x p) X.env y = pure y := by intro _; rfl) (hd : (x == ("__debug__" : Str)) = false := by decide) (hcd : (x == ("__classdict__" : Str)) = false := by decide) :
    SE X c W (.ListComp elt [⟨tg, .Name x p, ifs, 0⟩] scope pos) (sCompK (own.map (·.2)) i t mt me) := by
  have mt' : Mono mt := (ht ({} : Shared) (fun _ => none) 0 [] []).mo
  have me' : Mono me := (he ({} : Shared) (fun _ => none) 0 [] []).mo
  exact se_of (pe_lock (pe_lc hc hN (pi_keys (pe_var hi hv hd hcd)) ok (fun s H C cl fp => (hg s H C cl fp).run) (fun s H C cl fp => (ht s H C cl fp).run) (fun s H C cl fp => (he s H C cl fp).run) hs)) (mono_compK mt' me') fun σ H Q h => compK_core mt' me' hsub hio hioi h
end

/-! ### dict(list of pairs), d.update(e) -/
def dmerge (acc kvs : List (D × D)) : List (D × D) := kvs.foldl (fun a p => dput a p.1 p.2) acc
theorem rpk_merge {K : PySem.W.Frag} {F : Hp} : ∀ {more : List (Key × V)} {ds : List (D × D)} {kvs : List (Key × V)} {es : List (D × D)}, RpK K F more ds → RpK K F kvs es → RpK K F (mergeK kvs more) (dmerge es ds)
  | _, _, _, _, .nil, s => s
  | _, _, kvs, es, .cons (k := k) a r, s => by
    have := rpk_merge r (RpK.put (k := k) s a)
    exact this
def s_dictP : SC := fun ds k => match ds with
  | [.list es] => ∃ kvs : List (D × D), es = kvs.map (fun p => .tuple [p.1, p.2]) ∧ (∀ p ∈ kvs, (keyOf p.1).isSome = true) ∧ k (.fr (.dict (dmerge [] kvs)))
  | _ => False
theorem mc_dictP : MonoC s_dictP := by
  intro ds k k' h q
  unfold s_dictP at *
  split at q
  · obtain ⟨kvs, a, b, q⟩ := q
    exact ⟨kvs, a, b, h _ q⟩
  · exact q.elim
def r_dictP (K : PySem.W.Frag) : List V → Hp → VK → Prop := fun xs H Q => ∃ (a : Addr) (ps : List Addr) (kvs : List (Key × V)), xs = [.ref a] ∧ SqL K H a (ps.map V.ref) ∧ Paired (fun p kv => SqT K H p [kV kv.1, kv.2]) ps kvs ∧ ∀ p, H p = none → Q (.ref p) (upd H p (.dK (mergeK [] kvs)))
theorem pairs_rp {K : PySem.W.Frag} {F H : Hp} (l : Le F H) : ∀ {kvs : List (D × D)} {xs : List V}, RpA K F xs (kvs.map fun p => .tuple [p.1, p.2]) → (∀ p ∈ kvs, (keyOf p.1).isSome = true) →
    ∃ (ps : List Addr) (kv : List (Key × V)), xs = ps.map V.ref ∧ Paired (fun p kv => SqT K H p [kV kv.1, kv.2]) ps kv ∧ RpK K F kv kvs
  | [], xs, r, _ => by
    cases r
    exact ⟨[], [], rfl, .nil, .nil⟩
  | (k, v) :: kvs, xs, r, h => by
    rw [List.map_cons] at r
    cases r with
    | cons h1 r =>
      obtain ⟨ps, kv, e, pr, rk⟩ := pairs_rp l r fun p hp => h p (List.mem_cons_of_mem _ hp)
      have hk := h (k, v) List.mem_cons_self
      cases h1 with
      | tup s r2 =>
        rename_i a ys
        cases r2 with
        | cons hk1 r3 =>
          cases r3 with
          | cons hv1 r4 =>
            cases r4
            rename_i w1 w2
            cases ek : keyOf k with
            | none => rw [ek] at hk; cases hk
            | some key =>
              obtain ⟨e1, e2⟩ := op_key (Op.sh (H := H) hk1) ek
              subst e1
              subst e2
              exact ⟨a :: ps, (key, w2) :: kv, by rw [e]; rfl, .cons (sqT_le s l) pr, .cons hv1 rk⟩
theorem cs_dictP {K : PySem.W.Frag} : CallS K (r_dictP K) s_dictP := by
  intro c T ρ σ H vs ds Q R o q
  unfold s_dictP at q
  split at q
  · obtain ⟨kvs, e, hk, q⟩ := q
    obtain ⟨v, ev, o1⟩ := ops1 o
    subst ev
    obtain ⟨a, xs, rfl, e1, ra⟩ := o1.list fr_le
    subst e
    obtain ⟨ps, kv, ex, pr, rk⟩ := pairs_rp (H := H) fr_le ra hk
    subst ex
    exact ⟨a, ps, kv, rfl, SqL.of e1, pr, fun p hp => q _ _ (res_new (o := .dK (mergeK [] kv)) (d := .dict _) R hp (rpk_merge rk .nil))⟩
  · exact q.elim
section
variable {X : Cx} {pins : List (Addr × Obj)} {σ : L2.St} {H : Hp} {s : Shared} {A : Around} {E : Value → Shared → Prop} {a b : Addr} {kvs more : List (Key × V)}
theorem d_update {Q : Value → Shared → Prop} (I : Inv X pins σ H s) (e : H a = some (.dK kvs)) (e2 : H b = some (.dK more)) (hab : a ≠ b) (hl : kvs.length + more.length ≤ sizeLine) (h : ∀ s', Inv X pins σ (upd H a (.dK (mergeK kvs more))) s' → Q .none s') :
    wpAny (model X.prog X.w) A (call (.builtin "dict.update") [.ref a, .ref b]) Q E s := by
  obtain ⟨z, hd, vs, rel, dd⟩ := dk_of I.hok e
  obtain ⟨z2, hd2, vs2, rel2, dd2⟩ := dk_of I.hok e2
  refine call_meetsIn PySem.F.slot_dict_update dd.typeIs PySem.F.entry_dict_update (PySem.F.args_dict_update_2 _ _) (meets_dict_update (mixKind X.prog X.w) a b hab hd2) ⟨vs, vs2, dd, dd2, by rw [← rel.length, ← rel2.length]; exact hl, fun h' dd' _ hs => h _ ?_⟩
  have he : ∃ q, h'.get? a = some q := let ⟨q, _, _, hq, _⟩ := dd'; ⟨q, hq⟩
  exact d_write (t' := s.toks) I (by rw [e]; exact True.intro) hs he (dk_new (Nat.le_trans (length_mergeK more kvs) hl) hd (KV.merge rel2 rel) dd')
end
def rDUpd : V → List V → Hp → VK → Prop := fun x vs H Q => ∃ (a b : Addr) (kvs more : List (Key × V)), x = .ref a ∧ vs = [.ref b] ∧ a ≠ b ∧ H a = some (.dK kvs) ∧ H b = some (.dK more) ∧ kvs.length + more.length ≤ sizeLine ∧ Q .non (upd H a (.dK (mergeK kvs more)))
theorem mtd_update {X : Cx} : MtR X "dict.update" rDUpd := by
  intro pins s σ H x vs v us Q I rx rv h
  obtain ⟨a, b, kvs, more, ex, ev, hab, e, e2, hl, q⟩ := h
  subst ex
  subst ev
  obtain rfl : v = Value.ref a := rx
  obtain ⟨u, eu, ru⟩ := vals1 rv
  subst eu
  obtain rfl : u = Value.ref b := ru
  exact d_update I e e2 hab hl fun s' I' => ⟨.non, _, I', rfl, q⟩
/-- d.update(e), d an own dict -/
def sUpd (i : Nat) (m : ME) : ME := fun ρ Q X => (∃ kvs, ρ[i]? = some (.ow (.dict kvs))) ∧ m ρ (fun r ρ' => ∃ kvs more, ρ'[i]? = some (.ow (.dict kvs)) ∧ val r = some (.dict more) ∧ kvs.length + more.length ≤ 1000000 ∧ Q (.vl .none) (ρ'.set i (.ow (.dict (dmerge kvs more))))) X
theorem mono_upd {i : Nat} {m : ME} (h : Mono m) : Mono (sUpd i m) := fun ρ Q Q' X X' hq hx q =>
  ⟨q.1, h _ _ _ _ _ (fun r ρ' ⟨a, b, e1, e2, e3, q⟩ => ⟨a, b, e1, e2, e3, hq _ _ q⟩) hx q.2⟩
section
variable {X : Cx} {c : Cf} {W : WX} {pos p apos cpos : Pos} {x : Str} {e : Expr} {m : ME} {i : Nat}
theorem se_update (hN : X.N[i]? = some x) (hv : Vis X.env.scope x) (h : SE X c W e m)
    (hd : (x == ("__debug__" : Str)) = false := by decide) (hcd : (x == ("__classdict__" : Str)) = false := by decide)
    (hbase : attributeBase (.Name x p) "update" X.env (eval (.Name x p) X.env) = eval (.Name x p) X.env := by rfl)
    (hfew : ((backTo cpos (starEach [e] X.env)).all (fun x => !x.1) && (backToKw cpos (keywordEach [] X.env)).all (fun x => x.1.isSome)
      && decide ([e].length + ([] : List Keyword).length + (if ([] : List Keyword).isEmpty then 0 else 1) < 30)) = true := by rfl)
    (hline : (apos.endLine == cpos.line) = true := by rfl) (he : starEach [e] X.env = (false, eval e X.env) :: starEach [] X.env := by rfl) (hplain : (backTo cpos (starEach [] X.env)).any (·.1) = false := by rfl) :
    SE X c W (.Call (.Attribute (.Name x p) "update" apos) [e] [] cpos) (sUpd i m) := by
  refine se_of (pe_bm PySem.F.plainAttrs_dict PySem.F.slot_dict_update PySem.F.type_dict_update mtd_update (pe_var hN hv hd hcd) (pa_cons h.run pa_nil he) hbase hfew hline he hplain) (mono_upd h.mo) fun σ H Q ⟨T, ρ, R, ⟨kv0, e0⟩, q⟩ => ?_
  obtain ⟨a, ea, ob⟩ := R.sl i _ e0
  obtain ⟨kvV0, eH0, _⟩ := ob_dict ob
  refine ⟨.ref a, ea, .inr (.inr (.inl ⟨rfl, .inl ⟨_, eH0⟩⟩)), T, ρ, R, h.mo _ _ _ _ _ (fun r ρ1 ⟨kvs, more, e1, e2, e3, q⟩ v H1 hr => ?_) (fun _ _ h => h) q⟩
  obtain ⟨R1, l1, o1⟩ := hr.opr
  obtain ⟨a', ea', ob1⟩ := R1.sl i _ e1
  rw [ea] at ea'; cases ea'
  obtain ⟨kvV, eH, rk⟩ := ob_dict ob1
  have rp := o1.rp e2
  cases rp with
  | dK sK rk2 =>
    rename_i b kvV2
    have hpa : Prot T ρ1 σ a := .inl ⟨i, ⟨_, e1⟩, ea⟩
    have hab : a ≠ b := fun z => by
      subst z
      have hz : Fr T ρ1 σ H1 a = none := fz_yes hpa
      rw [hz] at sK
      cases sK
    have l := rpk_len rk
    have l2 := rpk_len rk2
    refine ⟨a, b, kvV, kvV2, rfl, rfl, hab, eH, fr_le _ _ sK, by rw [l, l2, sizeLine_eq]; omega, q _ _ ?_⟩
    have ob3 : Ob X.K (Fr T ρ1 σ H1) (some (.dK (mergeK kvV kvV2))) (.dict (dmerge kvs more)) := rpk_merge rk2 rk
    have ef : Fr T (ρ1.set i (.ow (.dict (dmerge kvs more)))) σ (upd H1 a (.dK (mergeK kvV kvV2))) = Fr T ρ1 σ H1 := fr_write e1 hpa
    exact ⟨R1.write e1 ea ob3, by rw [ef]; exact l1, .non⟩
end

section
variable {X : Cx} {c : Cf} {W : WX} {pos p : Pos} {tg elt : Expr} {ifs : List Expr} {scope : Scope} {own : List (Str × Nat)} {t : Tg} {mt : MB} {me : ME} {i : Nat} {x : Str}
/-- name = [.. for k in d] -/
theorem ss_asgLcK {j : Nat} {y : Str} {py spos : Pos} (hc : X.calm = true) (hN : X.N.Nodup) (hi : X.N[i]? = some x) (hv : Vis X.env.scope x) (hy : X.N[j]? = some y) (hyl : X.env.scope.names.lookup y = some .local) (hio2 : c.io = none ∨ j ≠ 0) (hioi : c.io = none ∨ i ≠ 0)
    (hsw : swapsWith (.ListComp elt [⟨tg, .Name x p, ifs, 0⟩] scope pos) (some (.Name y py)) spos.line X.env = pure true) (ok : BlkOk X.N X.env.scope scope own) (hsub : ∀ i ∈ t.slots, i ∈ own.map (·.2)) (hio : c.io = none ∨ 0 ∉ own.map (·.2))
    (hg : ∀ (s : Shared) (H : Hp) (C : Addr) (cl : List (Str × Addr)) (fp : List Addr), SG (X.blk s H scope (compEnvC scope cl C X.env) fp) c tg t) (ht : ∀ (s : Shared) (H : Hp) (C : Addr) (cl : List (Str × Addr)) (fp : List Addr), STs (X.blk s H scope (compEnvC scope cl C X.env) fp) c W0 ifs mt)
    (he : ∀ (s : Shared) (H : Hp) (C : Addr) (cl : List (Str × Addr)) (fp : List Addr), SE (X.blk s H scope (compEnvC scope cl C X.env) fp) c W0 elt me) (hs : ∀ y, foldedSetIterable (.Name x p) X.env y = pure y := by intro _; rfl) (hd : (x == ("__debug__" : Str)) = false := by decide) (hcd : (x == ("__classdict__" : Str)) = false := by decide) :
    SS X c W (.Assign [.Name y py] (.ListComp elt [⟨tg, .Name x p, ifs, 0⟩] scope pos) spos) (sAsg j (sCompK (own.map (·.2)) i t mt me)) := by
  have mt' : Mono mt := (ht ({} : Shared) (fun _ => none) 0 [] []).mo
  have me' : Mono me := (he ({} : Shared) (fun _ => none) 0 [] []).mo
  have mo := mono_compK (vs := own.map (·.2)) (i := i) (t := t) mt' me'
  refine ss_of (ps_lock (ps_setLc (te := rdE X.K X.mg c W0 me) (tt := rdB X.K X.mg c W0 mt) (g := gRd X.K c t) hc hN hy hyl hsw (pi_keys (pe_var hi hv hd hcd)) ok (fun s H C cl fp => (hg s H C cl fp).run) (fun s H C cl fp => (ht s H C cl fp).run) (fun s H C cl fp => (he s H C cl fp).run) hs)) (monoS_asg mo) fun D σ H h => ?_
  have z := asg_core (i := j) mo hio2 h
  exact compK_core mt' me' hsub hio hioi z
end
end VL

set_option Elab.async false
set_option linter.all false
set_option maxRecDepth 100000
set_option maxHeartbeats 4000000
/-! VL28: the other draw of the laws (another last share), the other hand. -/
namespace VL
open PySem PySem.Spec PyProof.Rows L2
local macro_rules | `(tactic| walk_at "vl") => `(tactic| simp only [wpF, wpI, wpSc, cur, sSeq, sIte, sRet, sRetN, sAsg, sExpr, sSkip, put, sTru, sBl, sAndB, sOrB, sNotB, sAnd, sOr, sNot, sNeg, sIf, sC, sVar, sBor, sNil, sCons, sTup, sLst, sBin, sChain, sCall, sCallP, sCallI, sIsi, sIsi2, sAug, sAsgT, sPar, sPar3, sPutIx, sMut, sMut0, sFor, sIt, sRng1, sRng2, sZip2, sZip3, sEnum, sComp, sLRg1, sSl, sPn, sPs, sCnt1, sBrk, sCnt, res, val, vals, ress, nb, tru, List.map_cons, List.map_nil, List.replicate_succ, List.replicate_zero, List.replicate_one, List.cons_append, List.nil_append, List.append_nil, List.length_cons, List.length_nil, List.getElem?_cons_zero, List.getElem?_cons_succ, List.set_cons_zero, List.set_cons_succ, Option.some.injEq, exists_eq_left', exists_eq_left, exists_and_left, exists_eq', true_and, and_true, Nat.reduceSub, Nat.reduceAdd, List.cons.injEq, PyData.int.injEq, PyData.bool.injEq, PyData.list.injEq, PyData.tuple.injEq, Rs.vl.injEq, Rs.fr.injEq, if_true, if_false, Bool.false_eq_true, Bool.not_eq_true, Bool.not_true, Bool.not_false, isT, ite_dec, Sl.ow.injEq, Sl.sh.injEq, Sl.sc.injEq, Tg.put, TgL.put, TgL.len, exists_const, q_add, q_addT, q_addL, q_iadd, q_sub, q_mul, q_mulT, q_fdiv, q_mod, q_pow, q_shl, q_eqI, q_eqB, q_neI, q_neB, q_lt, q_le, q_gt, q_ge, q_ixL, q_ixT, q_isN, q_isnN, q_lenL, q_lenT, q_lenD, q_int, q_intB, q_abs, q_tupL, q_tupT, q_listL, q_listT, q_min2, q_max2, q_putL, q_putDI, at0, at1, at2, at3, at4, put5_0, put5_1, put5_2, put5_3, put5_4])
def m_drawB (c1 c2 c3 c4 c5 c6 c7 c8 c9 c10 c11 c12 c13 : Int) : MS :=
  (sSeq (sIte (sAndB (sBl (sBin s_eq (sBin s_ixD (sBor 0) (sC (.int 2))) (sC (.int 0)))) (sBl (sBin (s_ord .Lt) (sBin s_ixD (sBor 0) (sC (.int 1))) (sCall s_len (sCons (sBin s_ixD (sBor 0) (sC (.int 0))) sNil))))) (sSeq (sAsg 2 (sBin s_ixD (sBin s_ixD (sBor 0) (sC (.int 0))) (sBin s_ixD (sBor 0) (sC (.int 1)))))
    (sSeq (sPutIx 0 (sBin s_add (sBin s_ixD (sBor 0) (sC (.int 1))) (sC (.int 1))) (sC (.int 1)))
    (sSeq (sPutIx 0 (sBin s_mod (sCall s_int (sCons (sBin s_add (sBin s_add (sBin s_mul (sBin s_ixD (sBor 0) (sC (.int 3))) (sC (.int c1))) (sBor 2)) (sC (.int c2))) sNil)) (sC (.int c3))) (sC (.int 3)))
    (sIte (sBl (sBin (s_ord .GtE) (sBor 2) (sBin s_pow (sC (.int 10)) (sC (.int 18))))) (sPutIx 0 (sVar 2) (sC (.int 2))) sSkip)))) sSkip)
    (sSeq (sIte (sBl (sBin (s_ord .Gt) (sBin s_ixD (sBor 0) (sC (.int 2))) (sC (.int 0)))) (sSeq (sAsg 3 (sBin s_mod (sCall s_int (sCons (sBin s_ixD (sBor 0) (sC (.int 2))) sNil)) (sBor 1)))
    (sSeq (sPutIx 0 (sBin s_fdiv (sBin s_ixD (sBor 0) (sC (.int 2))) (sBor 1)) (sC (.int 2)))
    (sRet (sVar 3)))) sSkip)
    (sSeq (sPutIx 0 (sBin s_add (sBin s_ixD (sBor 0) (sC (.int 4))) (sC (.int 1))) (sC (.int 4)))
    (sSeq (sAsg 4 (sBin s_mod (sCall s_int (sCons (sBin s_mul (sCall s_int (sCons (sBin s_add (sBin s_ixD (sBor 0) (sC (.int 3))) (sBin s_mul (sC (.int c4)) (sBin s_ixD (sBor 0) (sC (.int 4))))) sNil)) (sC (.int c5))) sNil)) (sC (.int c6))))
    (sSeq (sAsg 4 (sBin s_mod (sCall s_int (sCons (sBin s_mul (sBor 4) (sBin s_add (sBin s_fdiv (sBor 4) (sC (.int c7))) (sC (.int c8)))) sNil)) (sC (.int c9))))
    (sSeq (sAsg 4 (sBin s_mod (sCall s_int (sCons (sBin s_mul (sBor 4) (sBin s_add (sBin s_fdiv (sBor 4) (sC (.int c10))) (sC (.int c11)))) sNil)) (sC (.int c12))))
    (sRet (sBin s_mod (sCall s_int (sCons (sBin s_fdiv (sBor 4) (sC (.int c13))) sNil)) (sBor 1)))))))))
theorem draw_tailB {c4 c5 c6 c7 c8 c9 c10 c11 c12 c13 a e many : Int} {cs : List Int} {p b : Int} {x3 x2 : Sl} {k : Ks}
    (h4 : -(2 ^ 64) < c4 ∧ c4 < 2 ^ 64) (h5 : -(2 ^ 64) < c5 ∧ c5 < 2 ^ 64) (h6 : 0 < c6 ∧ c6 < 2 ^ 32) (h7 : 0 < c7 ∧ c7 < 2 ^ 30) (h9 : 0 < c9 ∧ c9 < 2 ^ 32) (h10 : 0 < c10 ∧ c10 < 2 ^ 30) (h12 : 0 < c12) (h13 : 0 < c13 ∧ c13 < 2 ^ 30) (hm : 0 < many)
    (q : ∀ j x4 e', 0 ≤ j → j < many → nb (.vl (.int j)) ∧ k.rt (.vl (.int j)) [.ow (.list [.list (cs.map .int), .int p, .int b, .int a, .int e']), .sh (.int many), x2, x3, x4]) :
    (sSeq (sPutIx 0 (sBin s_add (sBin s_ixD (sBor 0) (sC (.int 4))) (sC (.int 1))) (sC (.int 4)))
    (sSeq (sAsg 4 (sBin s_mod (sCall s_int (sCons (sBin s_mul (sCall s_int (sCons (sBin s_add (sBin s_ixD (sBor 0) (sC (.int 3))) (sBin s_mul (sC (.int c4)) (sBin s_ixD (sBor 0) (sC (.int 4))))) sNil)) (sC (.int c5))) sNil)) (sC (.int c6))))
    (sSeq (sAsg 4 (sBin s_mod (sCall s_int (sCons (sBin s_mul (sBor 4) (sBin s_add (sBin s_fdiv (sBor 4) (sC (.int c7))) (sC (.int c8)))) sNil)) (sC (.int c9))))
    (sSeq (sAsg 4 (sBin s_mod (sCall s_int (sCons (sBin s_mul (sBor 4) (sBin s_add (sBin s_fdiv (sBor 4) (sC (.int c10))) (sC (.int c11)))) sNil)) (sC (.int c12))))
    (sRet (sBin s_mod (sCall s_int (sCons (sBin s_fdiv (sBor 4) (sC (.int c13))) sNil)) (sBor 1))))))) [.ow (.list [.list (cs.map .int), .int p, .int b, .int a, .int e]), .sh (.int many), x2, x3, .no] k := by
  refine seq_i fun N hN => ?_
  walk_at "vl"
  refine hN _ (seq_i fun N hN => ?_)
  walk_at "vl"
  refine ⟨.inl (cmul_l h4), .inl (cmul_r h5), by omega, hN _ (seq_i fun N hN => ?_)⟩
  generalize hy : ((a + c4 * (e + 1)) * c5).fmod c6 = y1
  have y0 : 0 ≤ y1 ∧ y1 < c6 := by rw [← hy]; exact ⟨fm0 h6.1, Int.fmod_lt_of_pos _ h6.1⟩
  walk_at "vl"
  refine .inr ⟨by omega, by omega, .inl (cmul_l ⟨by omega, by omega⟩), by omega, hN _ (seq_i fun N hN => ?_)⟩
  generalize hz : (y1 * (y1.fdiv c7 + c8)).fmod c9 = y2
  have z0 : 0 ≤ y2 ∧ y2 < c9 := by rw [← hz]; exact ⟨fm0 h9.1, Int.fmod_lt_of_pos _ h9.1⟩
  walk_at "vl"
  refine .inr ⟨by omega, by omega, .inl (cmul_l ⟨by omega, by omega⟩), by omega, hN _ ?_⟩
  walk_at "vl"
  refine .inr ⟨by omega, by omega, by omega, ?_⟩
  exact (q _ _ _ (fm0 hm) (fm1 hm)).2
theorem draw_specB {c1 c2 c3 c4 c5 c6 c7 c8 c9 c10 c11 c12 c13 many : Int} {d : D} {Q : Rs → Option D → Prop} {X : Ex → Option D → Prop} (h1 : -(2 ^ 64) < c1 ∧ c1 < 2 ^ 64) (h3 : 0 < c3)
    (h4 : -(2 ^ 64) < c4 ∧ c4 < 2 ^ 64) (h5 : -(2 ^ 64) < c5 ∧ c5 < 2 ^ 64) (h6 : 0 < c6 ∧ c6 < 2 ^ 32) (h7 : 0 < c7 ∧ c7 < 2 ^ 30) (h9 : 0 < c9 ∧ c9 < 2 ^ 32) (h10 : 0 < c10 ∧ c10 < 2 ^ 30) (h12 : 0 < c12) (h13 : 0 < c13 ∧ c13 < 2 ^ 30)
    (hd : HandOk d) (hm : 0 < many ∧ many < 1000000000) (q : ∀ j d', 0 ≤ j → j < many → HandOk d' → Q (.vl (.int j)) (some d')) : wpI 2 5 (m_drawB c1 c2 c3 c4 c5 c6 c7 c8 c9 c10 c11 c12 c13) [d, .int many] Q X := by
  obtain ⟨cs, p, b, a, e, rfl, hp⟩ := hd
  unfold m_drawB
  refine ⟨_, _, rfl, rfl, ?_⟩
  have tail : ∀ (p b a : Int) (x2 : Sl), 0 ≤ p → (sSeq (sIte (sBl (sBin (s_ord .Gt) (sBin s_ixD (sBor 0) (sC (.int 2))) (sC (.int 0)))) (sSeq (sAsg 3 (sBin s_mod (sCall s_int (sCons (sBin s_ixD (sBor 0) (sC (.int 2))) sNil)) (sBor 1)))
    (sSeq (sPutIx 0 (sBin s_fdiv (sBin s_ixD (sBor 0) (sC (.int 2))) (sBor 1)) (sC (.int 2)))
    (sRet (sVar 3)))) sSkip)
    (sSeq (sPutIx 0 (sBin s_add (sBin s_ixD (sBor 0) (sC (.int 4))) (sC (.int 1))) (sC (.int 4)))
    (sSeq (sAsg 4 (sBin s_mod (sCall s_int (sCons (sBin s_mul (sCall s_int (sCons (sBin s_add (sBin s_ixD (sBor 0) (sC (.int 3))) (sBin s_mul (sC (.int c4)) (sBin s_ixD (sBor 0) (sC (.int 4))))) sNil)) (sC (.int c5))) sNil)) (sC (.int c6))))
    (sSeq (sAsg 4 (sBin s_mod (sCall s_int (sCons (sBin s_mul (sBor 4) (sBin s_add (sBin s_fdiv (sBor 4) (sC (.int c7))) (sC (.int c8)))) sNil)) (sC (.int c9))))
    (sSeq (sAsg 4 (sBin s_mod (sCall s_int (sCons (sBin s_mul (sBor 4) (sBin s_add (sBin s_fdiv (sBor 4) (sC (.int c10))) (sC (.int c11)))) sNil)) (sC (.int c12))))
    (sRet (sBin s_mod (sCall s_int (sCons (sBin s_fdiv (sBor 4) (sC (.int c13))) sNil)) (sBor 1)))))))) [.ow (.list [.list (cs.map .int), .int p, .int b, .int a, .int e]), .sh (.int many), x2, .no, .no] ⟨fun ρ => cur ρ fun d => Q (.vl .none) d, fun r ρ => nb r ∧ cur ρ fun d => Q r d, fun _ => False, fun _ => False, fun x ρ => cur ρ fun d => X x d⟩ := by
    intro p b a x2 hp
    refine seq_i fun N hN => ?_
    walk_at "vl"
    by_cases hb : 0 < b
    · rw [if_pos hb]
      refine ⟨by omega, .inl ⟨hm.1, ?_, ?_⟩⟩
      · have := Nat.log2_lt (n := many.natAbs) (k := 30) (by omega)
        have h2 := this.mpr (by omega)
        omega
      · exact q _ _ (fm0 hm.1) (fm1 hm.1) ⟨_, _, _, _, _, rfl, hp⟩
    · rw [if_neg hb]
      refine hN _ ?_
      refine draw_tailB h4 h5 h6 h7 h9 h10 h12 h13 hm.1 fun j x4 e' h0 h1 => ⟨True.intro, ?_⟩
      exact ⟨True.intro, _, rfl, q _ _ h0 h1 ⟨_, _, _, _, _, rfl, hp⟩⟩
  refine seq_i fun N hN => ?_
  have fin : ∀ (p b a : Int) (x2 : Sl), 0 ≤ p → N [.ow (.list [.list (cs.map .int), .int p, .int b, .int a, .int e]), .sh (.int many), x2, .no, .no] := fun p b a x2 hp => hN _ (tail p b a x2 hp)
  clear hN tail
  walk_at "vl"
  by_cases hb : b = 0
  · rw [if_pos hb]
    by_cases hc : p < ((cs.map PyData.int).length : Int)
    · rw [if_pos hc]
      obtain ⟨c, ec⟩ := atI_map (f := PyData.int) hp (by simpa using hc)
      refine ⟨_, ec, .inl (cmul_r h1), ?_⟩
      walk_at "vl"
      refine ⟨by omega, by decide, ?_⟩
      by_cases hg : (10 : Int) ^ (18 : Int).toNat ≤ c
      · rw [if_pos hg]; exact fin _ _ _ _ (by omega)
      · rw [if_neg hg]; exact fin _ _ _ _ (by omega)
    · rw [if_neg hc]; exact fin _ _ _ _ hp
  · rw [if_neg hb]; exact fin _ _ _ _ hp
end VL
namespace VL
open PySem PySem.Spec PyProof.Rows L2
local macro_rules | `(tactic| walk_at "vl") => `(tactic| simp only [wpF, wpI, wpSc, cur, sSeq, sIte, sRet, sRetN, sAsg, sExpr, sSkip, put, sTru, sBl, sAndB, sOrB, sNotB, sAnd, sOr, sNot, sNeg, sIf, sC, sVar, sBor, sNil, sCons, sTup, sLst, sBin, sChain, sCall, sCallP, sCallI, sIsi, sIsi2, sAug, sAsgT, sPar, sPar3, sPutIx, sMut, sMut0, sFor, sIt, sRng1, sRng2, sZip2, sZip3, sEnum, sComp, sLRg1, sSl, sPn, sPs, sCnt1, sBrk, sCnt, res, val, vals, ress, nb, tru, List.map_cons, List.map_nil, List.replicate_succ, List.replicate_zero, List.replicate_one, List.cons_append, List.nil_append, List.append_nil, List.length_cons, List.length_nil, List.getElem?_cons_zero, List.getElem?_cons_succ, List.set_cons_zero, List.set_cons_succ, Option.some.injEq, exists_eq_left', exists_eq_left, exists_and_left, exists_eq', true_and, and_true, Nat.reduceSub, Nat.reduceAdd, List.cons.injEq, PyData.int.injEq, PyData.bool.injEq, PyData.list.injEq, PyData.tuple.injEq, Rs.vl.injEq, Rs.fr.injEq, if_true, if_false, Bool.false_eq_true, Bool.not_eq_true, Bool.not_true, Bool.not_false, isT, ite_dec, Sl.ow.injEq, Sl.sh.injEq, Sl.sc.injEq, Tg.put, TgL.put, TgL.len, exists_const, q_add, q_addT, q_addL, q_iadd, q_sub, q_mul, q_mulT, q_fdiv, q_mod, q_pow, q_shl, q_eqI, q_eqB, q_neI, q_neB, q_lt, q_le, q_gt, q_ge, q_ixL, q_ixT, q_isN, q_isnN, q_lenL, q_lenT, q_lenD, q_int, q_intB, q_abs, q_tupL, q_tupT, q_listL, q_listT, q_min2, q_max2, q_putL, q_putDI, at0, at1, at2, at3, at4, put5_0, put5_1, put5_2, put5_3, put5_4, wipeE, backE, List.getD_cons_zero, List.getD_cons_succ, sYes, sSlSc, shp_none, List.flatten_cons, List.flatten_nil])
def m_handB (k0 : Int) : MS :=
  (sSeq (sAsg 1 (sComp [2] (sIt (sSlSc 0 63)) (.nm 2) sYes (sCall s_abs (sCons (sCall s_int (sCons (sBor 2) sNil)) sNil))))
    (sRet (sLst (sCons (sVar 1) (sCons (sC (.int 0)) (sCons (sC (.int 0)) (sCons (sBin s_add (sC (.int k0)) (sCall s_len (sCons (sBor 1) sNil))) (sCons (sC (.int 0)) sNil))))))))
theorem handB_spec {k0 : Int} {ns : List Int} {Q : Rs → Prop} (q : ∀ d, HandOk d → Q (.fr d)) : wpSc 3 (m_handB k0) ns Q := by
  unfold m_handB wpSc
  refine seq_i fun N hN => ?_
  walk_at "vl"
  refine ⟨_, rfl, rfl, ?_, ?_⟩
  · simp only [List.length_map, List.length_take, sizeLine_eq]; omega
  refine compW_map absD (fun d hd k1 k2 hk => ?_) (hN _ ?_)
  · obtain ⟨i, _, rfl⟩ := List.mem_map.mp hd
    walk_at "vl"
    exact hk
  · rw [List.map_map]
    walk_at "vl"
    refine ⟨by omega, ?_⟩
    have e1 : (absD ∘ PyData.int) = PyData.int ∘ absI := rfl
    rw [e1, ← List.map_map]
    exact q _ ⟨_, 0, 0, _, 0, rfl, by omega⟩

end VL

set_option Elab.async false
set_option linter.all false
set_option maxRecDepth 100000
set_option maxHeartbeats 4000000
/-! VL29: min, max of a dict's keys; a dict that a call has just made, walked; a local dict returned as new. -/
namespace VL
open PySem PySem.Spec PyProof.Rows L2

def s_mmK (mx : Bool) : SC := fun ds k => match ds with
  | [.dict kvs] => ∃ x xs, kvs.map Prod.fst = x :: xs ∧ (∀ d ∈ x :: xs, atm d = true) ∧ PySem.W.AlikeAll (x :: xs) ∧ k (.vl (minmax mx x xs))
  | _ => False
theorem mc_mmK {mx : Bool} : MonoC (s_mmK mx) := by
  intro ds k k' h q
  unfold s_mmK at *
  split at q
  · obtain ⟨x, xs, a, b, b2, q⟩ := q
    exact ⟨x, xs, a, b, b2, h _ q⟩
  · exact q.elim
def r_mmK (K : PySem.W.Frag) (mx : Bool) : List V → Hp → VK → Prop := fun vs H Q =>
  ∃ a kvs x rest, vs = [V.ref a] ∧ H a = some (.dK kvs) ∧ DpAll K H (kvs.map fun kv => kV kv.1) (x :: rest) ∧ PySem.W.AlikeAll (x :: rest) ∧ PyData.depthAll (x :: rest) ≤ 64 ∧ ∀ (i : Nat) (v : V), (kvs.map fun kv => kV kv.1)[i]? = some v → (x :: rest)[i]? = some (minmax mx x rest) → Q v H
theorem DpAll.len {K : PySem.W.Frag} {H : Hp} : ∀ {vs : List V} {ds : List PyData}, DpAll K H vs ds → vs.length = ds.length
  | _, _, .nil => rfl
  | _, _, .cons _ r => by rw [List.length_cons, List.length_cons, DpAll.len r]
theorem DpAll.at' {K : PySem.W.Frag} {H : Hp} : ∀ {vs : List V} {ds : List PyData}, DpAll K H vs ds → ∀ {i : Nat} {v : V}, vs[i]? = some v → ∃ d, ds[i]? = some d ∧ Dp K H v d
  | _, _, .nil, i, v, e => by simp at e
  | _, _, .cons a r, 0, v, e => by simp at e; subst e; exact ⟨_, rfl, a⟩
  | _, _, .cons a r, i + 1, v, e => by
    obtain ⟨d, h1, h2⟩ := DpAll.at' r (i := i) (v := v) (by simpa using e)
    exact ⟨d, by simpa using h1, h2⟩
section
variable {prog : Program} {w : World} {A : Around} {s : Shared}
theorem cmpP_lt {P : Nat → Value → Prop} {xs : List PyData} (hr : ∀ i v, P i v → i < xs.length ∧ ∃ bs, PySem.Reads s.heap v (xs.getD i .none) bs) (ha : PySem.W.AlikeAll xs) (hu : A.units + PyData.depthAll xs < cLine) :
    PySem.CmpIn prog w A .Lt s.heap P (fun i j => PySem.W.dataLt (xs.getD i .none) (xs.getD j .none)) := fun i j vi vj s' Q E hk hi hj hq => by
  obtain ⟨l1, as1, r1⟩ := hr i vi hi
  obtain ⟨l2, as2, r2⟩ := hr j vj hj
  have m1 : xs.getD i .none ∈ xs := by rw [List.getD_eq_getElem?_getD, List.getElem?_eq_getElem l1]; exact List.getElem_mem l1
  have m2 : xs.getD j .none ∈ xs := by rw [List.getD_eq_getElem?_getD, List.getElem?_eq_getElem l2]; exact List.getElem_mem l2
  refine PySem.W.rcLt_alike _ _ A s' vi vj _ _ (PySem.W.reads_keeps hk r1) (PySem.W.reads_keeps hk r2) (ha.1 _ m1 _ m2) (ha.2 _ m1) ?_ prog w E Q hq
  have := depth_mem m1
  have := Nat.min_le_left (xs.getD i .none).depth (xs.getD j .none).depth
  omega
theorem cmpP_gt {P : Nat → Value → Prop} {xs : List PyData} (hr : ∀ i v, P i v → i < xs.length ∧ ∃ bs, PySem.Reads s.heap v (xs.getD i .none) bs) (ha : PySem.W.AlikeAll xs) (hu : A.units + PyData.depthAll xs < cLine) :
    PySem.CmpIn prog w A .Gt s.heap P (fun i j => PySem.W.dataLt (xs.getD j .none) (xs.getD i .none)) := fun i j vi vj s' Q E hk hi hj hq => by
  obtain ⟨l1, as1, r1⟩ := hr i vi hi
  obtain ⟨l2, as2, r2⟩ := hr j vj hj
  have m1 : xs.getD i .none ∈ xs := by rw [List.getD_eq_getElem?_getD, List.getElem?_eq_getElem l1]; exact List.getElem_mem l1
  have m2 : xs.getD j .none ∈ xs := by rw [List.getD_eq_getElem?_getD, List.getElem?_eq_getElem l2]; exact List.getElem_mem l2
  refine PySem.W.rcGt_alike _ _ A s' vi vj _ _ (PySem.W.reads_keeps hk r1) (PySem.W.reads_keeps hk r2) (ha.1 _ m1 _ m2) (ha.2 _ m1) ?_ prog w E Q hq
  have := depth_mem m1
  have := Nat.min_le_left (xs.getD i .none).depth (xs.getD j .none).depth
  omega
end
section
variable {X : Cx} {k : Nat}
theorem cr_mmK {mx : Bool} (hr : Room k X.A) (hc : X.calm = true) : CallR X (.builtin (if mx then "max" else "min")) (r_mmK X.K mx) := by
  intro pins s σ H vs us Q I r h
  obtain ⟨a, kvs, x, rest, rfl, hs, hd, hal, hdp, q⟩ := h
  rw [Vals.ref1 r]
  have hu := units_of hr
  have hh := I.ok.hd hc
  obtain ⟨z, lo, vs, rk, dd⟩ := (show ObjOk X.prog X.w H s.heap a (.dK kvs) from I.hok a _ hs)
  obtain ⟨ep, hat⟩ := dd.dictAt
  have hl : kvs.length = vs.length := Paired.length rk
  have hlen : vs.length = rest.length + 1 := by
    have := (DpAll.len hd)
    rw [List.length_map, List.length_cons] at this
    omega
  have key : ∀ {i : Nat} {v : Value}, (∃ k' x', vs[i]? = some (k', x') ∧ (mixKind X.prog X.w).is k' v = true) → ∃ y, (kvs.map fun kv => kV kv.1)[i]? = some y ∧ RelV y v := fun {i v} ⟨k', x', e, hk⟩ => by
    refine ⟨kV k', ?_, keyIs_rel hk⟩
    have e1 : (kvs.map (·.1))[i]? = some k' := by
      rw [KV.keys rk, List.getElem?_map, e] <;> rfl
    have e3 : (kvs.map fun kv => kV kv.1) = (kvs.map (·.1)).map kV := by rw [List.map_map] <;> rfl
    rw [e3, List.getElem?_map, e1] <;> rfl
  have hP : ∀ (i : Nat) (v : Value), (∃ k' x', vs[i]? = some (k', x') ∧ (mixKind X.prog X.w).is k' v = true) → i < (x :: rest).length ∧ ∃ bs, PySem.Reads s.heap v ((x :: rest).getD i .none) bs := fun i v h => by
    obtain ⟨y, ey, ry⟩ := key h
    have hi : i < (x :: rest).length := by
      rw [← (DpAll.len hd)]; exact (List.getElem?_eq_some_iff.mp ey).1
    refine ⟨hi, ?_⟩
    obtain ⟨dd', ed, hdd⟩ := DpAll.at' hd ey
    rw [List.getD_eq_getElem?_getD, ed]
    exact Dp.reads I _ _ _ hdd ry
  have fin : ∀ (v : Value) (s' s₂ : Shared), (∃ k' x', vs[argBest (fun i j => if mx then PySem.W.dataLt ((x :: rest).getD j .none) ((x :: rest).getD i .none) else PySem.W.dataLt ((x :: rest).getD i .none) ((x :: rest).getD j .none)) (vs.length - 1)]? = some (k', x') ∧ (mixKind X.prog X.w).is k' v = true) →
      (∃ h' tk, s' = { s with heap := h', toks := tk } ∧ ∀ b o, s.heap.get? b = some o → h'.get? b = some o) → EP X pins σ Q v s' := by
    intro v s' s₂ hP' hm
    obtain ⟨h', tk, rfl, hk⟩ := hm
    have e1 : vs.length - 1 = rest.length := by omega
    rw [e1] at hP'
    obtain ⟨y, ey, ry⟩ := key hP'
    exact ⟨y, H, I.kept hk, ry, q _ y ey (two_data rfl)⟩
  have hne : a ≠ s.heap.objs.size := Nat.ne_of_lt hat.lt_size
  have W := (Walks.dictKeys (prog := X.prog) (w := X.w) (A := X.A.in1) (knd := mixKind X.prog X.w) hh s.heap.objs.size a hne vs ep).toS
  cases mx with
  | false =>
    refine PySem.call_min_walkH (PySem.wpAny_pyIter_dict lo hat ?_)
    refine ⟨_, _, _, _, vs.length, _, _, s.heap, _, rfl, W, ⟨⟨_, Heap.get?_push_size _ rfl, rfl, rfl⟩, hat.push _⟩, fun b hb => ?_, by omega, fun b o e hb => ?_, fun b o e => Heap.get?_push_of_some _ e, cmpP_lt (A := X.A.in1) hP hal (by show X.A.units + 1 + _ < _; omega), fun v s' hP' m => ?_⟩
    · show b < (s.heap.push _).objs.size
      rw [Heap.size_push]
      have := hat.lt_size
      rcases List.mem_cons.mp hb with rfl | hb
      · exact Nat.lt_succ_self _
      · rw [List.mem_singleton.mp hb]; exact Nat.lt_succ_of_lt this
    · exact absurd (Heap.lt_size e) ((List.mem_singleton.mp hb) ▸ Nat.lt_irrefl _)
    · exact fin v s' s hP' (PySem.W.moved_old rfl rfl m)
  | true =>
    refine PySem.call_max_walkH (PySem.wpAny_pyIter_dict lo hat ?_)
    refine ⟨_, _, _, _, vs.length, _, _, s.heap, _, rfl, W, ⟨⟨_, Heap.get?_push_size _ rfl, rfl, rfl⟩, hat.push _⟩, fun b hb => ?_, by omega, fun b o e hb => ?_, fun b o e => Heap.get?_push_of_some _ e, cmpP_gt (A := X.A.in1) hP hal (by show X.A.units + 1 + _ < _; omega), fun v s' hP' m => ?_⟩
    · show b < (s.heap.push _).objs.size
      rw [Heap.size_push]
      have := hat.lt_size
      rcases List.mem_cons.mp hb with rfl | hb
      · exact Nat.lt_succ_self _
      · rw [List.mem_singleton.mp hb]; exact Nat.lt_succ_of_lt this
    · exact absurd (Heap.lt_size e) ((List.mem_singleton.mp hb) ▸ Nat.lt_irrefl _)
    · exact fin v s' s hP' (PySem.W.moved_old rfl rfl m)
theorem cs_mmK {K : PySem.W.Frag} {mx : Bool} : CallS K (r_mmK K mx) (s_mmK mx) := by
  intro c T ρ σ H vs ds Q R o q
  unfold s_mmK at q
  split at q
  · obtain ⟨x, rest, e, ha, al, q⟩ := q
    obtain ⟨v, ev, o1⟩ := ops1 o
    subst ev
    obtain ⟨a, kv, rfl, e1, r⟩ := o1.dict fr_le
    obtain ⟨h1, h2⟩ := atm_all ha
    have rk := r.keys
    rw [e] at rk
    refine ⟨a, kv, x, rest, rfl, e1, RpA.dp (rk.le fr_le) h1, al, by omega, fun i v e1 e2 => ?_⟩
    obtain ⟨y, ey, ry⟩ := rk.get e1
    rw [e2] at ey; cases ey
    exact q _ _ (res_vl R ry)
  · exact q.elim
end

/-! ### a local thing handed out as new -/
def sMv (i : Nat) : ME := fun ρ Q _ => ∃ d, ρ[i]? = some (.ow d) ∧ Q (.fr d) (ρ.set i .no)
theorem mono_mv {i : Nat} : Mono (sMv i) := fun ρ Q Q' X X' hq hx ⟨d, e, q⟩ => ⟨d, e, hq _ _ q⟩
section
variable {X : Cx} {c : Cf} {W : WX} {i : Nat} {x : Str} {p : Pos}
theorem se_mv (hN : X.N[i]? = some x) (hv : Vis X.env.scope x) (hio : c.io = none ∨ i ≠ 0) (hd : (x == ("__debug__" : Str)) = false := by decide) (hcd : (x == ("__classdict__" : Str)) = false := by decide) : SE X c W (.Name x p) (sMv i) := by
  refine se_of (pe_var hN hv hd hcd) mono_mv fun σ H Q ⟨T, ρ, R, d, e, q⟩ => ?_
  obtain ⟨a, ea, ob⟩ := R.sl i _ e
  obtain ⟨o, eo⟩ := ob.has
  refine ⟨.ref a, ea, q _ _ ?_⟩
  have hu : upd H a o = H := by
    funext b
    by_cases hb : b = a
    · subst hb; rw [upd_same, eo]
    · rw [upd_ne hb]
  have R1 := R.aside (u := o) e ea hio (eo ▸ ob : Ob _ _ (some o) d).mt
  rw [hu] at R1
  have ef : Fr ((a, o) :: T) (ρ.set i .no) σ H = Fr T ρ σ H := by
    have := fr_aside (T := T) (H := H) (u := o) (σ := σ) (ρ := ρ) (i := i) (a := a) ⟨⟨d, e⟩, ea⟩
    rw [hu] at this
    exact this
  exact ⟨a, o, rfl, R1, fun u z => R.dis i a u ⟨⟨d, e⟩, ea⟩ z, by rw [ef]; exact Le.refl, by rw [ef, ← eo]; exact ob⟩
end

/-! ### for k in f(..), the dict just made -/
def tLA (t : TE) : TE := fun σ H Q => t σ H fun x H1 => ∃ d u, x = .ref d ∧ H1 d = some u ∧ Mut (some u) ∧ ∀ od, Q x (upd H1 d (.frz od u))
theorem pe_lockA {X : Cx} {e : Expr} {t : TE} (h : PE X e t) : PE X e (tLA t) := by
  refine ⟨fun pins s σ H Q I hw => ?_⟩
  refine thn (h.run pins s σ H _ I hw) fun v s1 ⟨x, H1, I1, r, d, u, ex, hd, mu, q⟩ => ?_
  obtain ⟨od, I2⟩ := I1.lock hd mu
  exact ⟨x, _, I2, r, q od⟩
def sKeysF (m : ME) : MI := fun ρ Q X => m ρ (fun r ρ' => ∃ kvs, r = .fr (.dict kvs) ∧ Q (kvs.map Prod.fst) ρ') X
theorem mono_keysF {m : ME} (h : Mono m) : Mono (sKeysF m) := fun ρ Q Q' X X' hq hx q => h _ _ _ _ _ (fun r ρ' ⟨kvs, e, q⟩ => ⟨kvs, e, hq _ _ q⟩) hx q
theorem yl_keys {K : PySem.W.Frag} {F : Hp} {a : Addr} {od : Obj} {kv : List (Key × V)} {kvs : List (D × D)} (e : F a = some (.frz od (.dK kv))) (r : RpK K F kv kvs) : Yl K F (kvs.map Prod.fst) (Itk a od kv) := by
  have hl := r.length
  refine ⟨fun i H hi l => ⟨l _ _ e, by rw [List.length_map] at hi; omega⟩, fun i H v H' hi l ⟨e1, k, v0, e2, e3⟩ => ?_, fun H l => ⟨l _ _ e, by rw [List.length_map]; omega⟩⟩
  subst e1; subst e3
  exact ⟨_, rpk_at r e2, Le.refl, fun P _ _ => rp_key k⟩
section
variable {X : Cx} {c : Cf} {W : WX} {e tg : Expr} {m : ME}
theorem si_keysF (h : SE X c W e m) : SI X c W tg e (sKeysF m) := by
  refine si_of (pi_keys (pe_lockA h.run)) (mono_keysF h.mo) fun σ H R' ⟨T, ρ, R, q⟩ => ?_
  refine ⟨T, ρ, R, h.mo _ _ _ _ _ (fun r ρ1 ⟨kvs, er, q⟩ v H1 hr => ?_) (fun _ _ h => h) q⟩
  subst er
  obtain ⟨a, o, rfl, R1, hn, l, ob⟩ := hr
  have ho := (R1.tst a o List.mem_cons_self).at ob.mt.1
  have ob' : Ob X.K (Fr ((a, o) :: T) ρ1 σ H1) (H1 a) (.dict kvs) := by rw [ho]; exact ob
  obtain ⟨kv, eo, rk⟩ := ob_dict ob'
  rw [ho] at eo; cases eo
  refine ⟨a, _, rfl, ho, trivial, fun od => ⟨a, od, rfl, .inl ⟨kv, upd_same, ?_⟩⟩⟩
  have R2 := R1.rehead (o' := .frz od (.dK kv)) hn mt_dK mt_frz
  have l2 : Le (Fr T ρ σ H) (Fr ((a, .frz od (.dK kv)) :: T) ρ1 σ (upd H1 a (.frz od (.dK kv)))) := by
    rw [← fr_head (o := .dK kv)]; exact l
  refine q _ (Fr T ρ1 σ (upd H1 a (.frz od (.dK kv)))) _ (R2.thaw mt_frz) (l2.trans fr_thaw) Le.refl (yl_keys (thaw_at R2 hn mt_frz) ?_)
  have l3 : Le (Fr ((a, .dK kv) :: T) ρ1 σ H1) (Fr T ρ1 σ (upd H1 a (.frz od (.dK kv)))) := by
    rw [fr_head (o := .dK kv) (o' := .frz od (.dK kv))]; exact fr_thaw
  exact rk.le l3
end
end VL
namespace VL
open PySem PySem.Spec PyProof.Rows L2
theorem cr_minK {X : Cx} {k : Nat} (hr : Room k X.A) (hc : X.calm = true) : CallR X (.builtin "min") (r_mmK X.K false) := cr_mmK (mx := false) hr hc
theorem cr_maxK {X : Cx} {k : Nat} (hr : Room k X.A) (hc : X.calm = true) : CallR X (.builtin "max") (r_mmK X.K true) := cr_mmK (mx := true) hr hc
end VL

set_option Elab.async false
set_option linter.all false
set_option maxRecDepth 100000
set_option maxHeartbeats 4000000
/-! VL30: dict comprehensions. -/
namespace VL
open PySem PySem.Spec PyProof.Rows L2
def compDW (vs : List Nat) (ρ0 : Env) (t : Tg) (mt : MB) (mk mv : ME) : List D → List (D × D) → Env → (List (D × D) → Env → Prop) → Prop
  | [], acc, ρ, k => k acc ρ
  | d :: its, acc, ρ, k => Tg.put t d (wipeE vs ρ) fun ρ1 => mt ρ1 (fun b ρ2 =>
      if b = true then mk ρ2 (fun r ρ3 => mv ρ3 (fun r2 ρ4 => ∃ kd key v, val r = some kd ∧ keyOf kd = some key ∧ val r2 = some v ∧ compDW vs ρ0 t mt mk mv its (dput acc kd v) (backE vs ρ0 ρ4) k) (fun _ _ => False)) (fun _ _ => False)
      else compDW vs ρ0 t mt mk mv its acc (backE vs ρ0 ρ2) k) (fun _ _ => False)
def sCompD (vs : List Nat) (mi : MI) (t : Tg) (mt : MB) (mk mv : ME) : ME := fun ρ Q X => mi ρ (fun its ρ1 => okv vs ρ1 = true ∧ its.length ≤ sizeLine ∧ compDW vs ρ1 t mt mk mv its [] ρ1 (fun kvs ρ2 => Q (.fr (.dict kvs)) ρ2)) X
theorem compDW_mono {vs : List Nat} {ρ0 : Env} {t : Tg} {mt : MB} {mk mv : ME} (ht : Mono mt) (hk : Mono mk) (he : Mono mv) : ∀ (its : List D) (acc : List (D × D)) (ρ : Env) (k k' : List (D × D) → Env → Prop), (∀ ds ρ, k ds ρ → k' ds ρ) → compDW vs ρ0 t mt mk mv its acc ρ k → compDW vs ρ0 t mt mk mv its acc ρ k'
  | [], acc, ρ, k, k', h, q => h _ _ q
  | d :: its, acc, ρ, k, k', h, q => Tg.put_mono _ _ _ _ _ (fun ρ1 q => ht _ _ _ _ _ (fun b ρ2 q => by
    cases b with
    | true => exact hk _ _ _ _ _ (fun r ρ3 q => he _ _ _ _ _ (fun r2 ρ4 ⟨kd, key, v, a, b, c, q⟩ => ⟨kd, key, v, a, b, c, compDW_mono ht hk he its _ _ k k' h q⟩) (fun _ _ z => z) q) (fun _ _ z => z) q
    | false => exact compDW_mono ht hk he its _ _ k k' h q) (fun _ _ z => z) q) q
theorem mono_compD {vs : List Nat} {mi : MI} {t : Tg} {mt : MB} {mk mv : ME} (hi : Mono mi) (ht : Mono mt) (hk : Mono mk) (he : Mono mv) : Mono (sCompD vs mi t mt mk mv) := fun ρ Q Q' X X' hq hx =>
  hi ρ _ _ X X' (fun its ρ1 ⟨a, b, q⟩ => ⟨a, b, compDW_mono ht hk he _ _ _ _ _ (fun ds ρ2 q => hq _ _ q) q⟩) hx
section
variable {X : Cx} {c : Cf} {W : WX} {pos : Pos} {iter tg kx vx : Expr} {ifs : List Expr} {scope : Scope} {own : List (Str × Nat)} {mi : MI} {t : Tg} {mt : MB} {mk mv : ME}
theorem compD_core {vs : List Nat} (hi : Mono mi) (ht : Mono mt) (hk : Mono mk) (he : Mono mv) (hsub : ∀ i ∈ t.slots, i ∈ vs) (hio : c.io = none ∨ 0 ∉ vs) {σ : L2.St} {H : Hp} {Q : VK} (h : rdE X.K X.mg c W (sCompD vs mi t mt mk mv) σ H Q) :
    tDc (rdI X.K X.mg c W mi) (gRd X.K c t) (rdB X.K X.mg c W0 mt) (rdE X.K X.mg c W0 mk) (rdE X.K X.mg c W0 mv) vs σ H Q := by
  obtain ⟨T, ρ, R, q⟩ := h
  refine ⟨T, ρ, R, hi _ _ _ _ _ (fun its ρ1 ⟨ov, sz, q⟩ J F1 H1 R1 l1 lF Y => ?_) (fun _ _ h => h) q⟩
  intro A hA
  have nA : ∀ u, (A, u) ∉ T := fun u z => (R1.tst A u z).ne hA
  refine ⟨fun i m H' => m + i = its.length ∧ ∃ ρ' accD accV, Rel X.K c ((A, .dK accV) :: T) ρ' σ H' ∧ Le (Fr T ρ1 σ H1) (Fr ((A, .dK accV) :: T) ρ' σ H') ∧ RpK X.K (Fr ((A, .dK accV) :: T) ρ' σ H') accV accD ∧ accD.length ≤ i ∧ okv vs ρ' = true ∧
    compDW vs ρ1 t mt mk mv (its.drop i) accD ρ' (fun ds ρ2 => ∀ v H', Res X.K c T (Fr T ρ σ H) ρ2 σ H' (.fr (.dict ds)) v → Q v H'), ⟨its.length, rfl, ρ1, [], [], R1.new hA mt_dK, fr_new hA, .nil, Nat.zero_le _, ov, q⟩, fun i m H' ⟨em, ρ', accD, accV, R', l', ra, hz, ov', q'⟩ => ?_⟩
  have lH : Le F1 H' := (lF.trans l').trans fr_le
  by_cases hi' : i < its.length
  · refine .inr ⟨Y.go i H' hi' lH, fun H2 => ∃ ρ2 accD2 accV2, Rel X.K c ((A, .dK accV2) :: T) ρ2 σ H2 ∧ Le (Fr T ρ1 σ H1) (Fr ((A, .dK accV2) :: T) ρ2 σ H2) ∧ RpK X.K (Fr ((A, .dK accV2) :: T) ρ2 σ H2) accV2 accD2 ∧ accD2.length ≤ i + 1 ∧ okv vs ρ2 = true ∧
      compDW vs ρ1 t mt mk mv (its.drop (i + 1)) accD2 ρ2 (fun ds ρ2 => ∀ v H', Res X.K c T (Fr T ρ σ H) ρ2 σ H' (.fr (.dict ds)) v → Q v H'), fun H2 hN => ⟨m - 1, by omega, by omega, hN⟩, fun x H2 hy => ?_⟩
    have e : ∀ d, its[i]? = some d → its.drop i = d :: its.drop (i + 1) := fun d ed => by
      rw [List.drop_eq_getElem_cons hi']
      rw [List.getElem?_eq_getElem hi'] at ed
      rw [Option.some.inj ed]
    obtain ⟨Rw, ew⟩ := R'.wiped ov' hio
    obtain ⟨d, ed, l2, rp⟩ := Y.yl i H' x H2 hi' lH hy
    rw [e d ed] at q'
    have Rw2 := Rw.grow l2
    have lw : Le (Fr ((A, .dK accV) :: T) ρ' σ H') (Fr ((A, .dK accV) :: T) (wipeE vs ρ') (wipe σ vs) H2) := by rw [← ew]; exact fr_grow l2
    refine ⟨(A, .dK accV) :: T, wipeE vs ρ', d, Rw2, rp _ (fun a h => Rw.prot h) (by show Le F1 (Fr _ _ _ _); rw [ew]; exact lF.trans l'), Tg.put_mono _ _ _ _ _ (fun ρ3 q3 σ3 R3 l3 p3 => ?_) q'⟩
    have hw : wipe σ3 vs = wipe σ vs := wipe_put p3 hsub
    refine ⟨hw, (A, .dK accV) :: T, ρ3, R3, ht _ _ _ _ _ (fun b ρ4 q4 H4 ⟨R4, l4⟩ => ?_) (fun _ _ z => z.elim) q3⟩
    have back : ∀ {TT : List (Addr × HO)} {ρ5 : Env} {σ5 : L2.St} {H5 : Hp}, Rel X.K c TT ρ5 σ5 H5 → wipe σ5 vs = wipe σ vs → Le (Fr T ρ1 σ H1) (Fr TT ρ5 σ5 H5) → Rel X.K c TT (backE vs ρ1 ρ5) σ H5 ∧ Le (Fr TT ρ5 σ5 H5) (Fr TT (backE vs ρ1 ρ5) σ H5) := fun R5 hw5 l5 => by
      refine Rel.backed (H := H1) R5 R1.len hw5 ov (fun j hj s es => ?_) l5 hio
      exact R1.sl j s es
    have lw4 : Le (Fr T ρ1 σ H1) (Fr ((A, .dK accV) :: T) ρ4 σ3 H4) := l'.trans (lw.trans (l3.trans l4))
    cases b with
    | false =>
      show (if false = true then _ else _)
      rw [if_neg Bool.false_ne_true] at q4 ⊢
      obtain ⟨R5, l5⟩ := back R4 hw lw4
      exact ⟨_, accD, accV, R5, lw4.trans l5, ra.le (lw.trans (l3.trans (l4.trans l5))), by omega, okv_back ov, q4⟩
    | true =>
      show (if true = true then _ else _)
      rw [if_pos rfl] at q4 ⊢
      refine ⟨(A, .dK accV) :: T, ρ4, R4, hk _ _ _ _ _ (fun r ρ5 q5 v H5 hr => ?_) (fun _ _ z => z.elim) q4⟩
      obtain ⟨R5, l5, o5⟩ := hr.opr
      refine ⟨(A, .dK accV) :: T, ρ5, R5, he _ _ _ _ _ (fun r2 ρ6 ⟨kd, key, y, a1, a2, a3, q6⟩ w H6 hr2 => ?_) (fun _ _ z => z.elim) q5⟩
      obtain ⟨R6, l6, o6⟩ := hr2.opr
      have k1 := (o5.le l6).rp a1
      obtain ⟨ey, ed⟩ := op_key (Op.sh (H := H6) k1) a2
      subst ey
      have rpy := o6.rp a3
      have hlen := rpk_len ra
      refine ⟨accV, key, rfl, (R6.tst A _ List.mem_cons_self).at mt_dK.1, by omega, ?_⟩
      have R7 := R6.rehead (o' := .dK (putK accV key w)) nA mt_dK mt_dK
      have lw5 : Le (Fr T ρ1 σ H1) (Fr ((A, .dK (putK accV key w)) :: T) ρ6 σ3 (upd H6 A (.dK (putK accV key w)))) := by
        rw [← fr_head (o := .dK accV)]
        exact lw4.trans (l5.trans l6)
      obtain ⟨R8, l8⟩ := back R7 hw lw5
      have hpl : (dput accD kd y).length ≤ accD.length + 1 := by
        unfold dput
        split
        · have : ∀ kvs : List (D × D), (dmap kvs kd y).length = kvs.length := fun kvs => by
            induction kvs with
            | nil => rfl
            | cons p r ih => obtain ⟨j, u⟩ := p; simp [dmap, ih]
          rw [this]; omega
        · simp
      refine ⟨_, dput accD kd y, putK accV key w, R8, lw5.trans l8, ?_, by omega, okv_back ov, q6⟩
      refine RpK.le l8 ?_
      rw [← fr_head (o := .dK accV), ed]
      exact (ra.le (lw.trans (l3.trans (l4.trans (l5.trans l6))))).put rpy
  · have ei : i = its.length := by omega
    subst ei
    rw [List.drop_length] at q'
    refine .inl ⟨Y.stop H' lH, q' _ _ ⟨A, .dK accV, rfl, R', nA, l1.trans l', ra⟩⟩
theorem se_compD (hc : X.calm = true) (hN : X.N.Nodup) (hi : SI X c W tg iter mi) (ok : BlkOk X.N X.env.scope scope own) (hsub : ∀ i ∈ t.slots, i ∈ own.map (·.2)) (hio : c.io = none ∨ 0 ∉ own.map (·.2))
    (hg : ∀ (s : Shared) (H : Hp) (C : Addr) (cl : List (Str × Addr)) (fp : List Addr), SG (X.blk s H scope (compEnvC scope cl C X.env) fp) c tg t) (ht : ∀ (s : Shared) (H : Hp) (C : Addr) (cl : List (Str × Addr)) (fp : List Addr), STs (X.blk s H scope (compEnvC scope cl C X.env) fp) c W0 ifs mt)
    (hk : ∀ (s : Shared) (H : Hp) (C : Addr) (cl : List (Str × Addr)) (fp : List Addr), SE (X.blk s H scope (compEnvC scope cl C X.env) fp) c W0 kx mk)
    (he : ∀ (s : Shared) (H : Hp) (C : Addr) (cl : List (Str × Addr)) (fp : List Addr), SE (X.blk s H scope (compEnvC scope cl C X.env) fp) c W0 vx mv) (hs : ∀ x, foldedSetIterable iter X.env x = pure x := by intro _; rfl) :
    SE X c W (.DictComp kx vx [⟨tg, iter, ifs, 0⟩] scope pos) (sCompD (own.map (·.2)) mi t mt mk mv) := by
  have mt' : Mono mt := (ht ({} : Shared) (fun _ => none) 0 [] []).mo
  have mk' : Mono mk := (hk ({} : Shared) (fun _ => none) 0 [] []).mo
  have me' : Mono mv := (he ({} : Shared) (fun _ => none) 0 [] []).mo
  exact se_of (pe_dc hc hN hi.run ok (fun s H C cl fp => (hg s H C cl fp).run) (fun s H C cl fp => (ht s H C cl fp).run) (fun s H C cl fp => (hk s H C cl fp).run) (fun s H C cl fp => (he s H C cl fp).run) hs) (mono_compD hi.mo mt' mk' me') fun σ H Q h => compD_core hi.mo mt' mk' me' hsub hio h
end

/-! ### name = {..}, the name a local, on one row -/
section
variable {X : Cx} {c : Cf} {W : WX} {pos py spos : Pos} {iter tg kx vx : Expr} {ifs : List Expr} {scope : Scope} {own : List (Str × Nat)} {mi : MI} {t : Tg} {mt : MB} {mk mv : ME} {i : Nat} {y : Str}
theorem ps_asgDc {wi : TI} {g : TG} {tt : TT} {tk tv : TE} (hc : X.calm = true) (nd : X.N.Nodup) (ei : X.N[i]? = some y) (ly : X.env.scope.names.lookup y = some .local)
    (sw : swapsWith (.DictComp kx vx [⟨tg, iter, ifs, 0⟩] scope pos) (some (.Name y py)) spos.line X.env = pure true) (pi : PI X tg iter wi) (bk : BlkOk X.N X.env.scope scope own)
    (pg : ∀ (s : Shared) (H : Hp) (C : Addr) (cl : List (Str × Addr)) (fp : List Addr), PG (X.blk s H scope (compEnvC scope cl C X.env) fp) tg g) (pt : ∀ (s : Shared) (H : Hp) (C : Addr) (cl : List (Str × Addr)) (fp : List Addr), PTs (X.blk s H scope (compEnvC scope cl C X.env) fp) ifs tt)
    (pk : ∀ (s : Shared) (H : Hp) (C : Addr) (cl : List (Str × Addr)) (fp : List Addr), PE (X.blk s H scope (compEnvC scope cl C X.env) fp) kx tk) (pv : ∀ (s : Shared) (H : Hp) (C : Addr) (cl : List (Str × Addr)) (fp : List Addr), PE (X.blk s H scope (compEnvC scope cl C X.env) fp) vx tv)
    (fs : ∀ x, foldedSetIterable iter X.env x = pure x := by intro _; rfl) : PS X (.Assign [.Name y py] (.DictComp kx vx [⟨tg, iter, ifs, 0⟩] scope pos) spos) (tAsg (tDc wi g tt tk tv (own.map (·.2))) (gName i)) := ⟨fun pins s σ H D I h => by
  have h' : tDc wi g tt tk tv (own.map (·.2)) σ H (fun x H1 => gName i x σ H1 D.nx) := h
  rw [exec_Assign_Name_used _ _ _ _ sw]
  refine wpAny_bind (wpAny_standAt (wpAny_bind ?_))
  show wpAny _ X.A (do let _ ← comprehension (.DictComp kx vx [⟨tg, iter, ifs, 0⟩] scope pos) scope X.env (firstIterPos [⟨tg, iter, ifs, 0⟩] pos) newDict false (eval iter X.env) (some (assign (.Name y py) X.env))) _ _ s
  refine wpAny_bind (thn (dc_core (Qf := fun _ z => SP X pins D .next z) hc nd I pi bk pg pt pk pv fs h' fun L C z m Hz Iz q hn f => ?_) fun _ z hq => wpAny_pure (wpAny_pure hq))
  show wpAny _ _ (assign (.Name y py) X.env (.ref L)) _ _ _
  obtain ⟨g0, g1, g2, g3, g4, g5⟩ := f
  refine wpAny_assign_Name (store_ok2 (v := V.ref L) Iz nd ei (.inl ly) rfl (fun z2 I2 ⟨a, sb, ha⟩ => ?_) (.inr ly))
  have ne : C ≠ a := ha.elim (fun z => z ▸ g1) fun z e => g4 y a z e.symm
  exact ⟨m, hn.sameBut sb ne, fun h3 sb3 => ⟨_, Hz, I2.turned (t' := z2.toks) (fun b o hb e => (sb3.2 b hb).trans e) g0 g1 g3 g4 g5, q⟩⟩⟩
theorem sw_trueD {gs : List Comprehension} {l : Nat} {env : PySem.Env} (hk : env.scope.kind = .function) (hy : env.scope.names.lookup y = some .local) (hl : (py.line == pos.line) = true)
    (ha : (scope.names.any fun (n, k) => n == y && (k == .local || k == .cell)) = false) : swapsWith (.DictComp kx vx gs scope pos) (some (.Name y py)) l env = pure true := by
  have h1 : env.kindOf y = some .local := hy
  have h2 : env.blockKind = .function := by unfold PySem.Env.blockKind; rw [hk]; rfl
  unfold swapsWith
  simp only [h2, h1, ha, Expr.pos, hl]
  rfl
theorem ss_asgDc (hc : X.calm = true) (hN : X.N.Nodup) (hy : X.N[i]? = some y) (hyl : X.env.scope.names.lookup y = some .local) (hio2 : c.io = none ∨ i ≠ 0)
    (hsw : swapsWith (.DictComp kx vx [⟨tg, iter, ifs, 0⟩] scope pos) (some (.Name y py)) spos.line X.env = pure true) (hi : SI X c W tg iter mi) (ok : BlkOk X.N X.env.scope scope own) (hsub : ∀ i ∈ t.slots, i ∈ own.map (·.2)) (hio : c.io = none ∨ 0 ∉ own.map (·.2))
    (hg : ∀ (s : Shared) (H : Hp) (C : Addr) (cl : List (Str × Addr)) (fp : List Addr), SG (X.blk s H scope (compEnvC scope cl C X.env) fp) c tg t) (ht : ∀ (s : Shared) (H : Hp) (C : Addr) (cl : List (Str × Addr)) (fp : List Addr), STs (X.blk s H scope (compEnvC scope cl C X.env) fp) c W0 ifs mt)
    (hk : ∀ (s : Shared) (H : Hp) (C : Addr) (cl : List (Str × Addr)) (fp : List Addr), SE (X.blk s H scope (compEnvC scope cl C X.env) fp) c W0 kx mk)
    (he : ∀ (s : Shared) (H : Hp) (C : Addr) (cl : List (Str × Addr)) (fp : List Addr), SE (X.blk s H scope (compEnvC scope cl C X.env) fp) c W0 vx mv) (hs : ∀ x, foldedSetIterable iter X.env x = pure x := by intro _; rfl) :
    SS X c W (.Assign [.Name y py] (.DictComp kx vx [⟨tg, iter, ifs, 0⟩] scope pos) spos) (sAsg i (sCompD (own.map (·.2)) mi t mt mk mv)) := by
  have mt' : Mono mt := (ht ({} : Shared) (fun _ => none) 0 [] []).mo
  have mk' : Mono mk := (hk ({} : Shared) (fun _ => none) 0 [] []).mo
  have me' : Mono mv := (he ({} : Shared) (fun _ => none) 0 [] []).mo
  have mo := mono_compD (vs := own.map (·.2)) (t := t) hi.mo mt' mk' me'
  refine ss_of (ps_asgDc (tk := rdE X.K X.mg c W0 mk) (tv := rdE X.K X.mg c W0 mv) (tt := rdB X.K X.mg c W0 mt) (g := gRd X.K c t) hc hN hy hyl hsw hi.run ok (fun s H C cl fp => (hg s H C cl fp).run) (fun s H C cl fp => (ht s H C cl fp).run) (fun s H C cl fp => (hk s H C cl fp).run) (fun s H C cl fp => (he s H C cl fp).run) hs) (monoS_asg mo) fun D σ H h => ?_
  have z := asg_core (i := i) mo hio2 h
  exact compD_core hi.mo mt' mk' me' hsub hio z
end
end VL

set_option Elab.async false
set_option linter.all false
set_option maxRecDepth 100000
set_option maxHeartbeats 4000000
/-! VL31: min(x, y) of any alike data. -/
namespace VL
open PySem PySem.Spec PyProof.Rows L2
section
variable {prog : Program} {w : World} {A : Around} {E : Value → Shared → Prop} {s : Shared}
theorem min2_walk {x y : Value} {Q : Value → Shared → Prop}
    (h : wpAny (model prog w) A.in1 (pyIter (.ref s.heap.objs.size)) (fun it z => ∃ I fp wr G n P St H bt, it = .ref I ∧ WalksS prog w A.in1 I fp wr G n P St ∧ St 0 z ∧ (∀ b ∈ fp, b < z.heap.objs.size) ∧ 0 < n ∧ (∀ b o, H.get? b = some o → b ∉ wr) ∧
      (∀ b o, H.get? b = some o → z.heap.get? b = some o) ∧ CmpIn prog w A.in1 .Lt H P bt ∧ ∀ v z', P (argBest bt (n - 1)) v → Moved wr G z z' → Q v z') E { s with heap := s.heap.push { cls := .type "tuple", data := .seq #[x, y] } }) :
    wpAny (model prog w) A (call (.builtin "min") [x, y]) Q E s := by
  refine call_function_tree F.kind_min F.plain_min F.entry_min (F.args_min2 _ _) (?_ : wpAny _ A.in1 (Builtin.Builtins.bindParams "min" ["key", "default"] 0 ⟨[], []⟩ >>= _) _ _ s)
  refine wpAny_bind (wpAny_of_eq (show Builtin.Builtins.bindParams "min" ["key", "default"] 0 ⟨[], []⟩ = pure [none, none] from rfl) (?_ : wpAny _ A.in1 (newTuple [x, y] >>= _) _ _ s))
  refine wpAny_bind (wpAny_newObj_type (wpAny_bind (wpAny_mono h (fun it z hz => ?_) fun _ _ e => e)))
  obtain ⟨I, fp, wr, G, n, P, St, H, bt, rfl, W, hst, hfp, hn, hw, hk, hc, q⟩ := hz
  refine wpAny_bind (wpAny_newObj_type ?_)
  have nf : z.heap.objs.size ∉ fp := fun hm => absurd (hfp _ hm) (Nat.lt_irrefl _)
  rw [show (toString "min" ++ toString ".loop" : String) = "min.loop" by decide]
  refine wpAny_pure ⟨plainId_quiet F.plain_min_loop _, codeAny_min_loop_firstH W H hw bt hc z.heap.objs.size nf (fresh_in hk) _ hn (fun b o e => Heap.get?_push_of_some _ (hk b o e)) ?_ (Heap.get?_push_size _ rfl) fun v z' hP hm => q v z' hP (Moved.drop_new (tk := z.toks) hm (Nat.le_refl _))⟩
  exact W.frame 0 z _ z.toks hst (Nat.le_refl _) fun b _ o e => Heap.get?_push_of_some _ e
end

def r_min2 (K : PySem.W.Frag) : List V → Hp → VK → Prop := fun vs H Q => ∃ x y d e, vs = [x, y] ∧ DpAll K H [x, y] [d, e] ∧ PySem.W.AlikeAll [d, e] ∧ PyData.depthAll [d, e] ≤ 64 ∧ Q (if PySem.W.dataLt e d = true then y else x) H
section
variable {X : Cx} {k : Nat}
theorem cr_min2D (hr : Room k X.A) (hc : X.calm = true) : CallR X (.builtin "min") (r_min2 X.K) := by
  intro pins s σ H vs us Q I r h
  obtain ⟨x, y, d, e, rfl, hd, hal, hdp, q⟩ := h
  have hu := units_of hr
  have hh := I.ok.hd hc
  have rv := r
  obtain ⟨u, w, rfl, r1, r2⟩ := vals2 r
  obtain ⟨as, hrd⟩ := Dp.readsAll I _ _ _ hd rv
  have hT : (s.heap.push { cls := .type "tuple", data := .seq #[u, w] }).IsTuple s.heap.objs.size #[u, w] := ⟨_, Heap.get?_push_size _ rfl, rfl, 0, by simp⟩
  refine min2_walk (PySem.W.iter_tupleW (A := X.A.in1) hh hT fun s₂ e2 W st hfp hw hk => ?_)
  have up : ∀ b o, s.heap.get? b = some o → (s.heap.push { cls := .type "tuple", data := .seq #[u, w] }).get? b = some o := fun b o eb => Heap.get?_push_of_some _ eb
  refine ⟨_, _, _, _, _, _, _, s.heap, _, rfl, W, st, hfp, by show 0 < 2; omega, fun b o eb => hw b o (up b o eb), fun b o eb => hk b o (up b o eb), PySem.W.cmpIn_lt (A := X.A.in1) (vs := #[u, w]) hrd hal (by show X.A.units + 1 + _ < _; omega), fun v s' hP m => ?_⟩
  obtain ⟨h', tk, rfl, hk'⟩ := PySem.W.moved_old e2 rfl m
  have hP' : (#[u, w] : Array Value)[argBest (fun i j => PySem.W.dataLt ([d, e].getD i .none) ([d, e].getD j .none)) 1]? = some v := hP
  have eb : argBest (fun i j => PySem.W.dataLt ([d, e].getD i .none) ([d, e].getD j .none)) 1 = if PySem.W.dataLt e d = true then 1 else 0 := by
    simp [argBest]
  rw [eb] at hP'
  have I' := I.kept (h' := h') (t' := tk) fun b o eb => hk' b o (up b o eb)
  by_cases hl : PySem.W.dataLt e d = true
  · rw [if_pos hl] at hP' q
    have ev : v = w := by simpa using hP'.symm
    subst ev
    exact ⟨y, H, I', r2, q⟩
  · rw [if_neg hl] at hP' q
    have ev : v = u := by simpa using hP'.symm
    subst ev
    exact ⟨x, H, I', r1, q⟩
/-- the less of two tuples -/
def s_min2 : SC := fun ds k => match ds with
  | [.tuple ds, .tuple es] => PySem.W.AlikeAll [PyData.tuple ds, .tuple es] ∧ shp (.tuple ds) = true ∧ shp (.tuple es) = true ∧ k (.vl (if PySem.W.dataLt (.tuple es) (.tuple ds) = true then .tuple es else .tuple ds))
  | _ => False
theorem mc_min2 : MonoC s_min2 := by
  intro ds k k' h q
  unfold s_min2 at *
  split at q
  · exact ⟨q.1, q.2.1, q.2.2.1, h _ q.2.2.2⟩
  · exact q.elim
theorem cs_min2 {K : PySem.W.Frag} : CallS K (r_min2 K) s_min2 := by
  intro c T ρ σ H vs ds Q R o q
  unfold s_min2 at q
  split at q
  · rename_i ds es
    obtain ⟨a1, a7, a8, q⟩ := q
    obtain ⟨v, w, ev, o1, o2⟩ := ops2 o
    subst ev
    have p1 := Op.fz (imm := fun _ => True) o1 (fun _ z => nomatch z) (fun _ z => nomatch z)
    have p2 := Op.fz (imm := fun _ => True) o2 (fun _ z => nomatch z) (fun _ z => nomatch z)
    have l1 := shp_lay a7
    have l2 := shp_lay a8
    have h1 := SeqAt.depth_of_shaped a7
    have h2 := SeqAt.depth_of_shaped a8
    refine ⟨v, w, .tuple ds, .tuple es, rfl, RpA.dp ((RpA.cons p1 (.cons p2 .nil)).le fr_le) (by simp only [PyData.canLayAll0, l1, l2, Bool.and_true]), a1, by simp only [PyData.depthAll]; omega, q _ _ ?_⟩
    split
    · exact res_vl R p2
    · exact res_vl R p1
  · exact q.elim
end
end VL

set_option Elab.async false
set_option linter.all false
set_option maxRecDepth 100000
set_option maxHeartbeats 4000000
/-! VL32: xs.index(x), xs a list of any data. -/
namespace VL
open PySem PySem.Spec PyProof.Rows L2
def s_idx : SC := fun ds k => match ds with
  | [.list xs, d] => shp (.list xs) = true ∧ shp d = true ∧ ∃ (j : Nat) (z : D), xs[j]? = some z ∧ PyData.eqv z d = true ∧ (∀ (m : Nat) (z' : D), m < j → xs[m]? = some z' → PyData.eqv z' d = false) ∧ k (.vl (.int (j : Nat)))
  | _ => False
theorem mc_idx : MonoC s_idx := by
  intro ds k k' h q
  unfold s_idx at *
  split at q
  · obtain ⟨a, b, j, z, e1, e2, e3, q⟩ := q
    exact ⟨a, b, j, z, e1, e2, e3, h _ q⟩
  · exact q.elim
section
variable {X : Cx} {c : Cf} {W : WX} {apos cpos : Pos} {o e : Expr} {mo : ME} {ma : MA} {k : Nat}
theorem se_index (hr : Room k X.A) (ho : SE X c W o mo) (ha : SA X c W [e] ma) (hbase : attributeBase o "index" X.env (eval o X.env) = eval o X.env := by rfl)
    (hfew : ((backTo cpos (starEach [e] X.env)).all (fun x => !x.1) && (backToKw cpos (keywordEach [] X.env)).all (fun x => x.1.isSome)
      && decide ([e].length + ([] : List Keyword).length + (if ([] : List Keyword).isEmpty then 0 else 1) < 30)) = true := by rfl)
    (hline : (apos.endLine == cpos.line) = true := by rfl) (he : starEach [e] X.env = (false, eval e X.env) :: starEach [] X.env := by rfl) (hplain : (backTo cpos (starEach [] X.env)).any (·.1) = false := by rfl) :
    SE X c W (.Call (.Attribute o "index" apos) [e] [] cpos) (sCnt1 s_idx mo ma) := by
  refine se_of (pe_bm PySem.F.plainAttrs_list PySem.F.slot_list_index PySem.F.type_list_index (mt_indexD (by have := units_of hr; omega)) ho.run ha.run hbase hfew hline he hplain) (mono_cnt1 mc_idx ho.mo ha.mo) fun σ H Q ⟨T, ρ, R, q⟩ => ?_
  refine ⟨T, ρ, R, ho.mo _ _ _ _ _ (fun r ρ1 ⟨⟨xs, e0⟩, q⟩ v H1 hr => ?_) (fun _ _ h => h) q⟩
  obtain ⟨R1, l1, o1⟩ := hr.opr
  have p1 := o1.op R1 e0
  obtain ⟨a, vs, rfl, e1, r1⟩ := p1.list fr_le
  refine ⟨.inl ⟨rfl, vs, SqL.of e1⟩, T, ρ1, R1, ha.mo _ _ _ _ _ (fun rs ρ2 ⟨d, ds, e2, e3, q⟩ ws H2 ⟨R2, l2, o2⟩ => ?_) (fun x ρ' h => kX_le l1 h) q⟩
  have p2 := (o1.le l2).op R2 e2
  have p3 := Opr.ops R2 o2 e3
  unfold s_idx at q
  split at q
  · rename_i xs' d' heq
    cases heq
    obtain ⟨h1, h2, j, z, e4, e5, e6, q⟩ := q
    obtain ⟨w, ew, o4⟩ := ops1 p3
    subst ew
    have rl := Op.rp fr_le p2
    have ry := Op.rp fr_le o4
    refine ⟨a, w, d', xs', j, z, rfl, rfl, Rp.dp rl (shp_lay h1), Rp.dp ry (shp_lay h2), h1, h2, e4, e5, e6, q _ _ ((res_vl R2 (.int _)).le (l1.trans l2))⟩
  · exact q.elim
end
end VL

set_option Elab.async false
set_option linter.all false
set_option maxRecDepth 100000
set_option maxHeartbeats 4000000
/-! VL33: == of a tuple of one thing (any data, dicts too) and a pair whose first item is a text. -/
namespace PySem.SeqAt
open AutoSeq1 (wpAny_loadPart')
open MeetsSeq
theorem str_eq_declines_dict (b : Str) (u : Tok) (l : Addr) (c : Value) (es : Array DictEntry) (n : Nat) (dd : Option Addr) (sl : Array (Option Value)) :
    Meets (Builtin.«str.__eq__» ⟨[.str b u, .ref l], []⟩) (fun _ R s => s.heap.get? l = some { cls := c, dict := dd, data := .dict es n, slots := sl } ∧ R (.ok (.ret .notImplemented)) s) :=
  .of_wp fun prog w A R s h => by obtain ⟨hp, g, d, tk, os⟩ := s; obtain ⟨hl, h⟩ := h; wp_walk using wpAny_loadPart' hl, wpAny_load hl; exact ⟨_, rfl, h⟩
end PySem.SeqAt
namespace PySem.SeqAt
section
variable {A : Around} {s : Shared}
theorem call_entry_dict_declines {prog : Program} {w : World} {E : Value → Shared → Prop} {l : Addr} {o : Obj} {es : Array DictEntry} {n : Nat} (b : Str) (u : Tok) (ho : s.heap.get? l = some o) (hc : o.cls = .type "dict")
    (Q : Value → Shared → Prop) (hq : Q .notImplemented s) : wpAny (model prog w) A (call (.builtin "dict.__eq__") [.ref l, .str b u]) Q E s := by
  have ti : s.TypeIs (.ref l) "dict" := ⟨o, ho, hc⟩
  refine wpAny_call_entry PySem.F.slot_dict_eq ti PySem.F.entry_dict_eq ?_ (PySem.F.args_dict_eq_2 _ _)
  show wpAny _ _ (Builtin.Dict.dictSlotArgs "__eq__" ⟨[.ref l, .str b u], []⟩ >>= _) _ _ s
  refine wpAny_bind ?_
  unfold Builtin.Dict.dictSlotArgs
  refine wpAny_bind (PySem.wpAny_notOrdered_dict ti ?_)
  show wpAny _ _ (pure (Value.ref l, Value.str b u)) _ _ s
  refine wpAny_pure ?_
  refine wpAny_bind (wpAny_isInstance (T := "str") (typeIs_str s b u) PySem.F.sub_str_dict ?_)
  simp only [Bool.not_false, if_true]
  exact wpAny_bind (wpAny_rule (wpAny_pure ⟨_, rfl, hq⟩))
theorem RcAt.dict_str {l : Addr} {o : Obj} {es : Array DictEntry} {n : Nat} (b : Str) (u : Tok) (ho : s.heap.get? l = some o) (hc : o.cls = .type "dict") (hd : o.data = .dict es n) (hu : A.units < cLine) : RcAt A s (.ref l) (.str b u) false := fun prog w E Q h => by
  obtain ⟨cls, dd, data, sl⟩ := o
  simp only at hc hd
  subst hc hd
  exact rc_eq_decline_or (k := false) ⟨_, ho, rfl⟩ (typeIs_str s b u) (by decide) F.sub_str_dict F.slot_dict_eq F.slot_str_eq_refl
    (fun _ hq => call_entry_dict_declines (es := es) (n := n) b u ho rfl _ hq)
    (fun _ hq => call_meets F.slot_str_eq_refl (typeIs_str s b u) F.entry_str_eq (F.args_str_eq_2 _ _) (str_eq_declines_dict b u l (.type "dict") es n dd sl) ⟨ho, hq⟩)
    (fun _ hq => wpAny_of_eq (rfl : isSame (.ref l) (.str b u) = pure false) hq) (.inr hu) h
theorem EqAt.dict_str {l : Addr} {o : Obj} {es : Array DictEntry} {n : Nat} (b : Str) (u : Tok) (ho : s.heap.get? l = some o) (hc : o.cls = .type "dict") (hd : o.data = .dict es n) (hu : A.units < cLine) : EqAt A s (.ref l) (.str b u) false := fun prog w E Q h => by
  unfold eqBool
  refine wpAny_holding ?_
  refine wpAny_ite_split (fun hab => absurd (eq_of_beq hab) nofun) (fun _ => ?_)
  exact wpAny_bind (RcAt.dict_str b u ho hc hd hu prog w E _ (wpAny_truthy_bool h))
end
end PySem.SeqAt
namespace VL
open PySem PySem.Spec PyProof.Rows L2
section
variable {X : Cx}
/-- any data that is no text is no text -/
theorem ne_str {pins : List (Addr × Obj)} {σ : L2.St} {H : Hp} {s : Shared} {A : Around} (I : Inv X pins σ H s) (hu : A.units < cLine) {v : V} {d : D} {u : Value} (r : Rp X.K H v d) (rv : RelV v u) (hn : ∀ t, d ≠ .str t) (b : Str) (t : Tok) : SeqAt.EqAt A s u (.str b t) false := by
  cases r with
  | non => cases rv; exact SeqAt.EqAt.none_str b t
  | bl c => cases rv; exact SeqAt.EqAt.bool_str c b t
  | int i => obtain ⟨t', rfl⟩ := rv; exact SeqAt.EqAt.int_str i t' b t
  | str x => exact absurd rfl (hn x)
  | lst e a =>
    cases rv
    obtain ⟨its, _, hl, _⟩ := I.list (.inl (.inl e))
    exact SeqAt.EqAt.list_str b t hl.isList hu
  | tup e a =>
    cases rv
    obtain ⟨its, _, hl, _⟩ := I.tuple e
    exact SeqAt.EqAt.tuple_str b t hl hu
  | dK e a =>
    cases rv
    obtain ⟨_, _, vs, _, o, es, ep, ho, hx, hd, _⟩ := dk_of I.hok e
    exact SeqAt.EqAt.dict_str b t ho hx.1 hd hu
def rEqO (K : PySem.W.Frag) : R2 := fun x y H Q => ∃ a b v d st w, x = .ref a ∧ SqT K H a [v] ∧ Rp K H v d ∧ (∀ t, d ≠ .str t) ∧ y = .ref b ∧ SqT K H b [.str st, w] ∧ Q (.bl false) H
theorem op_eqO (hu : X.A.units + 64 < cLine) : OpR X (compareOp .Eq) (rEqO X.K) := by
  intro pins s σ H x y v u Q I rx ry h
  obtain ⟨a, b, v1, d, st, w, rfl, ta, rd, hn, rfl, tb, q⟩ := h
  cases rx
  cases ry
  obtain ⟨its, r1, hl, _⟩ := I.tuple ta
  obtain ⟨its2, r2, hl2, _⟩ := I.tuple tb
  cases r1 with
  | cons q1 q2 =>
    cases q2
    cases r2 with
    | cons p1 p2 =>
      cases p2 with
      | cons p3 p4 =>
        cases p4
        obtain ⟨t, rfl⟩ := p1
        have R := SeqAt.RcAt.tuples (A := X.A) (e := fun _ => false) hl hl2 (by omega) (fun j h1 h2 => by
          have : j = 0 := by simpa using h1
          subst this
          exact ne_str I (by show X.A.units + 1 < cLine; omega) rd q1 hn st t)
        refine R X.prog X.w _ _ ?_
        exact ⟨.bl false, H, I, rfl, q⟩
/-- == of data, or of a tuple of one thing and a pair with a text first -/
def s_eqO : S2 := fun d e k => s_eq d e k ∨ ∃ x st y, d = .tuple [x] ∧ (∀ t, x ≠ .str t) ∧ e = .tuple [.str st, y] ∧ k (.vl (.bool false))
theorem m_eqO : Mono2 s_eqO := fun d e k k' h q => q.elim (fun q => .inl (m_eq d e k k' h q)) fun ⟨x, st, y, a, b, c, q⟩ => .inr ⟨x, st, y, a, b, c, h _ q⟩
theorem os_eqO {K : PySem.W.Frag} : OpS K (fun x y H Q => rEqD K x y H Q ∨ rEqO K x y H Q) s_eqO := by
  intro c T ρ σ H x y d e Q R hx hy q
  rcases q with q | ⟨x1, st, y1, rfl, hn, rfl, q⟩
  · exact .inl (os_eq c T ρ σ H x y d e Q R hx hy q)
  · obtain ⟨a, vs, rfl, _, ta, ra⟩ := hx.tup fr_le
    obtain ⟨b, ws, rfl, _, tb, rb⟩ := hy.tup fr_le
    cases ra with
    | cons r1 r2 =>
      cases r2
      cases rb with
      | cons p1 p2 =>
        cases p1
        cases p2 with
        | cons p3 p4 =>
          cases p4
          exact .inr ⟨a, b, _, x1, st, _, rfl, ta, r1.le fr_le, hn, rfl, tb, q _ _ (res_vl R (.bl _))⟩
variable {c : Cf} {W : WX} {pos : Pos} {a b : Expr} {ma mb : ME} {k : Nat}
theorem se_eqO (hr : Room k X.A) (ha : SE X c W a ma) (hb : SE X c W b mb) (hm : behindInMarks .Eq b = false := by rfl) : SE X c W (.Compare a [.Eq] [b] pos) (sBin s_eqO ma mb) :=
  se_cmp (OpR.or (op_eqD (by have := units_of hr; omega)) (op_eqO (by have := units_of hr; omega))) os_eqO m_eqO ha hb hm
end
end VL

set_option Elab.async false
set_option linter.all false
set_option maxRecDepth 100000
set_option maxHeartbeats 4000000
/-! VL34: defs that may raise: their meaning, their calls, raise. -/
namespace VL
open PySem PySem.Spec PyProof.Rows L2
/-- .. an exception behind a call -/
def RetX (K : PySem.W.Frag) (mg : Str → Option Value) (T : List (Addr × HO)) (F0 H : Hp) (x : Ex) (cls : Value) (d : Option Addr) : Prop := TOk T H ∧ Le F0 (Fz (Hid none T) H) ∧ ExR K mg (Fz (Hid none T) H) x cls d
def spPX (K : PySem.W.Frag) (mg : Str → Option Value) (n : Nat) (F : FP) : Sp := fun vs H Q E => ∃ ds T, TOk T H ∧ RpA K (Fz (Hid none T) H) vs ds ∧ ds.length = n ∧ F ds (fun r d' => ∀ v H', RetOk K none T (Fz (Hid none T) H) H' r v d' → Q v H')
  (fun x _ => ∀ cls d H', RetX K mg T (Fz (Hid none T) H) H' x cls d → E cls d H')
section
variable {P : Program} {w : World} {K : PySem.W.Frag} {mg : Str → Option Value} {base : Heap} {x qual : Str} {st : Stmt} {f : Addr} {fd : FuncData} {N ps : List Str} {k n : Nat} {m : MS}
/-- the body's derivation, whatever the context of the call, exceptions let out -/
def BodyX (P : Program) (w : World) (K : PySem.W.Frag) (mg : Str → Option Value) (base : Heap) (qual : Str) (st : Stmt) (f : Addr) (N : List Str) (k : Nat) (m : MS) : Prop :=
  ∀ (cdv : Value) (A : Around) (outer : List PySem.Env) (s : Shared) (H : Hp) (E : XK), Room k (A.deeper (envOfC qual (defScope st) s.heap.objs.size f cdv)) → ∀ (c : Cf) (W : WX), c.io = none → Takes (cxOf (L2.CX P w) P w K mg base N qual (defScope st) f cdv A outer s H E) W →
    SSs (cxOf (L2.CX P w) P w K mg base N qual (defScope st) f cdv A outer s H E) c W (defBody st) m
theorem fn_PX (F : L2.Fun K x qual st f fd) (S : FnScope N ps (defScope st)) (hn : ps.length = n) (hN : n ≤ N.length) (hb : BodyX P w K mg base qual st f N k m) :
    FnOk P w K mg base (L2.CX P w) (k + 1) f fd ps (spPX K mg n (wpF n N.length m)) := by
  refine F.okX S (fun vs H Q E h => ?_) (fun cdv A outer s H vs Q E hr h => ?_)
  · obtain ⟨ds, T, _, r, hl, _⟩ := h
    rw [r.length, hl, hn]
  obtain ⟨ds, T, hT, ra, hl, _, q⟩ := h
  have tk : Takes (cxOf (L2.CX P w) P w K mg base N qual (defScope st) f cdv A outer s H E) (fun cls d _ H => E cls d H) := takes_of rfl rfl rfl rfl
  have B := hb cdv A outer s H E hr ⟨Fz (Hid none T) H, none, T⟩ _ rfl tk
  obtain ⟨R, ef⟩ := Rel.entry (K := K) (N := N) (vs := vs) (io := none) (ρ := ds.map Sl.sh) (m := N.length - n) hT (by rw [List.length_map, hl]; omega) (by rw [List.length_map]; exact ra.length) (fun a e => nomatch e)
    (fun i d e => by rw [List.getElem?_map] at e; cases h : ds[i]? <;> rw [h] at e <;> cases e)
    (fun i d v e ev => by
      rw [List.getElem?_map] at e
      obtain ⟨d', e1, e2⟩ := ra.get ev
      rw [e1] at e; cases e
      exact e2)
    (fun i ns e => by rw [List.getElem?_map] at e; cases h : ds[i]? <;> rw [h] at e <;> cases e) (fun i v e => by rw [List.getElem?_map] at e; cases h : ds[i]? <;> rw [h] at e <;> cases e)
  refine ⟨_, B.run, _, R, B.mo _ _ _ ?_ q⟩
  refine ⟨fun ρ q σ' H' R' => ?_, fun r ρ q v σ' H' h => q.2 v H' (ret_ok h (nb_val q.1) none (fun a e => nomatch e)), fun _ q => q.elim, fun _ q => q.elim, fun x ρ q cls d σ' H' R' er => ?_⟩
  · exact q .non H' (ret_ok (c := ⟨Fz (Hid none T) H, none, T⟩) (r := .vl .none) (res_none R') ⟨_, rfl⟩ none (fun a e => nomatch e))
  · have lf : Le (Fr T ρ σ' H') (Fz (Hid none T) H') := fz_mono (fun a _ h => by
      rcases h with h | h
      · cases h
      · exact .inr h) Le.refl
    exact q cls d H' ⟨R'.tst, R'.base.trans lf, exR_le lf er⟩
end
section
variable {X : Cx} {c : Cf} {W : WX} {k n : Nat} {f : Addr} {fd : FuncData} {ps : List Str} {F : FP} {x : Str} {p pos : Pos} {e : Expr} {es : List Expr} {ma : MA}
def sCallPX (n : Nat) (F : FP) (ma : MA) : ME := fun ρ Q X => ma ρ (fun rs ρ' => ∃ ds, vals rs = some ds ∧ ds.length = n ∧ F ds (fun r _ => Q r ρ') (fun x _ => X x ρ')) X
theorem mono_callPX {ma : MA} (hF : MonoF F) (h : Mono ma) : Mono (sCallPX n F ma) := fun ρ Q Q' X X' hq hx q =>
  h _ _ _ _ _ (fun rs ρ' ⟨ds, e, hl, q⟩ => ⟨ds, e, hl, hF _ _ _ _ _ (fun r _ q => hq _ _ q) (fun x _ q => hx _ _ q) q⟩) hx q
theorem se_callPX (G : FnOk X.prog X.w X.K X.mg X.base (L2.CX X.prog X.w) k f fd ps (spPX X.K X.mg n F)) (hF : MonoF F) (hr : Room k X.A) (hg : Gl X x) (hm : X.mg x = some (.ref f)) (hk : PySem.W.keepIn X.K (.ref f) = true) (hb : Binds X.K fd ps []) (ha : SA X c W (e :: es) ma)
    (tk : Takes X W := by first | assumption | exact LamX.takes0)
    (hdb : (x == ("__debug__" : Str)) = false := by decide) (he : starEach (e :: es) X.env = (false, eval e X.env) :: starEach es X.env := by rfl) (hpl : (backTo pos (starEach es X.env)).any (·.1) = false := by rfl) :
    SE X c W (.Call (.Name x p) (e :: es) [] pos) (sCallPX n F ma) := by
  refine se_of (pe_callS (E := WE W) G hr hg hm hk hb (passAt tk) ha.run hdb he hpl) (mono_callPX hF ha.mo) fun σ H Q ⟨T, ρ, R, q⟩ => ?_
  refine ⟨T, ρ, R, ha.mo _ _ _ _ _ (fun rs ρ1 q vs H1 hA => ?_) (fun _ _ h => h) q⟩
  obtain ⟨ds, e1, hl, q⟩ := q
  obtain ⟨R1, l1, o1⟩ := hA
  obtain ⟨L, tL, hT, hL⟩ := R1.hidden (fun _ => True)
  have ep := hid_prot hL
  refine ⟨ds, L, tL, ?_, hl, ?_⟩
  · rw [ep]; exact Opr.rps o1 e1
  · refine hF _ _ _ _ _ (fun r d' q v H' h => q v H' ?_) (fun x _ q cls d H' h => ?_) q
    · obtain ⟨t1, l2, er⟩ := h
      rw [ep] at l2 er
      have rr := ret_caller (r := .vl .none) (v := .non) (d' := none) R1 tL hT hL ⟨t1, by rw [ep]; exact l2, .non, fun a e => nomatch e⟩
      exact q cls d H' rr.1 (l1.trans l2) er
    · rw [ep] at h
      exact (ret_caller R1 tL hT hL h).le l1
/-! ### raise X() -/
theorem pmk_own0 {X : Cx} {C : Addr} {bmB : List Value} {B newId initId : String} {x : Str} {p pos : Pos} (F : ExcBaseFacts B newId initId bmB) (q : PySem.W.excIn X.K C bmB newId = true) (gC : X.mg x = some (.ref C)) (kC : PySem.W.keepIn X.K (.ref C) = true) (r : Raises X (.ref C)) (hg : Gl X x)
    (hdb : (x == ("__debug__" : Str)) = false := by decide) : PMk X (.Call (.Name x p) [] [] pos) (fun _ H Q => Q (.ref C) none H) := by
  intro pins s σ H Q I h
  refine wpAny_Call_Name_kw (ld_glob I hg gC ?_ hdb)
  refine PySem.W.callWith_K0 I.kIn kC ?_
  obtain ⟨bm, N, nm, qn, bs, hdct, sn, sub, ab, col, dd, k0, k1, k2, k3, k5, mN, hC, hN, hni, T⟩ := exc_obj I.kIn q
  refine wpAny_call_exc_subT F T hC hN hni (fun h' e hm => ?_) (by rw [sizeLine_eq]; simp)
  exact mk_of I hm r h (I.hok.gone hm.new)
def sRaise0 (x : Str) : MS := fun ρ k => k.ex ⟨x, []⟩ ρ
theorem monoS_raise0 {x : Str} : MonoS (sRaise0 x) := fun _ _ _ l h => l.ex _ _ h
theorem ss_raise0 {C : Addr} {bmB : List Value} {B newId initId : String} {p2 : Pos} (hc : X.calm = true) (F : ExcBaseFacts B newId initId bmB) (q : PySem.W.excIn X.K C bmB newId = true) (gC : X.mg x = some (.ref C)) (kC : PySem.W.keepIn X.K (.ref C) = true) (r : Raises X (.ref C)) (hg : Gl X x)
    (tk : Takes X W := by assumption) (hdb : (x == ("__debug__" : Str)) = false := by decide) : SS X c W (.Raise (some (.Call (.Name x p) [] [] p2)) none pos) (sRaise0 x) := by
  refine ss_of (ps_raise hc tk (pmk_own0 F q gC kC r hg hdb)) monoS_raise0 fun D σ H ⟨ρ, R, h⟩ => ?_
  exact h (.ref C) none σ H R ⟨C, gC, rfl, .inl ⟨rfl, rfl⟩⟩
end
end VL

set_option Elab.async false
set_option linter.all false
set_option maxRecDepth 100000
set_option maxHeartbeats 4000000
/-! VL35: word(lambda: e), word a def that calls what it got and tells what came of it. -/
namespace VL
open PySem PySem.Spec PyProof.Rows L2 LamX
section
variable {K : PySem.W.Frag} {c : Cf} {T : List (Addr × HO)} {ρ : Env} {σ : L2.St} {H H1 : Hp}
theorem Rel.growN (R : Rel K c T ρ σ H) (e : ExtN H H1) (ht : ∀ P q t, (P, HO.tbl #[.str q t]) ∈ T → TabS H1 P q) : Rel K c T ρ σ H1 where
  len := R.len
  inj := R.inj
  dis := R.dis
  tst := fun a o h => by
    rcases R.tst a o h with ⟨q, t, e1, _⟩ | ⟨e1, m⟩
    · subst e1
      exact .inl ⟨q, t, rfl, ht _ _ _ h⟩
    · exact .inr ⟨e _ _ e1 m.1, m⟩
  sl := fun i s es => (R.sl i s es).le (fz_monoN (fun _ _ h => h) e) fun d ed a ea => by
    subst ed
    obtain ⟨w, ew, m⟩ := R.owned ⟨⟨d, es⟩, ea⟩
    rw [ew, e _ _ ew m.1]
  base := R.base.trans (fz_monoN (fun _ _ h => h) e)
  io := R.io
  t0 := R.t0
/-- the tables that the entry tells of -/
structure TabC (c : Cf) (Tt : List (Addr × Str)) : Prop where
  mem : ∀ p : Addr × HO, IsTb p.2 → p ∈ c.T0 → ∃ q t, p.2 = .tbl #[.str q t] ∧ (p.1, q) ∈ Tt
  has : ∀ p, p ∈ Tt → ∃ t, (p.1, HO.tbl #[.str p.2 t]) ∈ c.T0
theorem TabC.tabs {Tt : List (Addr × Str)} (C : TabC c Tt) (R : Rel K c T ρ σ H) : Tabs Tt H := fun p hp => by
  obtain ⟨t, h⟩ := C.has p hp
  rcases R.tst _ _ ((R.t0 _ ⟨_, rfl⟩).mpr h) with ⟨q, t', e, h⟩ | ⟨_, m⟩
  · cases e
    exact h
  · exact absurd rfl (m.1 _)
theorem TabC.grow {Tt : List (Addr × Str)} (C : TabC c Tt) (R : Rel K c T ρ σ H) (e : ExtN H H1) (h : Tabs Tt H1) : Rel K c T ρ σ H1 := R.growN e fun P q t hm => by
  obtain ⟨q', t', e1, h1⟩ := C.mem _ ⟨_, rfl⟩ ((R.t0 _ ⟨_, rfl⟩).mp hm)
  cases e1
  exact h _ h1
end
/-- what a word-teller makes of what came of the call: ok where nothing was raised; wd of an exception -/
def TTw (ok : Str) (wd : Value → Option Addr → Hp → VK → Prop) : (XK → Hp → VK → Prop) → Hp → VK → Prop := fun tl H Q => tl (fun cls d H' => wd cls d H' Q) H (fun _ H' => Q (.str ok) H')
/-- a datum without a heap -/
def LeafD : D → Prop
  | .str _ | .int _ | .bool _ | .none => True
  | _ => False
theorem rp_leaf {K : PySem.W.Frag} {F F2 : Hp} {v : V} {w : D} (h : LeafD w) (r : Rp K F v w) : Rp K F2 v w := by
  cases r with
  | non => exact .non
  | bl b => exact .bl b
  | int i => exact .int i
  | str x => exact .str x
  | lst _ _ => exact h.elim
  | tup _ _ => exact h.elim
  | dK _ _ => exact h.elim
/-- wd tells wf of an exception -/
def WdOk (K : PySem.W.Frag) (mg : Str → Option Value) (Tt : List (Addr × Str)) (wf : Ex → Option D) (wd : Value → Option Addr → Hp → VK → Prop) : Prop :=
  ∀ (x : Ex) (w : D) (cls : Value) (d : Option Addr) (F H : Hp) (Q : VK), Le F H → ExR K mg F x cls d → Tabs Tt H → wf x = some w → (∀ v H', ExtN H H' → Tabs Tt H' → LeafD w → Rp K (fun _ => none) v w → Q v H') → wd cls d H Q
def sLam (ok : Str) (wf : Ex → Option D) (mb : ME) : ME := fun ρ Q _ => mb ρ (fun _ ρ' => Q (.vl (.str ok)) ρ') (fun x ρ' => ∃ w, wf x = some w ∧ Q (.vl w) ρ')
theorem mono_lam {ok : Str} {wf : Ex → Option D} {mb : ME} (h : Mono mb) : Mono (sLam ok wf mb) := fun ρ Q Q' X X' hq hx q => h _ _ _ _ _ (fun _ _ q => hq _ _ q) (fun _ _ ⟨w, e, q⟩ => ⟨w, e, hq _ _ q⟩) q
section
variable {X : Cx} {c : Cf} {W : WX}
theorem se_lam {Tt : List (Addr × Str)} {ok : Str} {wf : Ex → Option D} {wd : Value → Option Addr → Hp → VK → Prop} {mb : ME} {x a : Str} {g cc P : Addr} {k : Nat} {pg : Arguments} {bg : List Stmt} {sg : Scope} {dV kV doc pm cdv ct oc : Value} {an od : Option Addr} {osl : Array (Option Value)} {Ng : List Str}
    {params : Arguments} {body : Expr} {scope : Scope} {p lpos pos : Pos} (C : TabC c Tt) (hw : WdOk X.K X.mg Tt wf wd) (hg : Gl X x) (hm : X.mg x = some (.ref g)) (hk : PySem.W.keepIn X.K (.ref g) = true)
    (lk : X.K.lookup g = some ⟨oc, od, .func (PySem.W.fnOf x x pg bg sg dV kV doc pm an cdv ct), osl⟩) (hcg : PySem.W.codeIn X.K cdv x = true) (hb : L2.Binds X.K (PySem.W.fnOf x x pg bg sg dV kV doc pm an cdv ct) [a] []) (Sg : FnScope Ng [a] sg) (hNg : Ng[0]? = some a) (hva : Vis sg a)
    (hG : GivesTo X Ng x sg g cdv bg a (X.env.qual ++ "<lambda>") (TTw ok wd))
    (TB : TabB X.base X.mg cc P) (hcode : X.env.code = .ref cc) (hmT : (P, X.env.qual ++ "<lambda>") ∈ Tt) (hu : ∀ p ∈ Tt, p.1 = P → p.2 = X.env.qual ++ "<lambda>") (hr : Room (k + 2) X.A) (L : LamS X.env.scope scope) (hdef : defaultsOf params X.env = ([], []))
    (hbind : ∀ (q : Str) (cl : List (Str × Addr)) (pm cv ctv : Value), bindArgs (PySem.W.kla_fn "<lambda>" q params body scope cl pm cv ctv) ⟨[], []⟩ = pure []) (mo : Mono mb)
    (hbody : ∀ (A : Around) (outer : List PySem.Env) (s : Shared) (H : Hp) (E : XK) (f c' : Addr), Room k (A.deeper (lamEnv X scope s.heap.objs.size f c')) → ∀ W, Takes (lamCx X A outer s H E scope f c') W → SE (lamCx X A outer s H E scope f c') c W body mb)
    (hdb : (x == ("__debug__" : Str)) = false := by decide) (hd : (a == ("__debug__" : Str)) = false := by decide) (hcd : (a == ("__classdict__" : Str)) = false := by decide) :
    SE X c W (.Call (.Name x p) [.Lambda params body scope lpos] [] pos) (sLam ok wf mb) := by
  refine se_of (pe_lamcall (t := fun E => rdE X.K X.mg c (fun cls d _ H => E cls d H) mb) hg hm hk lk hcg hb Sg hNg hva hG TB hcode hmT hu hr L hdef hbind (fun A outer s H E f c' hr' => (hbody A outer s H E f c' hr' _ (takes_of rfl rfl rfl rfl)).run) hdb hd hcd) (mono_lam mo) fun σ H Q ⟨T, ρ, R, q⟩ => ?_
  refine ⟨C.tabs R, fun H1 eN hT => ?_⟩
  have R1 := C.grow R eN hT
  have l1 : Le (Fr T ρ σ H) (Fr T ρ σ H1) := fz_monoN (fun _ _ h => h) eN
  refine ⟨T, ρ, R1, mo _ _ _ _ _ (fun r ρ' q v H' hr' => ?_) (fun x ρ' ⟨w, ew, q⟩ cls d H' R' l' er => ?_) q⟩
  · obtain ⟨R2, l2, _⟩ := hr'.opr
    exact q _ H' ⟨R2, l1.trans l2, .str _⟩
  · refine hw x w cls d _ H' Q fz_le er (C.tabs R') ew fun v H2 e2 h2 lw rp => ?_
    have l2 : Le (Fr T ρ' σ H') (Fr T ρ' σ H2) := fz_monoN (fun _ _ h => h) e2
    exact q v H2 ⟨C.grow R' e2 h2, l1.trans (l'.trans l2), rp_leaf lw rp⟩
end
end VL

set_option Elab.async false
set_option linter.all false
set_option maxRecDepth 100000
set_option maxHeartbeats 4000000
/-! VL36: the def that calls what it got and tells what came of it: word = ok; try: call() except C as e: .. ; return word. -/
namespace VL
open PySem PySem.Spec PyProof.Rows L2 LamX
section
variable {X : Cx}
/-- the wish, where the slots have their length -/
theorem takes_len {Z : Cx} {W : WX} (tk : Takes Z W) : Takes Z (fun cls d σ H => σ.length = Z.N.length → W cls d σ H) := fun u s' ⟨a, B, sI, pins, σ, H, cls, d, e, I, nb, up, sky, na, os, ag, w⟩ =>
  tk u s' ⟨a, B, sI, pins, σ, H, cls, d, e, I, nb, up, sky, na, os, ag, w I.len⟩
/-- what the word-teller makes of an exception -/
def wdA (K : PySem.W.Frag) (CS : Addr) (n i j : Nat) (ts : Addr → Value → Option Addr → TS) : Value → Option Addr → Hp → VK → Prop := fun cls d H Q =>
  PySem.W.exmOne K cls (.ref CS) = some true ∧ ∀ (a : Addr) (σ : L2.St), σ.length = n → H a = none → ts a cls d { nx := fun σ' H' => ∃ v, (σ'.set i none)[j]? = some (some v) ∧ Q v H', rt := Q } (σ.set i (some (.ref a))) H
theorem word_gives {Ng : List Str} {x a q ok ec en : Str} {sg : Scope} {g CS : Addr} {cdg : Value} {i j : Nat} {pre post b₀ : Stmt} {suite : List Stmt} {ts : Addr → Value → Option Addr → TS} {p1 p2 p3 np pos' pos8 : Pos}
    (hj : ∀ f : Addr, j < (L2.start Ng [V.ref f]).length ∧ 0 ≠ j) (hij : i ≠ j) (hNd : Ng.Nodup) (hi : Ng[i]? = some en) (hge : sg.names.lookup ec = some .globalImplicit) (hme : X.mg ec = some (.ref CS)) (hde : (ec == ("__debug__" : Str)) = false)
    (h0 : ∀ f : Addr, (L2.start Ng [V.ref f])[0]? = some (some (V.ref f)))
    (hln : ∀ s H, (cxOf C8.CX0 X.prog X.w X.K X.mg X.base Ng x sg g cdg X.A X.stack s H C8.E0).nox.env.kindOf en = some .local)
    (hpre : ∀ s H, PS (cxOf C8.CX0 X.prog X.w X.K X.mg X.base Ng x sg g cdg X.A X.stack s H C8.E0).nox pre (fun D σ H => D.nx (σ.set j (some (.str ok))) H))
    (hpost : ∀ s H, PS (cxOf C8.CX0 X.prog X.w X.K X.mg X.base Ng x sg g cdg X.A X.stack s H C8.E0).nox post (fun D σ H => ∃ v, σ[j]? = some (some v) ∧ D.rt v H))
    (hsu : ∀ s H (a : Addr) (oe : Obj) (cls : Value) (d : Option Addr) (pn : List (Addr × Obj)), Zc cls d oe → (∃ vs, oe.data = .fields vs) → PSs ((cxOf C8.CX0 X.prog X.w X.K X.mg X.base Ng x sg g cdg X.A X.stack s H C8.E0).nox.suite a ((a, oe) :: pn)) (b₀ :: suite) (ts a cls d)) :
    GivesTo X Ng x sg g cdg [pre, .Try [.Expr (.Call (.Name a p1) [] [] p2) p3] [.ExceptHandler (some (.Name ec np)) (some en) (b₀ :: suite) pos'] [] [] pos8, post] a q (TTw ok (wdA X.K CS Ng.length i j ts)) := by
  intro f c' s H Q tl act hc h
  have hgl : Gl (cxOf C8.CX0 X.prog X.w X.K X.mg X.base Ng x sg g cdg X.A X.stack s H C8.E0).nox ec := hge
  refine ⟨_, pss_cons (hpre s H) (pss_cons (ps_try_as (X := (cxOf C8.CX0 X.prog X.w X.K X.mg X.base Ng x sg g cdg X.A X.stack s H C8.E0).nox) (c := .ref CS)
      (tb := fun W D σ H => ∃ Ech : XK, (∀ cls d σ' H', Ech cls d H' → σ'.length = Ng.length → W cls d σ' H') ∧ σ[0]? = some (some (.ref f)) ∧ H c' = some (CodeO c' q) ∧ tl Ech H fun _ H' => D.nx σ H')
      rfl rfl hNd hi (hln s H) ⟨hgl, hde, .inl hme⟩ LamX.takes0 (fun W pn xe tk _ => ?_) (hsu s H)) (pss_one (hpost s H))), ?_⟩
  · refine ⟨fun pins s' σ H' D I h' => ?_⟩
    obtain ⟨Ech, hW, h1, h2, h3⟩ := h'
    have hp := act _ pn xe Ech p1 p2 (takes_len tk) (fun cls d σ' H' e => hW cls d σ' H' e)
    have hq := pss_one (ps_expr (pos := p3) hp)
    exact hq.run pins s' σ H' D I ⟨h1, h2, h3⟩
  · have e1 : ((L2.start Ng [V.ref f]).set j (some (V.str ok)))[j]? = some (some (V.str ok)) := List.getElem?_set_self (hj f).1
    refine ⟨fun cls d H' => wdA X.K CS Ng.length i j ts cls d H' Q, fun cls d σ' H' hw hl => ?_, ?_, hc, ?_⟩
    · exact ⟨true, hw.1, fun _ a' ha' => hw.2 a' σ' hl ha', fun z => nomatch z⟩
    · rw [List.getElem?_set_ne (hj f).2.symm]
      exact h0 f
    · have e2 : (fun (_ : V) (H' : Hp) => ∃ v, ((L2.start Ng [V.ref f]).set j (some (V.str ok)))[j]? = some (some v) ∧ Q v H') = fun _ H' => Q (.str ok) H' := funext fun _ => funext fun H' => propext ⟨fun ⟨v, e, q⟩ => by
        rw [e1] at e
        cases e
        exact q, fun q => ⟨_, e1, q⟩⟩
      show tl _ H (fun (_ : V) (H' : Hp) => ∃ v, ((L2.start Ng [V.ref f]).set j (some (V.str ok)))[j]? = some (some v) ∧ Q v H')
      rw [e2]
      exact h
end
end VL

set_option Elab.async false
set_option linter.all false
set_option maxRecDepth 100000
set_option maxHeartbeats 4000000
/-! VL37: the suite of the word-teller: isinstance(e, C); from its meaning to WdOk. -/
namespace VL
open PySem PySem.Spec PyProof.Rows L2 LamX
/-- the wish of a suite: no exception leaves it -/
abbrev W00 : WX := fun _ _ _ _ => False
def tsOf (K : PySem.W.Frag) (mg : Str → Option Value) (m : MS) : TS := fun D σ H => ∃ c : Cf, c.io = none ∧ rdS K mg c W00 m D σ H
theorem suite_ts {Z : Cx} {sts : List Stmt} {m : MS} (h : ∀ c : Cf, c.io = none → SSs Z c W00 sts m) : PSs Z sts (tsOf Z.K Z.mg m) := ⟨fun pins s σ H D I ⟨c, h0, q⟩ => (h c h0).run.run pins s σ H D I q⟩
/-- whether an instance of cls is one of x -/
noncomputable def iscK (K : PySem.W.Frag) (mg : Str → Option Value) (cls : Value) (x : Str) : Option Bool := by
  classical exact match cls, mg x with
    | .ref D, some (.ref C) => if ExcC K D then PySem.W.kitOne K (.ref D) (.ref C) else none
    | _, _ => none
theorem iscK_some {K : PySem.W.Frag} {mg : Str → Option Value} {cls : Value} {x : Str} {b : Bool} (h : iscK K mg cls x = some b) : ∃ D C, cls = .ref D ∧ mg x = some (.ref C) ∧ ExcC K D ∧ PySem.W.kitOne K (.ref D) (.ref C) = some b := by
  unfold iscK at h
  split at h
  · rename_i D C e
    split at h
    · rename_i hc
      exact ⟨D, C, rfl, e, hc, h⟩
    · cases h
  · cases h
def sIsE (i : Nat) (a : Addr) (isc : Str → Option Bool) (x : Str) : ME := fun ρ Q _ => ρ[i]? = some (.rf (.ref a)) ∧ ∃ b, isc x = some b ∧ Q (.vl (.bool b)) ρ
theorem mono_isE {i : Nat} {a : Addr} {isc : Str → Option Bool} {x : Str} : Mono (sIsE i a isc x) := fun ρ Q Q' X X' hq hx ⟨e, b, e2, q⟩ => ⟨e, b, e2, hq _ _ q⟩
section
variable {Z : Cx} {c : Cf} {W : WX} {a : Addr} {oe : Obj} {cls : Value} {d : Option Addr} {pn : List (Addr × Obj)} {i : Nat} {en x : Str} {p p2 p3 pos : Pos}
theorem se_isE (hz : Zc cls none oe) (hf : ∃ vs, oe.data = .fields vs) (hN : Z.N[i]? = some en) (hv : Vis Z.env.scope en) (hg : Gl Z "isinstance") (hm : Z.mg "isinstance" = none) (hgx : Gl Z x)
    (hd : (en == ("__debug__" : Str)) = false := by decide) (hcd : (en == ("__classdict__" : Str)) = false := by decide) (hdx : (x == ("__debug__" : Str)) = false := by decide)
    (he : starEach [.Name en p2, .Name x p3] Z.env = (false, eval (.Name en p2) Z.env) :: starEach [.Name x p3] Z.env := by rfl) (he2 : starEach [.Name x p3] Z.env = (false, eval (.Name x p3) Z.env) :: starEach [] Z.env := by rfl)
    (hpl : (backTo pos (starEach [.Name x p3] Z.env)).any (·.1) = false := by rfl) :
    SE (Z.suite a ((a, oe) :: pn)) c W (.Call (.Name "isinstance" p) [.Name en p2, .Name x p3] [] pos) (sIsE i a (iscK Z.K Z.mg cls) x) := by
  have pc : PE (Z.suite a ((a, oe) :: pn)) (.Call (.Name "isinstance" p) [.Name en p2, .Name x p3] [] pos) (fun σ H Q => σ[i]? = some (some (.ref a)) ∧ ∃ b, iscK Z.K Z.mg cls x = some b ∧ Q (.bl b) H) := by
    refine ⟨fun pins s σ H Q I h => ?_⟩
    obtain ⟨e1, b, e2, q⟩ := h
    obtain ⟨D, C, rfl, hmx, hC, hk⟩ := iscK_some e2
    have hx : PE (Z.suite a ((a, oe) :: pn)) (.Name x p3) (fun _ H Q => Q (.ref C) H) := pe_glob hgx hmx rfl hdx
    exact (pe_callB (call_isE hC hz hf) hg hm PyProof.Rows.boot_isinstance (pa_cons (pe_var hN hv hd hcd) (pa_cons hx pa_nil he2) he) (by decide) (by decide) he hpl).run pins s σ H Q I ⟨_, e1, _, .ref C, b, rfl, fun u r => r, hk, q⟩
  refine se_of pc mono_isE fun σ H Q ⟨T, ρ, R, e, b, e2, q⟩ => ?_
  exact ⟨R.sl i _ e, b, e2, q _ _ (res_vl R (.bl b))⟩
end
/-- the suite's reading, of an exception without fields -/
def ts0 (K : PySem.W.Frag) (mg : Str → Option Value) (mh : Addr → Value → MS) : Addr → Value → Option Addr → TS := fun a cls d D σ H => d = none ∧ tsOf K mg (mh a cls) D σ H
theorem suite_ts0 {Z : Cx} {sts : List Stmt} {mh : Addr → Value → MS} {a : Addr} {oe : Obj} {cls : Value} {d : Option Addr} {pn : List (Addr × Obj)} (hz : Zc cls d oe)
    (h : Zc cls none oe → ∀ c : Cf, c.io = none → SSs (Z.suite a ((a, oe) :: pn)) c W00 sts (mh a cls)) : PSs (Z.suite a ((a, oe) :: pn)) sts (ts0 Z.K Z.mg mh a cls d) := ⟨fun pins s σ H D I ⟨e, c, h0, q⟩ => by
  subst e
  exact (h hz c h0).run.run pins s σ H D I q⟩
def rho0 (n i : Nat) (a : Addr) : Env := (List.replicate n Sl.no).set i (.rf (.ref a))
theorem wdOk_of {K : PySem.W.Frag} {mg : Str → Option Value} {Tt : List (Addr × Str)} {wf : Ex → Option D} {CS : Addr} {n i j : Nat} {mh : Addr → Value → MS} (hi : i < n) (hij : i ≠ j)
    (hex : ∀ (x : Ex) (w : D) (cls : Value), wf x = some w → mg x.cls = some cls → x.fs = [] ∧ LeafD w ∧ PySem.W.exmOne K cls (.ref CS) = some true)
    (hp : ∀ (x : Ex) (w : D) (cls : Value) (a : Addr) (k : Ks), wf x = some w → mg x.cls = some cls → (∀ ρ', ρ'[j]? = some (.sh w) → k.nx ρ') → mh a cls (rho0 n i a) k) :
    WdOk K mg Tt wf (wdA K CS n i j (ts0 K mg mh)) := by
  intro x w cls d F H Q hF er hT ew hq
  obtain ⟨C, hC, rfl, hd⟩ := er
  obtain ⟨hfs, hw, hm⟩ := hex x w _ ew hC
  refine ⟨hm, fun a σ hl hn => ⟨?_, ?_⟩⟩
  · rcases hd with ⟨hd, _⟩ | ⟨dd, fs, _, z, _⟩
    · exact hd
    · exact absurd hfs z
  · have tL : TOk (Tt.map fun p => (p.1, HO.tbl #[.str p.2 0])) H := fun b o hb => by
      obtain ⟨p, hp, e⟩ := List.mem_map.mp hb
      cases e
      exact .inl ⟨_, _, rfl, hT _ hp⟩
    generalize hL : (Tt.map fun p => (p.1, HO.tbl #[.str p.2 0])) = L at tL
    have own : ∀ i' b, ¬ OwnAt (rho0 n i a) (σ.set i (some (.ref a))) i' b := fun i' b ⟨⟨d', e⟩, _⟩ => by
      unfold rho0 at e
      by_cases h : i' = i
      · subst h
        rw [List.getElem?_set_self (by simpa using hi)] at e
        cases e
      · rw [List.getElem?_set_ne (Ne.symm h)] at e
        have := List.eq_of_mem_replicate (List.mem_of_getElem? e)
        cases this
    have pr : Prot L (rho0 n i a) (σ.set i (some (.ref a))) = Hid none L := funext fun b => propext ⟨fun h => by
      rcases h with ⟨i', h⟩ | h
      · exact absurd h (own i' b)
      · exact .inr h, fun h => by
      rcases h with h | h
      · cases h
      · exact .inr h⟩
    have R : Rel K ⟨Fz (Hid none L) H, none, L⟩ L (rho0 n i a) (σ.set i (some (.ref a))) H := by
      refine ⟨by simp [rho0, hl], fun x y b hx => absurd hx (own x b), fun x b o hx => absurd hx (own x b), tL, fun i' s e => ?_, by show Le _ (Fz _ H); rw [pr]; exact Le.refl, fun b e => (nomatch e), fun _ _ => Iff.rfl⟩
      unfold rho0 at e
      by_cases h : i' = i
      · subst h
        rw [List.getElem?_set_self (by simpa using hi)] at e
        cases e
        exact List.getElem?_set_self (by rw [hl]; exact hi)
      · rw [List.getElem?_set_ne (Ne.symm h)] at e
        have := List.eq_of_mem_replicate (List.mem_of_getElem? e)
        subst this
        trivial
    refine ⟨⟨Fz (Hid none L) H, none, L⟩, rfl, _, R, hp x w _ a _ ew hC fun ρ' e σ' H' R' => ?_⟩
    obtain ⟨v, ev, rv⟩ := R'.sl j _ e
    refine ⟨v, by rw [List.getElem?_set_ne hij]; exact ev, hq v H' (fun b o hb nt => ?_) (fun p hp => ?_) hw (rp_leaf hw rv)⟩
    · have nh : ¬ Hid none L b := by
        rintro (h | ⟨u, h⟩)
        · cases h
        · rcases tL b u h with ⟨q, t, _, ps, e1, _⟩ | ⟨e1, m⟩
          · rw [hb] at e1
            exact nt _ (Option.some.inj e1)
          · rw [← hL] at h
            obtain ⟨p, _, e2⟩ := List.mem_map.mp h
            cases e2
            exact m.1 _ rfl
      exact fz_le _ _ (R'.base b o (fz_some.mpr ⟨nh, hb, nt⟩))
    · have hm2 : (p.1, HO.tbl #[.str p.2 0]) ∈ L := by rw [← hL]; exact List.mem_map.mpr ⟨p, hp, rfl⟩
      rcases R'.tst _ _ hm2 with ⟨q, t, e1, h⟩ | ⟨_, m⟩
      · cases e1
        exact h
      · exact absurd rfl (m.1 _)
end VL

set_option Elab.async false
set_option linter.all false
set_option maxRecDepth 100000
set_option maxHeartbeats 4000000
/-! VL38: in the context that lets exceptions out: defs that change their first argument, defs that are handed the script (neither raises); their calls; isinstance(e, B), B a built-in class. -/
namespace VL
open PySem PySem.Spec PyProof.Rows L2
def spIX (K : PySem.W.Frag) (n : Nat) (F : FP) : Sp := fun vs H Q E => ∃ a ws d0 ds T, vs = .ref a :: ws ∧ TOk T H ∧ (∀ u, (a, u) ∉ T) ∧ Ob K (Fz (Hid (some a) T) H) (H a) d0 ∧ RpA K (Fz (Hid (some a) T) H) ws ds ∧ (d0 :: ds).length = n ∧
  F (d0 :: ds) (fun r d' => ∀ v H', RetOk K (some a) T (Fz (Hid (some a) T) H) H' r v d' → Q v H') (fun _ _ => False)
/-- a def handed the script: it lets nothing out -/
def wpScX (N : Nat) (m : MS) : List Int → (Rs → Prop) → Prop := fun ns Q => m (.sc ns :: List.replicate (N - 1) .no) ⟨fun _ => Q (.vl .none), fun r _ => nb r ∧ Q r, fun _ => False, fun _ => False, fun _ _ => False⟩
theorem monoScX {N : Nat} {m : MS} (h : MonoS m) : ∀ ns (k k' : Rs → Prop), (∀ r, k r → k' r) → wpScX N m ns k → wpScX N m ns k' := fun ns k k' hk q => by
  refine h _ _ _ ?_ q
  exact ⟨fun _ q => hk _ q, fun r _ q => ⟨q.1, hk _ q.2⟩, fun _ q => q, fun _ q => q, fun _ _ q => q⟩
section
variable {P : Program} {w : World} {K : PySem.W.Frag} {mg : Str → Option Value} {base : Heap} {x qual : Str} {st : Stmt} {f : Addr} {fd : FuncData} {N ps : List Str} {k n : Nat} {m : MS}
/-- the body's derivation; io: whether its first argument is handed in to be changed; T: what its caller hides -/
def BodyXT (P : Program) (w : World) (K : PySem.W.Frag) (mg : Str → Option Value) (base : Heap) (qual : Str) (st : Stmt) (f : Addr) (N : List Str) (k : Nat) (io : Bool) (ok : Cf → Prop) (m : MS) : Prop :=
  ∀ (cdv : Value) (A : Around) (outer : List PySem.Env) (s : Shared) (H : Hp) (E : XK), Room k (A.deeper (envOfC qual (defScope st) s.heap.objs.size f cdv)) → ∀ (c : Cf) (W : WX), (io = false → c.io = none) → ok c → Takes (cxOf (L2.CX P w) P w K mg base N qual (defScope st) f cdv A outer s H E) W →
    SSs (cxOf (L2.CX P w) P w K mg base N qual (defScope st) f cdv A outer s H E) c W (defBody st) m
theorem fn_IX (F : L2.Fun K x qual st f fd) (S : FnScope N ps (defScope st)) (hn : ps.length = n) (hN : n ≤ N.length) (hb : BodyXT P w K mg base qual st f N k true (fun _ => True) m) :
    FnOk P w K mg base (L2.CX P w) (k + 1) f fd ps (spIX K n (wpI n N.length m)) := by
  refine F.okX S (fun vs H Q E h => ?_) (fun cdv A outer s H vs Q E hr h => ?_)
  · obtain ⟨a, ws, d0, ds, T, rfl, _, _, _, r, hl, _⟩ := h
    rw [List.length_cons, r.length, hn, ← hl, List.length_cons]
  obtain ⟨a, ws, d0, ds, T, rfl, hT, ha, ob, ra, hl, d1, ds1, e1, _, q⟩ := h
  cases e1
  have tk : Takes (cxOf (L2.CX P w) P w K mg base N qual (defScope st) f cdv A outer s H E) (fun cls d _ H => E cls d H) := takes_of rfl rfl rfl rfl
  have B := hb cdv A outer s H E hr ⟨Fz (Hid (some a) T) H, some a, T⟩ _ (fun z => nomatch z) trivial tk
  have atS : ∀ {i : Nat} {s : Sl}, (Sl.ow d0 :: ds.map Sl.sh)[i]? = some s → (i = 0 ∧ s = .ow d0) ∨ ∃ j d, i = j + 1 ∧ ds[j]? = some d ∧ s = .sh d := fun {i s} e => by
    cases i with
    | zero => exact .inl ⟨rfl, by simpa using e.symm⟩
    | succ j =>
      rw [List.getElem?_cons_succ, List.getElem?_map] at e
      cases h : ds[j]? with
      | none => rw [h] at e; cases e
      | some d => rw [h] at e; cases e; exact .inr ⟨j, d, rfl, h, rfl⟩
  obtain ⟨R, ef⟩ := Rel.entry (K := K) (N := N) (vs := .ref a :: ws) (io := some a) (ρ := .ow d0 :: ds.map Sl.sh) (m := N.length - n) hT (by simp only [List.length_cons, List.length_map] at hl ⊢; omega) (by simp [ra.length]) (fun b e => by
      cases e
      exact ⟨ha, ⟨d0, rfl⟩, rfl⟩)
    (fun i d e => by
      rcases atS e with ⟨h, e⟩ | ⟨j, d', _, _, e⟩
      · cases e; exact ⟨h, a, rfl, ob⟩
      · cases e)
    (fun i d v e ev => by
      rcases atS e with ⟨h, e⟩ | ⟨j, d', h, e1, e⟩
      · cases e
      · cases e
        subst h
        obtain ⟨d2, e2, e3⟩ := ra.get (i := j) (by simpa using ev)
        rw [e1] at e2; cases e2
        exact e3)
    (fun i ns e => by
      rcases atS e with ⟨h, e⟩ | ⟨j, d', h, e1, e⟩ <;> cases e) (fun i v e => by
      rcases atS e with ⟨h, e⟩ | ⟨j, d', h, e1, e⟩ <;> cases e)
  refine ⟨_, B.run, _, R, B.mo _ _ _ ?_ q⟩
  refine ⟨fun ρ q σ' H' R' => ?_, fun r ρ q v σ' H' h => ?_, fun _ q => q.elim, fun _ q => q.elim, fun x ρ q cls d σ' H' _ _ => ?_⟩
  · obtain ⟨d, e, q⟩ := q
    exact q .non H' (ret_ok (c := ⟨Fz (Hid (some a) T) H, some a, T⟩) (r := .vl .none) (res_none R') ⟨_, rfl⟩ (some d) (fun b _ => ⟨d, e, rfl⟩))
  · obtain ⟨h1, d, e, q⟩ := q
    exact q v H' (ret_ok h (nb_val h1) (some d) (fun b _ => ⟨d, e, rfl⟩))
  · obtain ⟨_, _, z⟩ := q
    exact z.elim
/-- .. handed the script; Tm: the markers that the callers must hide -/
def spSX (K : PySem.W.Frag) (Tm : List (Addr × HO)) (F : List Int → (Rs → Prop) → Prop) : Sp := fun vs H Q E => ∃ a ns T, vs = [.ref a] ∧ TOk T H ∧ (∀ p : Addr × HO, IsTb p.2 → (p ∈ T ↔ p ∈ Tm)) ∧ SqL K (Fz (Hid none T) H) a (ns.map V.int) ∧ F ns (fun r => ∀ v H', RetOk K none T (Fz (Hid none T) H) H' r v none → Q v H')
theorem fn_SX {Tm : List (Addr × HO)} (F : L2.Fun K x qual st f fd) (S : FnScope N ps (defScope st)) (hn : ps.length = 1) (hN : 1 ≤ N.length) (hb : BodyXT P w K mg base qual st f N k false (fun c => ∀ p : Addr × HO, IsTb p.2 → (p ∈ c.T0 ↔ p ∈ Tm)) m) :
    FnOk P w K mg base (L2.CX P w) (k + 1) f fd ps (spSX K Tm (wpScX N.length m)) := by
  refine F.okX S (fun vs H Q E h => ?_) (fun cdv A outer s H vs Q E hr h => ?_)
  · obtain ⟨a, ns, T, rfl, _⟩ := h
    rw [hn]; rfl
  obtain ⟨a, ns, T, rfl, hT, hm, hs, q⟩ := h
  have tk : Takes (cxOf (L2.CX P w) P w K mg base N qual (defScope st) f cdv A outer s H E) (fun cls d _ H => E cls d H) := takes_of rfl rfl rfl rfl
  have B := hb cdv A outer s H E hr ⟨Fz (Hid none T) H, none, T⟩ _ (fun _ => rfl) hm tk
  have atS : ∀ {i : Nat} {s : Sl}, ([Sl.sc ns])[i]? = some s → i = 0 ∧ s = .sc ns := fun {i s} e => by
    cases i with
    | zero => exact ⟨rfl, by simpa using e.symm⟩
    | succ j => simp at e
  obtain ⟨R, ef⟩ := Rel.entry (K := K) (N := N) (vs := [.ref a]) (io := none) (ρ := [.sc ns]) (m := N.length - 1) hT (by simp only [List.length_cons, List.length_nil]; omega) rfl (fun a e => nomatch e)
    (fun i d e => by obtain ⟨_, e⟩ := atS e; cases e) (fun i d v e ev => by obtain ⟨_, e⟩ := atS e; cases e)
    (fun i ns' e => by obtain ⟨h, e⟩ := atS e; cases e; subst h; exact ⟨a, rfl, hs⟩) (fun i v e => by obtain ⟨_, e⟩ := atS e; cases e)
  refine ⟨_, B.run, _, R, B.mo _ _ _ ?_ q⟩
  refine ⟨fun ρ q σ' H' R' => ?_, fun r ρ q v σ' H' h => q.2 v H' (ret_ok h (nb_val q.1) none (fun a e => nomatch e)), fun _ q => q.elim, fun _ q => q.elim, fun x ρ q cls d σ' H' _ _ => q.elim⟩
  exact q .non H' (ret_ok (c := ⟨Fz (Hid none T) H, none, T⟩) (r := .vl .none) (res_none R') ⟨_, rfl⟩ none (fun a e => nomatch e))
end

section
variable {P : Program} {w : World} {K : PySem.W.Frag} {mg : Str → Option Value} {base : Heap} {x qual : Str} {st : Stmt} {f : Addr} {fd : FuncData} {N ps : List Str} {k n : Nat} {m : MS}
theorem fn_SX0 (F : L2.Fun K x qual st f fd) (S : FnScope N ps (defScope st)) (hn : ps.length = 1) (hN : 1 ≤ N.length) (hb : BodyXT P w K mg base qual st f N k false (fun _ => True) m) :
    FnOk P w K mg base (L2.CX P w) (k + 1) f fd ps (spS K (wpScX N.length m)) := by
  refine ⟨fun vs H Q E h => ?_, fun A outer s H args us vs Q E hr e0 hb' r h => ?_⟩
  · obtain ⟨a, ns, T, rfl, _⟩ := h
    rw [hn]; rfl
  · obtain ⟨a, ns, T, e, hT, hs, q⟩ := h
    exact (fn_SX (Tm := T) F S hn hN (fun cdv A outer s H E hr c W h1 h2 tk => hb cdv A outer s H E hr c W h1 trivial tk)).run A outer s H args us vs Q E hr e0 hb' r ⟨a, ns, T, e, hT, fun _ _ => Iff.rfl, hs, q⟩
end
section
variable {X : Cx} {c : Cf} {W : WX} {k n i : Nat} {f : Addr} {fd : FuncData} {ps : List Str} {F : FP} {x y : Str} {p p2 pos : Pos} {es : List Expr} {ma : MA}
def sCallIX (i n : Nat) (F : FP) (ma : MA) : ME := fun ρ Q _ => (∃ d0, ρ[i]? = some (.ow d0)) ∧ ma ρ (fun rs ρ' => ∃ d ds, ρ'[i]? = some (.ow d) ∧ vals rs = some ds ∧ (d :: ds).length = n ∧ F (d :: ds) (fun r d' => ∃ e, d' = some e ∧ Q r (ρ'.set i (.ow e))) (fun _ _ => False)) (fun _ _ => False)
theorem mono_callIX {ma : MA} (hF : MonoF F) (h : Mono ma) : Mono (sCallIX i n F ma) := fun ρ Q Q' X X' hq hx q =>
  ⟨q.1, h _ _ _ _ _ (fun rs ρ' ⟨d, ds, e, e2, hl, q⟩ => ⟨d, ds, e, e2, hl, hF _ _ _ _ _ (fun r d' ⟨e, ee, q⟩ => ⟨e, ee, hq _ _ q⟩) (fun _ _ z => z) q⟩) (fun _ _ z => z) q.2⟩
theorem se_callIX (G : FnOk X.prog X.w X.K X.mg X.base (L2.CX X.prog X.w) k f fd ps (spIX X.K n F)) (hF : MonoF F) (hr : Room k X.A) (hg : Gl X x) (hm : X.mg x = some (.ref f)) (hk : PySem.W.keepIn X.K (.ref f) = true) (hb : Binds X.K fd ps [])
    (hN : X.N[i]? = some y) (hv : Vis X.env.scope y) (ha : SA X c W es ma) (hdy : (y == ("__debug__" : Str)) = false := by decide) (hcy : (y == ("__classdict__" : Str)) = false := by decide)
    (hdb : (x == ("__debug__" : Str)) = false := by decide) (he : starEach (.Name y p2 :: es) X.env = (false, eval (.Name y p2) X.env) :: starEach es X.env := by rfl) (hpl : (backTo pos (starEach es X.env)).any (·.1) = false := by rfl) :
    SE X c W (.Call (.Name x p) (.Name y p2 :: es) [] pos) (sCallIX i n F ma) := by
  refine se_of (pe_call G hr hg hm hk hb .nil (passes_call LamX.takes0 (fun _ _ _ _ h => h) : Passes (L2.CX X.prog X.w) X fun _ _ _ => False) (pa_cons (pe_var hN hv hdy hcy) ha.run he) hdb he hpl) (mono_callIX hF ha.mo) fun σ H Q ⟨T, ρ, R, ⟨d0, e0⟩, q⟩ => ?_
  obtain ⟨a, ea, ob⟩ := R.sl i _ e0
  refine ⟨.ref a, ea, T, ρ, R, ha.mo _ _ _ _ _ (fun rs ρ1 q vs H1 hA => ?_) (fun _ _ z => z.elim) q⟩
  obtain ⟨d, ds, e1, e2, hl, q⟩ := q
  obtain ⟨R1, l1, o1⟩ := hA
  obtain ⟨a', ea', ob1⟩ := R1.sl i _ e1
  rw [ea] at ea'; cases ea'
  obtain ⟨L, tL, hT, hL⟩ := R1.hidden (fun j => j ≠ i)
  have ep := hid_protI e1 ea hL
  rw [List.append_nil]
  refine ⟨a, vs, d, ds, L, rfl, tL, fun u hu => ?_, by rw [ep]; exact ob1, by rw [ep]; exact Opr.rps o1 e2, hl, ?_⟩
  · rcases (hL a).mp ⟨u, hu⟩ with ⟨j, hj, h⟩ | ⟨o, h⟩
    · exact hj (R1.inj j i a h ⟨⟨d, e1⟩, ea⟩)
    · exact R1.dis i a o ⟨⟨d, e1⟩, ea⟩ h
  · refine hF _ _ _ _ _ (fun r d' q v H' h => ?_) (fun _ _ z => z) q
    obtain ⟨e, ee, q⟩ := q
    rw [ep] at h
    obtain ⟨e2, ee2, hres⟩ := ret_callerI R1 e1 ea tL hT hL h
    rw [ee] at ee2; cases ee2
    exact q v H' (hres.le l1)
/-- f(script) -/
theorem se_callSX {F : List Int → (Rs → Prop) → Prop} (G : FnOk X.prog X.w X.K X.mg X.base (L2.CX X.prog X.w) k f fd ps (spS X.K F)) (hF : ∀ ns (k k' : Rs → Prop), (∀ r, k r → k' r) → F ns k → F ns k') (hr : Room k X.A) (hg : Gl X x) (hm : X.mg x = some (.ref f)) (hk : PySem.W.keepIn X.K (.ref f) = true) (hb : Binds X.K fd ps [])
    (hN : X.N[i]? = some y) (hv : Vis X.env.scope y) (hdy : (y == ("__debug__" : Str)) = false := by decide) (hcy : (y == ("__classdict__" : Str)) = false := by decide)
    (hdb : (x == ("__debug__" : Str)) = false := by decide) (he : starEach [.Name y p2] X.env = (false, eval (.Name y p2) X.env) :: starEach [] X.env := by rfl) (hpl : (backTo pos (starEach [] X.env)).any (·.1) = false := by rfl) :
    SE X c W (.Call (.Name x p) [.Name y p2] [] pos) (sCallS i F) := by
  refine se_of (pe_call G hr hg hm hk hb .nil (passes_call LamX.takes0 (fun _ _ _ _ h => h) : Passes (L2.CX X.prog X.w) X fun _ _ _ => False) (pa_cons (pe_var hN hv hdy hcy) pa_nil he) hdb he hpl) (mono_callS hF) fun σ H Q ⟨T, ρ, R, ns, e0, q⟩ => ?_
  obtain ⟨a, ea, hs⟩ := R.sl i _ e0
  refine ⟨.ref a, ea, ?_⟩
  obtain ⟨L, tL, hT, hL⟩ := R.hidden (fun _ => True)
  have ep := hid_prot hL
  refine ⟨a, ns, L, rfl, tL, by rw [ep]; exact hs, ?_⟩
  refine hF _ _ _ (fun r q v H' h => q v H' ?_) q
  rw [ep] at h
  exact ret_caller R tL hT hL h
end
end VL

set_option Elab.async false
set_option linter.all false
set_option maxRecDepth 100000
set_option maxHeartbeats 4000000
/-! VL39: isinstance(e, B), B a built-in class; the word-teller without a word ahead: try: call() except C as e: suite that returns; return ok. -/
namespace VL
open PySem PySem.Spec PyProof.Rows L2 LamX
noncomputable def iscB (K : PySem.W.Frag) (cls : Value) (T : String) : Option Bool := by
  classical exact match cls with
    | .ref D => if ExcC K D then PySem.W.kitOne K (.ref D) (.type T) else none
    | _ => none
theorem iscB_some {K : PySem.W.Frag} {cls : Value} {T : String} {b : Bool} (h : iscB K cls T = some b) : ∃ D, cls = .ref D ∧ ExcC K D ∧ PySem.W.kitOne K (.ref D) (.type T) = some b := by
  unfold iscB at h
  split at h
  · rename_i D
    split at h
    · rename_i hc
      exact ⟨D, rfl, hc, h⟩
    · cases h
  · cases h
def sIsEB (i : Nat) (a : Addr) (o : Option Bool) : ME := fun ρ Q _ => ρ[i]? = some (.rf (.ref a)) ∧ ∃ b, o = some b ∧ Q (.vl (.bool b)) ρ
theorem mono_isEB {i : Nat} {a : Addr} {o : Option Bool} : Mono (sIsEB i a o) := fun ρ Q Q' X X' hq hx ⟨e, b, e2, q⟩ => ⟨e, b, e2, hq _ _ q⟩
section
variable {Z : Cx} {c : Cf} {W : WX} {a : Addr} {oe : Obj} {cls : Value} {d : Option Addr} {pn : List (Addr × Obj)} {i : Nat} {en x : Str} {T : String} {p p2 p3 pos : Pos}
theorem se_isEB (hz : Zc cls none oe) (hf : ∃ vs, oe.data = .fields vs) (hN : Z.N[i]? = some en) (hv : Vis Z.env.scope en) (hg : Gl Z "isinstance") (hm : Z.mg "isinstance" = none) (hgx : Gl Z x) (hmx : Z.mg x = none) (hvx : bootBuiltins x = some (.type T))
    (hn : x ≠ "__name__" := by decide) (hd : (en == ("__debug__" : Str)) = false := by decide) (hcd : (en == ("__classdict__" : Str)) = false := by decide) (hdx : (x == ("__debug__" : Str)) = false := by decide)
    (he : starEach [.Name en p2, .Name x p3] Z.env = (false, eval (.Name en p2) Z.env) :: starEach [.Name x p3] Z.env := by rfl) (he2 : starEach [.Name x p3] Z.env = (false, eval (.Name x p3) Z.env) :: starEach [] Z.env := by rfl)
    (hpl : (backTo pos (starEach [.Name x p3] Z.env)).any (·.1) = false := by rfl) :
    SE (Z.suite a ((a, oe) :: pn)) c W (.Call (.Name "isinstance" p) [.Name en p2, .Name x p3] [] pos) (sIsEB i a (iscB Z.K cls T)) := by
  have pc : PE (Z.suite a ((a, oe) :: pn)) (.Call (.Name "isinstance" p) [.Name en p2, .Name x p3] [] pos) (fun σ H Q => σ[i]? = some (some (.ref a)) ∧ ∃ b, iscB Z.K cls T = some b ∧ Q (.bl b) H) := by
    refine ⟨fun pins s σ H Q I h => ?_⟩
    obtain ⟨e1, b, e2, q⟩ := h
    obtain ⟨D, rfl, hC, hk⟩ := iscB_some e2
    have hx : PE (Z.suite a ((a, oe) :: pn)) (.Name x p3) (fun _ H Q => Q (.ty T) H) := pe_bltn (v := .ty T) hgx hmx hvx rfl hn hdx
    exact (pe_callB (call_isE hC hz hf) hg hm PyProof.Rows.boot_isinstance (pa_cons (pe_var hN hv hd hcd) (pa_cons hx pa_nil he2) he) (by decide) (by decide) he hpl).run pins s σ H Q I ⟨_, e1, _, .type T, b, rfl, fun u r => r, hk, q⟩
  refine se_of pc mono_isEB fun σ H Q ⟨T, ρ, R, e, b, e2, q⟩ => ?_
  exact ⟨R.sl i _ e, b, e2, q _ _ (res_vl R (.bl b))⟩
end
section
variable {X : Cx}
/-- .. of the teller that returns from within: an exception -/
def wdB (K : PySem.W.Frag) (CS : Addr) (ok : Str) (n i : Nat) (ts : Addr → Value → Option Addr → TS) : Value → Option Addr → Hp → VK → Prop := fun cls d H Q =>
  PySem.W.exmOne K cls (.ref CS) = some true ∧ ∀ (a : Addr) (σ : L2.St), σ.length = n → H a = none → ts a cls d { nx := fun _ H' => Q (.str ok) H', rt := Q } (σ.set i (some (.ref a))) H
theorem word_givesB {Ng : List Str} {x a q ok ec en : Str} {sg : Scope} {g CS : Addr} {cdg : Value} {i : Nat} {post b₀ : Stmt} {suite : List Stmt} {ts : Addr → Value → Option Addr → TS} {p1 p2 p3 np pos' pos8 : Pos}
    (hNd : Ng.Nodup) (hi : Ng[i]? = some en) (hge : sg.names.lookup ec = some .globalImplicit) (hme : X.mg ec = some (.ref CS)) (hde : (ec == ("__debug__" : Str)) = false)
    (h0 : ∀ f : Addr, (L2.start Ng [V.ref f])[0]? = some (some (V.ref f)))
    (hln : ∀ s H, (cxOf C8.CX0 X.prog X.w X.K X.mg X.base Ng x sg g cdg X.A X.stack s H C8.E0).nox.env.kindOf en = some .local)
    (hpost : ∀ s H, PS (cxOf C8.CX0 X.prog X.w X.K X.mg X.base Ng x sg g cdg X.A X.stack s H C8.E0).nox post (fun D σ H => D.rt (.str ok) H))
    (hsu : ∀ s H (a : Addr) (oe : Obj) (cls : Value) (d : Option Addr) (pn : List (Addr × Obj)), Zc cls d oe → (∃ vs, oe.data = .fields vs) → PSs ((cxOf C8.CX0 X.prog X.w X.K X.mg X.base Ng x sg g cdg X.A X.stack s H C8.E0).nox.suite a ((a, oe) :: pn)) (b₀ :: suite) (ts a cls d)) :
    GivesTo X Ng x sg g cdg [.Try [.Expr (.Call (.Name a p1) [] [] p2) p3] [.ExceptHandler (some (.Name ec np)) (some en) (b₀ :: suite) pos'] [] [] pos8, post] a q (TTw ok (wdB X.K CS ok Ng.length i ts)) := by
  intro f c' s H Q tl act hc h
  have hgl : Gl (cxOf C8.CX0 X.prog X.w X.K X.mg X.base Ng x sg g cdg X.A X.stack s H C8.E0).nox ec := hge
  refine ⟨_, (pss_cons (ps_try_as (X := (cxOf C8.CX0 X.prog X.w X.K X.mg X.base Ng x sg g cdg X.A X.stack s H C8.E0).nox) (c := .ref CS)
      (tb := fun W D σ H => ∃ Ech : XK, (∀ cls d σ' H', Ech cls d H' → σ'.length = Ng.length → W cls d σ' H') ∧ σ[0]? = some (some (.ref f)) ∧ H c' = some (CodeO c' q) ∧ tl Ech H fun _ H' => D.nx σ H')
      rfl rfl hNd hi (hln s H) ⟨hgl, hde, .inl hme⟩ LamX.takes0 (fun W pn xe tk _ => ?_) (hsu s H)) (pss_one (hpost s H))), ?_⟩
  · refine ⟨fun pins s' σ H' D I h' => ?_⟩
    obtain ⟨Ech, hW, h1, h2, h3⟩ := h'
    have hp := act _ pn xe Ech p1 p2 (takes_len tk) (fun cls d σ' H' e => hW cls d σ' H' e)
    have hq := pss_one (ps_expr (pos := p3) hp)
    exact hq.run pins s' σ H' D I ⟨h1, h2, h3⟩
  · refine ⟨fun cls d H' => wdB X.K CS ok Ng.length i ts cls d H' Q, fun cls d σ' H' hw hl => ?_, h0 f, hc, h⟩
    exact ⟨true, hw.1, fun _ a' ha' => hw.2 a' σ' hl ha', fun z => nomatch z⟩
end
theorem wdOk_ofB {K : PySem.W.Frag} {mg : Str → Option Value} {Tt : List (Addr × Str)} {wf : Ex → Option D} {CS : Addr} {ok : Str} {n i : Nat} {mh : Addr → Value → MS} (hi : i < n)
    (hex : ∀ (x : Ex) (w : D) (cls : Value), wf x = some w → mg x.cls = some cls → x.fs = [] ∧ LeafD w ∧ PySem.W.exmOne K cls (.ref CS) = some true)
    (hp : ∀ (x : Ex) (w : D) (cls : Value) (a : Addr) (k : Ks), wf x = some w → mg x.cls = some cls → (∀ ρ', k.rt (.vl w) ρ') → mh a cls (rho0 n i a) k) :
    WdOk K mg Tt wf (wdB K CS ok n i (ts0 K mg mh)) := by
  intro x w cls d F H Q hF er hT ew hq
  obtain ⟨C, hC, rfl, hd⟩ := er
  obtain ⟨hfs, hw, hm⟩ := hex x w _ ew hC
  refine ⟨hm, fun a σ hl hn => ⟨?_, ?_⟩⟩
  · rcases hd with ⟨hd, _⟩ | ⟨dd, fs, _, z, _⟩
    · exact hd
    · exact absurd hfs z
  · have tL : TOk (Tt.map fun p => (p.1, HO.tbl #[.str p.2 0])) H := fun b o hb => by
      obtain ⟨p, hp, e⟩ := List.mem_map.mp hb
      cases e
      exact .inl ⟨_, _, rfl, hT _ hp⟩
    generalize hL : (Tt.map fun p => (p.1, HO.tbl #[.str p.2 0])) = L at tL
    have own : ∀ i' b, ¬ OwnAt (rho0 n i a) (σ.set i (some (.ref a))) i' b := fun i' b ⟨⟨d', e⟩, _⟩ => by
      unfold rho0 at e
      by_cases h : i' = i
      · subst h
        rw [List.getElem?_set_self (by simpa using hi)] at e
        cases e
      · rw [List.getElem?_set_ne (Ne.symm h)] at e
        have := List.eq_of_mem_replicate (List.mem_of_getElem? e)
        cases this
    have pr : Prot L (rho0 n i a) (σ.set i (some (.ref a))) = Hid none L := funext fun b => propext ⟨fun h => by
      rcases h with ⟨i', h⟩ | h
      · exact absurd h (own i' b)
      · exact .inr h, fun h => by
      rcases h with h | h
      · cases h
      · exact .inr h⟩
    have R : Rel K ⟨Fz (Hid none L) H, none, L⟩ L (rho0 n i a) (σ.set i (some (.ref a))) H := by
      refine ⟨by simp [rho0, hl], fun x y b hx => absurd hx (own x b), fun x b o hx => absurd hx (own x b), tL, fun i' s e => ?_, by show Le _ (Fz _ H); rw [pr]; exact Le.refl, fun b e => (nomatch e), fun _ _ => Iff.rfl⟩
      unfold rho0 at e
      by_cases h : i' = i
      · subst h
        rw [List.getElem?_set_self (by simpa using hi)] at e
        cases e
        exact List.getElem?_set_self (by rw [hl]; exact hi)
      · rw [List.getElem?_set_ne (Ne.symm h)] at e
        have := List.eq_of_mem_replicate (List.mem_of_getElem? e)
        subst this
        trivial
    refine ⟨⟨Fz (Hid none L) H, none, L⟩, rfl, _, R, hp x w _ a _ ew hC fun ρ' v σ' H' hr => ?_⟩
    obtain ⟨R', _, rv⟩ := hr
    refine hq v H' (fun b o hb nt => ?_) (fun p hp => ?_) hw (rp_leaf hw rv)
    · have nh : ¬ Hid none L b := by
        rintro (h | ⟨u, h⟩)
        · cases h
        · rcases tL b u h with ⟨q, t, _, ps, e1, _⟩ | ⟨e1, m⟩
          · rw [hb] at e1
            exact nt _ (Option.some.inj e1)
          · rw [← hL] at h
            obtain ⟨p, _, e2⟩ := List.mem_map.mp h
            cases e2
            exact m.1 _ rfl
      exact fz_le _ _ (R'.base b o (fz_some.mpr ⟨nh, hb, nt⟩))
    · have hm2 : (p.1, HO.tbl #[.str p.2 0]) ∈ L := by rw [← hL]; exact List.mem_map.mpr ⟨p, hp, rfl⟩
      rcases R'.tst _ _ hm2 with ⟨q, t, e1, h⟩ | ⟨_, m⟩
      · cases e1
        exact h
      · exact absurd rfl (m.1 _)
end VL

set_option Elab.async false
set_option linter.all false
set_option maxRecDepth 100000
set_option maxHeartbeats 4000000
/-! VL40: the end of a law that hands lambdas on: its markers; what its def is asked. -/
namespace VL
open PySem PySem.Spec PyProof.Rows L2 LamX
def mkT (Tt : List (Addr × Str)) : List (Addr × HO) := Tt.map fun p => (p.1, HO.tbl #[.str p.2 0])
theorem tabC_of {c : Cf} {Tt : List (Addr × Str)} (h : ∀ p : Addr × HO, IsTb p.2 → (p ∈ c.T0 ↔ p ∈ mkT Tt)) : TabC c Tt := ⟨fun p b hp => by
  obtain ⟨q, hq, e⟩ := List.mem_map.mp ((h p b).mp hp)
  exact ⟨q.2, 0, by rw [← e], by rw [← e]; exact hq⟩, fun p hp => ⟨0, (h _ ⟨_, rfl⟩).mpr (List.mem_map.mpr ⟨p, hp, rfl⟩)⟩⟩
theorem law_spX {K : PySem.W.Frag} {F : List Int → (Rs → Prop) → Prop} {ns : List Int} {H : Hp} {a : Addr} {Tt : List (Addr × Str)} (h : F ns (fun r => r = .vl (.bool true))) (mF : ∀ ns (k k' : Rs → Prop), (∀ r, k r → k' r) → F ns k → F ns k')
    (hT : ∀ p ∈ Tt, H p.1 = some (.tbl #[])) (hS : SqL K H a (ns.map V.int)) : spSX K (mkT Tt) F [.ref a] H (fun v _ => v = .bl true) fun _ _ _ => False := by
  have tL : TOk (mkT Tt) H := fun b o hb => by
    obtain ⟨p, hp, e⟩ := List.mem_map.mp hb
    cases e
    exact .inl ⟨_, _, rfl, TabS.nil (hT p hp)⟩
  have no : ∀ (u : HO), H a = some u → (∀ ps, u ≠ .tbl ps) → ¬ Hid none (mkT Tt) a := fun u e n h => by
    rcases h with h | ⟨o, h⟩
    · cases h
    · obtain ⟨p, hp, e2⟩ := List.mem_map.mp h
      have := hT p hp
      have e3 : p.1 = a := congrArg Prod.fst e2
      rw [e3, e] at this
      exact n _ (Option.some.inj this)
  have e : SqL K (Fz (Hid none (mkT Tt)) H) a (ns.map V.int) := by
    rcases hS with (r | ⟨o, r⟩) | r
    · exact .inl (.inl (fz_some.mpr ⟨no _ r (fun _ z => nomatch z), r, fun _ z => nomatch z⟩))
    · exact .inl (.inr ⟨o, fz_some.mpr ⟨no _ r (fun _ z => nomatch z), r, fun _ z => nomatch z⟩⟩)
    · exact .inr r
  refine ⟨a, ns, mkT Tt, rfl, tL, fun _ _ => Iff.rfl, e, mF _ _ _ (fun r hr v H' q => ?_) h⟩
  subst hr
  exact rp_bool q.2.2.1
/-- no exception is wished for: none comes -/
theorem cx_none {P : Program} {w : World} {outer : List PySem.Env} {H : Hp} {s : Shared} {e : Value} {s' : Shared} (h : L2.CX P w outer H s (fun _ _ _ => False) e s') : False := by
  obtain ⟨_, _, _, _, _, _, _, _, _, _, _, _, z⟩ := h
  exact z
end VL

set_option Elab.async false
set_option linter.all false
set_option maxRecDepth 100000
set_option maxHeartbeats 4000000
/-! VL41: bundles, where exceptions may pass. -/
namespace VL
open PySem PySem.Spec PyProof.Rows L2
structure FnX (P : Program) (w : World) (K : PySem.W.Frag) (mg : Str → Option Value) (base : Heap) (k : Nat) (x : Str) (ps : List Str) (sp : Sp) : Prop where
  ex : ∃ f fd, FnOk P w K mg base (L2.CX P w) k f fd ps sp ∧ mg x = some (.ref f) ∧ PySem.W.keepIn K (.ref f) = true ∧ Binds K fd ps []
section
variable {P : Program} {w : World} {K : PySem.W.Frag} {mg : Str → Option Value} {base : Heap} {x : Str} {st : Stmt} {N ps : List Str} {k n : Nat} {m : MS}
theorem fnX_P (F : FunM K mg x st ps) (S : FnScope N ps (defScope st)) (hn : ps.length = n) (hN : n ≤ N.length) (hb : ∀ f, BodyXT P w K mg base x st f N k false (fun _ => True) m) : FnX P w K mg base (k + 1) x ps (spPX K mg n (wpF n N.length m)) := by
  obtain ⟨f, fd, h1, h2, h3⟩ := F.ex
  exact ⟨f, fd, fn_PX h1 S hn hN (fun cdv A outer s H E hr c W h tk => hb f cdv A outer s H E hr c W (fun _ => h) trivial tk), h2, h1.kp, h3⟩
theorem fnX_I (F : FunM K mg x st ps) (S : FnScope N ps (defScope st)) (hn : ps.length = n) (hN : n ≤ N.length) (hb : ∀ f, BodyXT P w K mg base x st f N k true (fun _ => True) m) : FnX P w K mg base (k + 1) x ps (spIX K n (wpI n N.length m)) := by
  obtain ⟨f, fd, h1, h2, h3⟩ := F.ex
  exact ⟨f, fd, fn_IX h1 S hn hN (hb f), h2, h1.kp, h3⟩
theorem fnX_S (F : FunM K mg x st ps) (S : FnScope N ps (defScope st)) (hn : ps.length = 1) (hN : 1 ≤ N.length) (hb : ∀ f, BodyXT P w K mg base x st f N k false (fun _ => True) m) : FnX P w K mg base (k + 1) x ps (spS K (wpScX N.length m)) := by
  obtain ⟨f, fd, h1, h2, h3⟩ := F.ex
  exact ⟨f, fd, fn_SX0 h1 S hn hN (hb f), h2, h1.kp, h3⟩
theorem fnX_0 (F : FunM K mg x st ps) (k : Nat) : FnX P w K mg base k x ps (spPX K mg n fun _ _ _ => False) := by
  obtain ⟨f, fd, h1, h2, h3⟩ := F.ex
  exact ⟨f, fd, ⟨fun vs H Q E h => by obtain ⟨_, _, _, _, _, h⟩ := h; exact h.elim, fun A outer s H args us vs Q E _ _ _ _ h => by obtain ⟨_, _, _, _, _, h⟩ := h; exact h.elim⟩, h2, h1.kp, h3⟩
theorem fnX_0I (F : FunM K mg x st ps) (k : Nat) : FnX P w K mg base k x ps (spIX K n fun _ _ _ => False) := by
  obtain ⟨f, fd, h1, h2, h3⟩ := F.ex
  exact ⟨f, fd, ⟨fun vs H Q E h => by obtain ⟨_, _, _, _, _, _, _, _, _, _, _, h⟩ := h; exact h.elim, fun A outer s H args us vs Q E _ _ _ _ h => by obtain ⟨_, _, _, _, _, _, _, _, _, _, _, h⟩ := h; exact h.elim⟩, h2, h1.kp, h3⟩
end
section
variable {X : Cx} {c : Cf} {W : WX} {k j n i : Nat} {ps : List Str} {F : FP} {x y : Str} {p p2 pos : Pos} {e : Expr} {es : List Expr} {ma : MA}
theorem se_fxP (G : FnX X.prog X.w X.K X.mg X.base k x ps (spPX X.K X.mg n F)) (hF : MonoF F) (hr : Room j X.A) (hj : k ≤ j) (hg : Gl X x) (ha : SA X c W (e :: es) ma)
    (tk : Takes X W := by first | assumption | exact LamX.takes0)
    (hdb : (x == ("__debug__" : Str)) = false := by decide) (he : starEach (e :: es) X.env = (false, eval e X.env) :: starEach es X.env := by rfl) (hpl : (backTo pos (starEach es X.env)).any (·.1) = false := by rfl) :
    SE X c W (.Call (.Name x p) (e :: es) [] pos) (sCallPX n F ma) := by
  obtain ⟨f, fd, h1, h2, h3, h4⟩ := G.ex
  exact se_callPX h1 hF (hr.mono hj) hg h2 h3 h4 ha tk hdb he hpl
theorem se_fxI (G : FnX X.prog X.w X.K X.mg X.base k x ps (spIX X.K n F)) (hF : MonoF F) (hr : Room j X.A) (hj : k ≤ j) (hg : Gl X x)
    (hN : X.N[i]? = some y) (hv : Vis X.env.scope y) (ha : SA X c W es ma) (hdy : (y == ("__debug__" : Str)) = false := by decide) (hcy : (y == ("__classdict__" : Str)) = false := by decide)
    (hdb : (x == ("__debug__" : Str)) = false := by decide) (he : starEach (.Name y p2 :: es) X.env = (false, eval (.Name y p2) X.env) :: starEach es X.env := by rfl) (hpl : (backTo pos (starEach es X.env)).any (·.1) = false := by rfl) :
    SE X c W (.Call (.Name x p) (.Name y p2 :: es) [] pos) (sCallIX i n F ma) := by
  obtain ⟨f, fd, h1, h2, h3, h4⟩ := G.ex
  exact se_callIX h1 hF (hr.mono hj) hg h2 h3 h4 hN hv ha hdy hcy hdb he hpl
theorem se_fxS {F : List Int → (Rs → Prop) → Prop} (G : FnX X.prog X.w X.K X.mg X.base k x ps (spS X.K F)) (hF : ∀ ns (k k' : Rs → Prop), (∀ r, k r → k' r) → F ns k → F ns k') (hr : Room j X.A) (hj : k ≤ j) (hg : Gl X x)
    (hN : X.N[i]? = some y) (hv : Vis X.env.scope y) (hdy : (y == ("__debug__" : Str)) = false := by decide) (hcy : (y == ("__classdict__" : Str)) = false := by decide)
    (hdb : (x == ("__debug__" : Str)) = false := by decide) (he : starEach [.Name y p2] X.env = (false, eval (.Name y p2) X.env) :: starEach [] X.env := by rfl) (hpl : (backTo pos (starEach [] X.env)).any (·.1) = false := by rfl) :
    SE X c W (.Call (.Name x p) [.Name y p2] [] pos) (sCallS i F) := by
  obtain ⟨f, fd, h1, h2, h3, h4⟩ := G.ex
  exact se_callSX h1 hF (hr.mono hj) hg h2 h3 h4 hN hv hdy hcy hdb he hpl
end
/-! ### classes of exceptions -/
structure ExcM (K : PySem.W.Frag) (mg : Str → Option Value) (x : Str) : Prop where
  ex : ∃ C, mg x = some (.ref C) ∧ PySem.W.keepIn K (.ref C) = true ∧ PySem.W.subIn K (.ref C) (.type "BaseException") = some true ∧ PySem.W.typeIn K (.ref C) = some (.type "type") ∧
    ∃ (bmB : List Value) (B newId initId : String), ExcBaseFacts B newId initId bmB ∧ PySem.W.excIn K C bmB newId = true
theorem ss_raiseM {X : Cx} {c : Cf} {W : WX} {x : Str} {p p2 pos : Pos} (E : ExcM X.K X.mg x) (hc : X.calm = true) (hg : Gl X x) (tk : Takes X W := by assumption) (hdb : (x == ("__debug__" : Str)) = false := by decide) :
    SS X c W (.Raise (some (.Call (.Name x p) [] [] p2)) none pos) (sRaise0 x) := by
  obtain ⟨C, h1, h2, h3, h4, bmB, B, newId, initId, h5, h6⟩ := E.ex
  exact ss_raise0 hc h5 h6 h1 h2 (raises_own h3 h4) hg tk hdb
end VL

set_option Elab.async false
set_option linter.all false
set_option maxRecDepth 100000
set_option maxHeartbeats 4000000
/-! VL42: defs that hand lambdas on themselves: they are told that just the markers Tm are hidden by their callers. -/
namespace VL
open PySem PySem.Spec PyProof.Rows L2
def spIT (K : PySem.W.Frag) (Tm : List (Addr × HO)) (n : Nat) (F : FP) : Sp := fun vs H Q E => ∃ a ws d0 ds T, vs = .ref a :: ws ∧ TOk T H ∧ (∀ p : Addr × HO, IsTb p.2 → (p ∈ T ↔ p ∈ Tm)) ∧ (∀ u, (a, u) ∉ T) ∧ Ob K (Fz (Hid (some a) T) H) (H a) d0 ∧ RpA K (Fz (Hid (some a) T) H) ws ds ∧ (d0 :: ds).length = n ∧
  F (d0 :: ds) (fun r d' => ∀ v H', RetOk K (some a) T (Fz (Hid (some a) T) H) H' r v d' → Q v H') (fun _ _ => False)
def spPT (K : PySem.W.Frag) (mg : Str → Option Value) (Tm : List (Addr × HO)) (n : Nat) (F : FP) : Sp := fun vs H Q E => ∃ ds T, TOk T H ∧ (∀ p : Addr × HO, IsTb p.2 → (p ∈ T ↔ p ∈ Tm)) ∧ RpA K (Fz (Hid none T) H) vs ds ∧ ds.length = n ∧ F ds (fun r d' => ∀ v H', RetOk K none T (Fz (Hid none T) H) H' r v d' → Q v H')
  (fun x _ => ∀ cls d H', RetX K mg T (Fz (Hid none T) H) H' x cls d → E cls d H')
section
variable {P : Program} {w : World} {K : PySem.W.Frag} {mg : Str → Option Value} {base : Heap} {x qual : Str} {st : Stmt} {f : Addr} {fd : FuncData} {N ps : List Str} {k n : Nat} {m : MS}
theorem fn_IT {Tm : List (Addr × HO)} (F : L2.Fun K x qual st f fd) (S : FnScope N ps (defScope st)) (hn : ps.length = n) (hN : n ≤ N.length) (hb : BodyXT P w K mg base qual st f N k true (fun c => ∀ p : Addr × HO, IsTb p.2 → (p ∈ c.T0 ↔ p ∈ Tm)) m) :
    FnOk P w K mg base (L2.CX P w) (k + 1) f fd ps (spIT K Tm n (wpI n N.length m)) := by
  refine F.okX S (fun vs H Q E h => ?_) (fun cdv A outer s H vs Q E hr h => ?_)
  · obtain ⟨a, ws, d0, ds, T, rfl, _, _, _, _, r, hl, _⟩ := h
    rw [List.length_cons, r.length, hn, ← hl, List.length_cons]
  obtain ⟨a, ws, d0, ds, T, rfl, hT, hm, ha, ob, ra, hl, d1, ds1, e1, _, q⟩ := h
  cases e1
  have tk : Takes (cxOf (L2.CX P w) P w K mg base N qual (defScope st) f cdv A outer s H E) (fun cls d _ H => E cls d H) := takes_of rfl rfl rfl rfl
  have B := hb cdv A outer s H E hr ⟨Fz (Hid (some a) T) H, some a, T⟩ _ (fun z => nomatch z) hm tk
  have atS : ∀ {i : Nat} {s : Sl}, (Sl.ow d0 :: ds.map Sl.sh)[i]? = some s → (i = 0 ∧ s = .ow d0) ∨ ∃ j d, i = j + 1 ∧ ds[j]? = some d ∧ s = .sh d := fun {i s} e => by
    cases i with
    | zero => exact .inl ⟨rfl, by simpa using e.symm⟩
    | succ j =>
      rw [List.getElem?_cons_succ, List.getElem?_map] at e
      cases h : ds[j]? with
      | none => rw [h] at e; cases e
      | some d => rw [h] at e; cases e; exact .inr ⟨j, d, rfl, h, rfl⟩
  obtain ⟨R, ef⟩ := Rel.entry (K := K) (N := N) (vs := .ref a :: ws) (io := some a) (ρ := .ow d0 :: ds.map Sl.sh) (m := N.length - n) hT (by simp only [List.length_cons, List.length_map] at hl ⊢; omega) (by simp [ra.length]) (fun b e => by
      cases e
      exact ⟨ha, ⟨d0, rfl⟩, rfl⟩)
    (fun i d e => by
      rcases atS e with ⟨h, e⟩ | ⟨j, d', _, _, e⟩
      · cases e; exact ⟨h, a, rfl, ob⟩
      · cases e)
    (fun i d v e ev => by
      rcases atS e with ⟨h, e⟩ | ⟨j, d', h, e1, e⟩
      · cases e
      · cases e
        subst h
        obtain ⟨d2, e2, e3⟩ := ra.get (i := j) (by simpa using ev)
        rw [e1] at e2; cases e2
        exact e3)
    (fun i ns e => by
      rcases atS e with ⟨h, e⟩ | ⟨j, d', h, e1, e⟩ <;> cases e) (fun i v e => by
      rcases atS e with ⟨h, e⟩ | ⟨j, d', h, e1, e⟩ <;> cases e)
  refine ⟨_, B.run, _, R, B.mo _ _ _ ?_ q⟩
  refine ⟨fun ρ q σ' H' R' => ?_, fun r ρ q v σ' H' h => ?_, fun _ q => q.elim, fun _ q => q.elim, fun x ρ q cls d σ' H' _ _ => ?_⟩
  · obtain ⟨d, e, q⟩ := q
    exact q .non H' (ret_ok (c := ⟨Fz (Hid (some a) T) H, some a, T⟩) (r := .vl .none) (res_none R') ⟨_, rfl⟩ (some d) (fun b _ => ⟨d, e, rfl⟩))
  · obtain ⟨h1, d, e, q⟩ := q
    exact q v H' (ret_ok h (nb_val h1) (some d) (fun b _ => ⟨d, e, rfl⟩))
  · obtain ⟨_, _, z⟩ := q
    exact z.elim
theorem fn_PT {Tm : List (Addr × HO)} (F : L2.Fun K x qual st f fd) (S : FnScope N ps (defScope st)) (hn : ps.length = n) (hN : n ≤ N.length) (hb : BodyXT P w K mg base qual st f N k false (fun c => ∀ p : Addr × HO, IsTb p.2 → (p ∈ c.T0 ↔ p ∈ Tm)) m) :
    FnOk P w K mg base (L2.CX P w) (k + 1) f fd ps (spPT K mg Tm n (wpF n N.length m)) := by
  refine F.okX S (fun vs H Q E h => ?_) (fun cdv A outer s H vs Q E hr h => ?_)
  · obtain ⟨ds, T, _, _, r, hl, _⟩ := h
    rw [r.length, hl, hn]
  obtain ⟨ds, T, hT, hm, ra, hl, _, q⟩ := h
  have tk : Takes (cxOf (L2.CX P w) P w K mg base N qual (defScope st) f cdv A outer s H E) (fun cls d _ H => E cls d H) := takes_of rfl rfl rfl rfl
  have B := hb cdv A outer s H E hr ⟨Fz (Hid none T) H, none, T⟩ _ (fun _ => rfl) hm tk
  obtain ⟨R, ef⟩ := Rel.entry (K := K) (N := N) (vs := vs) (io := none) (ρ := ds.map Sl.sh) (m := N.length - n) hT (by rw [List.length_map, hl]; omega) (by rw [List.length_map]; exact ra.length) (fun a e => nomatch e)
    (fun i d e => by rw [List.getElem?_map] at e; cases h : ds[i]? <;> rw [h] at e <;> cases e)
    (fun i d v e ev => by
      rw [List.getElem?_map] at e
      obtain ⟨d', e1, e2⟩ := ra.get ev
      rw [e1] at e; cases e
      exact e2)
    (fun i ns e => by rw [List.getElem?_map] at e; cases h : ds[i]? <;> rw [h] at e <;> cases e) (fun i v e => by rw [List.getElem?_map] at e; cases h : ds[i]? <;> rw [h] at e <;> cases e)
  refine ⟨_, B.run, _, R, B.mo _ _ _ ?_ q⟩
  refine ⟨fun ρ q σ' H' R' => ?_, fun r ρ q v σ' H' h => q.2 v H' (ret_ok h (nb_val q.1) none (fun a e => nomatch e)), fun _ q => q.elim, fun _ q => q.elim, fun x ρ q cls d σ' H' R' er => ?_⟩
  · exact q .non H' (ret_ok (c := ⟨Fz (Hid none T) H, none, T⟩) (r := .vl .none) (res_none R') ⟨_, rfl⟩ none (fun a e => nomatch e))
  · have lf : Le (Fr T ρ σ' H') (Fz (Hid none T) H') := fz_mono (fun a _ h => by
      rcases h with h | h
      · cases h
      · exact .inr h) Le.refl
    exact q cls d H' ⟨R'.tst, R'.base.trans lf, exR_le lf er⟩
end
section
variable {X : Cx} {c : Cf} {W : WX} {k n i : Nat} {f : Addr} {fd : FuncData} {ps : List Str} {F : FP} {x y : Str} {p p2 pos : Pos} {e : Expr} {es : List Expr} {ma : MA}
theorem se_callIT {Tm : List (Addr × HO)} (hTm : ∀ p : Addr × HO, IsTb p.2 → (p ∈ c.T0 ↔ p ∈ Tm)) (G : FnOk X.prog X.w X.K X.mg X.base (L2.CX X.prog X.w) k f fd ps (spIT X.K Tm n F)) (hF : MonoF F) (hr : Room k X.A) (hg : Gl X x) (hm : X.mg x = some (.ref f)) (hk : PySem.W.keepIn X.K (.ref f) = true) (hb : Binds X.K fd ps [])
    (hN : X.N[i]? = some y) (hv : Vis X.env.scope y) (ha : SA X c W es ma) (hdy : (y == ("__debug__" : Str)) = false := by decide) (hcy : (y == ("__classdict__" : Str)) = false := by decide)
    (hdb : (x == ("__debug__" : Str)) = false := by decide) (he : starEach (.Name y p2 :: es) X.env = (false, eval (.Name y p2) X.env) :: starEach es X.env := by rfl) (hpl : (backTo pos (starEach es X.env)).any (·.1) = false := by rfl) :
    SE X c W (.Call (.Name x p) (.Name y p2 :: es) [] pos) (sCallIX i n F ma) := by
  refine se_of (pe_call G hr hg hm hk hb .nil (passes_call LamX.takes0 (fun _ _ _ _ h => h) : Passes (L2.CX X.prog X.w) X fun _ _ _ => False) (pa_cons (pe_var hN hv hdy hcy) ha.run he) hdb he hpl) (mono_callIX hF ha.mo) fun σ H Q ⟨T, ρ, R, ⟨d0, e0⟩, q⟩ => ?_
  obtain ⟨a, ea, ob⟩ := R.sl i _ e0
  refine ⟨.ref a, ea, T, ρ, R, ha.mo _ _ _ _ _ (fun rs ρ1 q vs H1 hA => ?_) (fun _ _ z => z.elim) q⟩
  obtain ⟨d, ds, e1, e2, hl, q⟩ := q
  obtain ⟨R1, l1, o1⟩ := hA
  obtain ⟨a', ea', ob1⟩ := R1.sl i _ e1
  rw [ea] at ea'; cases ea'
  obtain ⟨L, tL, hT, hM, hL⟩ := R1.hiddenT (fun j => j ≠ i)
  have ep := hid_protI e1 ea hL
  rw [List.append_nil]
  refine ⟨a, vs, d, ds, L, rfl, tL, fun p b => (hM p b).trans (hTm p b), fun u hu => ?_, by rw [ep]; exact ob1, by rw [ep]; exact Opr.rps o1 e2, hl, ?_⟩
  · rcases (hL a).mp ⟨u, hu⟩ with ⟨j, hj, h⟩ | ⟨o, h⟩
    · exact hj (R1.inj j i a h ⟨⟨d, e1⟩, ea⟩)
    · exact R1.dis i a o ⟨⟨d, e1⟩, ea⟩ h
  · refine hF _ _ _ _ _ (fun r d' q v H' h => ?_) (fun _ _ z => z) q
    obtain ⟨e, ee, q⟩ := q
    rw [ep] at h
    obtain ⟨e2, ee2, hres⟩ := ret_callerI R1 e1 ea tL hT hL h
    rw [ee] at ee2; cases ee2
    exact q v H' (hres.le l1)
theorem se_callPT {Tm : List (Addr × HO)} (hTm : ∀ p : Addr × HO, IsTb p.2 → (p ∈ c.T0 ↔ p ∈ Tm)) (G : FnOk X.prog X.w X.K X.mg X.base (L2.CX X.prog X.w) k f fd ps (spPT X.K X.mg Tm n F)) (hF : MonoF F) (hr : Room k X.A) (hg : Gl X x) (hm : X.mg x = some (.ref f)) (hk : PySem.W.keepIn X.K (.ref f) = true) (hb : Binds X.K fd ps []) (ha : SA X c W (e :: es) ma)
    (tk : Takes X W := by first | assumption | exact LamX.takes0)
    (hdb : (x == ("__debug__" : Str)) = false := by decide) (he : starEach (e :: es) X.env = (false, eval e X.env) :: starEach es X.env := by rfl) (hpl : (backTo pos (starEach es X.env)).any (·.1) = false := by rfl) :
    SE X c W (.Call (.Name x p) (e :: es) [] pos) (sCallPX n F ma) := by
  refine se_of (pe_callS (E := WE W) G hr hg hm hk hb (passAt tk) ha.run hdb he hpl) (mono_callPX hF ha.mo) fun σ H Q ⟨T, ρ, R, q⟩ => ?_
  refine ⟨T, ρ, R, ha.mo _ _ _ _ _ (fun rs ρ1 q vs H1 hA => ?_) (fun _ _ h => h) q⟩
  obtain ⟨ds, e1, hl, q⟩ := q
  obtain ⟨R1, l1, o1⟩ := hA
  obtain ⟨L, tL, hT, hM, hL⟩ := R1.hiddenT (fun _ => True)
  have ep := hid_prot hL
  refine ⟨ds, L, tL, fun p b => (hM p b).trans (hTm p b), ?_, hl, ?_⟩
  · rw [ep]; exact Opr.rps o1 e1
  · refine hF _ _ _ _ _ (fun r d' q v H' h => q v H' ?_) (fun x _ q cls d H' h => ?_) q
    · obtain ⟨t1, l2, er⟩ := h
      rw [ep] at l2 er
      have rr := ret_caller (r := .vl .none) (v := .non) (d' := none) R1 tL hT hL ⟨t1, by rw [ep]; exact l2, .non, fun a e => nomatch e⟩
      exact q cls d H' rr.1 (l1.trans l2) er
    · rw [ep] at h
      exact (ret_caller R1 tL hT hL h).le l1
end
end VL

set_option Elab.async false
set_option linter.all false
set_option maxRecDepth 100000
set_option maxHeartbeats 4000000
/-! VL43: try with several clauses that all name the exception alike; the word-teller with two clauses. -/
namespace VL
open PySem PySem.Spec PyProof.Rows L2 LamX
abbrev ATS := Addr → Value → Option Addr → TS
/-- the ends of a suite that forgets slot i -/
def forg (i : Nat) (D : Ends) : Ends := { nx := fun u v => D.nx (u.set i none) v, rt := D.rt, bk := fun u v => D.bk (u.set i none) v, ct := fun u v => D.ct (u.set i none) v }
/-- what named clauses wish of an exception -/
def wNam (K : PySem.W.Frag) (i : Nat) (W0 : WX) (D : Ends) : List (Value × ATS) → WX
  | [] => W0
  | q :: l => fun cl dd st hp => ∃ t, PySem.W.exmOne K cl q.1 = some t ∧
      (t = true → ∀ z, hp z = none → q.2 z cl dd (forg i D) (st.set i (some (.ref z))) hp) ∧ (t = false → wNam K i W0 D l cl dd st hp)
/-- clauses, all `as n` -/
inductive NamOk (X : Cx) (n : Str) : List ExceptHandler → List (Value × ATS) → Prop
  | nil : NamOk X n [] []
  | cons {y : Str} {cv : Value} {ts : ATS} {b : Stmt} {bs : List Stmt} {p1 p2 : Pos} {hs : List ExceptHandler} {l : List (Value × ATS)} (nm : Names X y cv)
      (su : ∀ (z : Addr) (ob : Obj) (cl : Value) (dd : Option Addr) (pn : List (Addr × Obj)), Zc cl dd ob → (∃ w, ob.data = .fields w) →
        PSs (X.suite z ((z, ob) :: pn)) (b :: bs) (ts z cl dd)) (r : NamOk X n hs l) : NamOk X n (.ExceptHandler (some (.Name y p1)) (some n) (b :: bs) p2 :: hs) ((cv, ts) :: l)
section
variable {X : Cx} {n : Str} {i : Nat} {l : List (Value × ATS)} {hs : List ExceptHandler} {body : List Stmt} {tb : WX → TS} {W0 : WX} {pos : Pos} {pins : List (Addr × Obj)} {D : Ends}
/-- an exception that has landed: the state G without it, the heap g with it -/
structure Lnd (X : Cx) (pins : List (Addr × Obj)) (z : Addr) (B : Heap) (G : Shared) (st : L2.St) (hp : Hp) (cl : Value) (dd : Option Addr) (s' : Shared) (g : Heap) : Prop where
  inv : Inv X pins st hp G
  nb : ∀ b o, G.heap.get? b = some o → b ∉ frs X.stack → B.get? b = some o
  up : G.heap.UpToSlots g
  fl : HandSPX.FlyingZ B (X.env :: X.outer) z (Zc cl dd) g
  none_ : hp z = none
  os : s'.os = G.os
  bare : AllBare s'.gens
theorem not_frame {B : Heap} {l : List PySem.Env} {z : Addr} {h : Heap} {o : Obj} {w : Array Value} (ff : h.FunFrames B l) (e : h.get? z = some o) (d : o.data = .fields w) : z ∉ frs l := fun hm => by
  obtain ⟨_, o2, e2, q⟩ := ff.mem hm
  rw [e] at e2
  cases e2
  exact q _ d
theorem nam_go (hst : X.stack = X.env :: X.outer) (hf : X.env.frame = some X.env.locals) (nd : X.N.Nodup) (hi : X.N[i]? = some n) (hk : X.env.kindOf n = some .local) (tk : Takes X W0) (hh : NamOk X n hs l) :
    ∀ {z : Addr} {B : Heap} {G : Shared} {st : L2.St} {hp : Hp} {cl : Value} {dd : Option Addr} {s' : Shared} {g : Heap}, X.Ok → Lnd X pins z B G st hp cl dd s' g → wNam X.K i W0 D l cl dd st hp →
      wpAny (model X.prog X.w) X.A (handleBy (.ref z) X.env hs) (SP X pins D) X.xe { s' with heap := g } := by
  induction hh with
  | nil =>
    intro z B G st hp cl dd s' g ok L wish
    refine wpAny_handleBy_nil ?_
    obtain ⟨_, _, _, ob, w, T, oT, tt, e0, _, e2, e3, _⟩ := id L.fl
    unfold PySem.passOn
    refine wpAny_bind (wpAny_field e0 e2 e3 ?_)
    rw [if_neg (by simp : ¬ ((Value.ref T == Value.none) = true))]
    have up2 := L.up
    have last : wpAny (model X.prog X.w) X.A (setFlight (.ref z) X.env.frame) (fun _ s4 => wpAny (model X.prog X.w) X.A (throw (.ref z) : Sem Flow)
        (SP X pins D) X.xe s4) X.xe { s' with heap := g } := by
      rw [hf]
      refine HandSPX.setFlight_upZ L.fl fun g4 hh4 up4 => wpAny_throw (tk _ _ ?_)
      refine ⟨z, B, G, pins, st, hp, cl, dd, rfl, L.inv, L.nb, up2.trans up4, ?_, L.none_, L.os, L.bare, wish⟩
      exact .inr (.inr (by rw [hst]; exact hh4))
    first
      | exact wpAny_bind (wpAny_pure (wpAny_bind last))
      | exact wpAny_bind last
  | @cons y cv ts b bs p1 p2 hs2 l2 nm su r ih =>
    intro z B G st hp cl dd s' g ok L wish
    obtain ⟨t, em, wy, wn⟩ := wish
    obtain ⟨ob, vs, e0, zc, ed⟩ := L.fl.there
    have J : Inv X pins st hp { s' with heap := g } := L.inv.landed L.nb L.fl.1 L.up L.os L.bare
    have nfr := not_frame L.fl.2.2.1 e0 ed
    have nL : z ≠ X.env.locals := fun q => nfr (List.mem_filterMap.mpr ⟨X.env, List.mem_cons_self, by rw [hf, q]⟩)
    have nF : z ∉ X.fs := fun hm => by
      obtain ⟨en, m1, m2⟩ := List.mem_filterMap.mp hm
      exact nfr (List.mem_filterMap.mpr ⟨en, List.mem_cons_of_mem _ m1, m2⟩)
    have S := J.suite e0 ed L.none_ nL nF
    have ty : PySem.W.Looks (model X.prog X.w) g (typeOf (.ref z)) cl := fun _ _ _ _ k q =>
      wpAny_typeOf_ref (k _ _ e0) (by rw [zc.1]; exact q)
    have mt := PySem.W.exm_one (M := model X.prog X.w) J.kIn ty em
    refine wpAny_handleBy_cons (codeAny_handlers_test ?_) (fun q => nomatch q)
    have tst : ∀ {Q E : Value → Shared → Prop}, Q cv { s' with heap := g } →
        wpAny (model X.prog X.w) (X.A.mark (some (.ref z))) (eval (.Name y p1) X.env) Q E { s' with heap := g } := fun {Q E} q => by
      obtain ⟨gl, nd, hm | ⟨hm, hv, nn⟩⟩ := nm
      · exact ld_glob (X := X.suite z ((z, ob) :: (X.pn ++ pins))) S gl hm q nd
      · exact ld_blt (X := X.suite z ((z, ob) :: (X.pn ++ pins))) S gl hm hv q nn nd
    refine tst (mt.here ?_)
    cases t with
    | false => exact ih ok L (wn rfl)
    | true =>
      refine codeAny_handlers_suite_as (HandSPX.lands_againZ L.fl fun g4 fl4 up4 => ?_)
      have J4 : Inv X pins st hp { s' with heap := g4 } :=
        L.inv.landed L.nb fl4.1 (L.up.trans up4) L.os L.bare
      obtain ⟨ob4, vs4, e4, zc4, ed4⟩ := fl4.there
      have S4 := J4.suite e4 ed4 L.none_ nL nF
      refine store_ok (X := X.suite z ((z, ob4) :: (X.pn ++ pins))) (v := .ref z) S4 nd hi (.inl hk) rfl (fun s5 S5 => ?_) (.inr hk)
      refine wpAny_mono ((su z ob4 cl dd (X.pn ++ pins) zc4 ⟨_, ed4⟩).run [] s5 _ hp _ S5 (wy rfl z L.none_)) (fun f s6 q6 => ?_) fun _ _ q => q.elim
      have fin : ∀ {st6 : L2.St} {hp6 : Hp} {Q : Shared → Prop}, Inv (X.suite z ((z, ob4) :: (X.pn ++ pins))) [] st6 hp6 s6 →
          (∀ s7, Inv X pins (st6.set i none) hp6 s7 → Q s7) → wpAny (model X.prog X.w) X.A (do bindName X.env n .none; unbindBehindTheSuite X.env n p2) (fun _ s7 => Q s7) X.xe s6 :=
        fun {st6 hp6 Q} S6 hq => gone_ok (S6.unsuite ok) nd hi hk hq
      cases f with
      | ret u =>
        obtain ⟨v, st6, hp6, S6, r6, q⟩ := q6
        exact fin S6 fun s7 J7 => ⟨_, _, _, J7, r6, q⟩
      | next => obtain ⟨st6, hp6, S6, q⟩ := q6; exact fin S6 fun s7 J7 => ⟨_, _, J7, q⟩
      | brk => obtain ⟨st6, hp6, S6, q⟩ := q6; exact fin S6 fun s7 J7 => ⟨_, _, J7, q⟩
      | cont => obtain ⟨st6, hp6, S6, q⟩ := q6; exact fin S6 fun s7 J7 => ⟨_, _, J7, q⟩
theorem ps_try_nam {h0 : ExceptHandler} (hst : X.stack = X.env :: X.outer) (hf : X.env.frame = some X.env.locals) (nd : X.N.Nodup) (hi : X.N[i]? = some n) (hk : X.env.kindOf n = some .local) (tk : Takes X W0)
    (hb : ∀ (W : WX) (pn : List (Addr × Obj)) (xe : Value → Shared → Prop), Takes (X.tr pn xe) W →
      PassesOwn (model X.prog X.w) X.A X.env xe → PSs (X.tr pn xe) body (tb W)) (hh : NamOk X n (h0 :: hs) l) :
    PS X (.Try body (h0 :: hs) [] [] pos) (fun D σ H => tb (wNam X.K i W0 D l) D σ H) := by
  refine ⟨fun pins s σ H D I h => wpAny_Try_except ?_⟩
  have ok := I.ok
  have fr : X.A.frames = some (X.env :: X.outer) := by rw [ok.frames, hst]
  refine wpAny_mono ((hb (wNam X.K i W0 D l) (X.pn ++ pins)
    (fun e a1 => wpAny (model X.prog X.w) X.A (noteFrame e X.env) (fun _ a2 => wpAny (model X.prog X.w) X.A (setFlight e none)
      (fun _ a3 => wpAny (model X.prog X.w) X.A (handleBy e X.env (h0 :: hs)) (SP X pins D) X.xe a3) X.xe a2) X.xe a1)
    (fun u s' air => ?_) PassesOwn.looking).run [] s σ H D (I.toTry _) h) (fun f s1 q1 => ?_) (fun _ _ q => q)
  · obtain ⟨z, B, G, pins2, st, hp, cl, dd, rfl, J2, nb, up, sky, nz, os, ag, wish⟩ := air
    rw [hst] at sky
    show wpAny (model X.prog X.w) X.A (noteFrame (.ref z) X.env) _ _ _
    refine Sky.land Zc.steady fr hf sky fun g fl up2 => ?_
    exact nam_go hst hf nd hi hk tk hh ok ⟨J2.ofTry ok, nb, up.trans up2, fl, nz, os, ag⟩ wish
  · cases f with
    | next => obtain ⟨u, v, J, q⟩ := q1; exact wpAny_execs_nil ⟨u, v, J.ofTry ok, q⟩
    | brk => obtain ⟨u, v, J, q⟩ := q1; exact ⟨u, v, J.ofTry ok, q⟩
    | cont => obtain ⟨u, v, J, q⟩ := q1; exact ⟨u, v, J.ofTry ok, q⟩
    | ret w => obtain ⟨x, u, v, J, r, q⟩ := q1; exact ⟨x, u, v, J.ofTry ok, r, q⟩
end
section
variable {X : Cx}
/-- what the word-teller with clauses l makes of an exception -/
def wdN (K : PySem.W.Frag) (l : List (Value × ATS)) (n i j : Nat) : Value → Option Addr → Hp → VK → Prop := fun cls d H Q =>
  ∀ σ : L2.St, σ.length = n → wNam K i (fun _ _ _ _ => False) { nx := fun σ' H' => ∃ v, σ'[j]? = some (some v) ∧ Q v H', rt := Q } l cls d σ H
theorem word_givesN {Ng : List Str} {x a q ok en : Str} {sg : Scope} {g : Addr} {cdg : Value} {i j : Nat} {pre post : Stmt} {l : List (Value × ATS)} {h0 : ExceptHandler} {hs : List ExceptHandler} {p1 p2 p3 pos8 : Pos}
    (hj : ∀ f : Addr, j < (L2.start Ng [V.ref f]).length ∧ 0 ≠ j) (hNd : Ng.Nodup) (hi : Ng[i]? = some en) (h0' : ∀ f : Addr, (L2.start Ng [V.ref f])[0]? = some (some (V.ref f)))
    (hln : ∀ s H, (cxOf C8.CX0 X.prog X.w X.K X.mg X.base Ng x sg g cdg X.A X.stack s H C8.E0).nox.env.kindOf en = some .local)
    (hpre : ∀ s H, PS (cxOf C8.CX0 X.prog X.w X.K X.mg X.base Ng x sg g cdg X.A X.stack s H C8.E0).nox pre (fun D σ H => D.nx (σ.set j (some (.str ok))) H))
    (hpost : ∀ s H, PS (cxOf C8.CX0 X.prog X.w X.K X.mg X.base Ng x sg g cdg X.A X.stack s H C8.E0).nox post (fun D σ H => ∃ v, σ[j]? = some (some v) ∧ D.rt v H))
    (hsu : ∀ s H, NamOk (cxOf C8.CX0 X.prog X.w X.K X.mg X.base Ng x sg g cdg X.A X.stack s H C8.E0).nox en (h0 :: hs) l) :
    GivesTo X Ng x sg g cdg [pre, .Try [.Expr (.Call (.Name a p1) [] [] p2) p3] (h0 :: hs) [] [] pos8, post] a q (TTw ok (wdN X.K l Ng.length i j)) := by
  intro f c' s H Q tl act hc h
  refine ⟨_, pss_cons (hpre s H) (pss_cons (ps_try_nam (X := (cxOf C8.CX0 X.prog X.w X.K X.mg X.base Ng x sg g cdg X.A X.stack s H C8.E0).nox)
      (tb := fun W D σ H => ∃ Ech : XK, (∀ cls d σ' H', Ech cls d H' → σ'.length = Ng.length → W cls d σ' H') ∧ σ[0]? = some (some (.ref f)) ∧ H c' = some (CodeO c' q) ∧ tl Ech H fun _ H' => D.nx σ H')
      rfl rfl hNd hi (hln s H) LamX.takes0 (fun W pn xe tk _ => ?_) (hsu s H)) (pss_one (hpost s H))), ?_⟩
  · refine ⟨fun pins s' σ H' D I h' => ?_⟩
    obtain ⟨Ech, hW, h1, h2, h3⟩ := h'
    have hp := act _ pn xe Ech p1 p2 (takes_len tk) (fun cls d σ' H' e => hW cls d σ' H' e)
    have hq := pss_one (ps_expr (pos := p3) hp)
    exact hq.run pins s' σ H' D I ⟨h1, h2, h3⟩
  · have e1 : ((L2.start Ng [V.ref f]).set j (some (V.str ok)))[j]? = some (some (V.str ok)) := List.getElem?_set_self (hj f).1
    refine ⟨fun cls d H' => wdN X.K l Ng.length i j cls d H' Q, fun cls d σ' H' hw hl => ?_, ?_, hc, ?_⟩
    · exact hw σ' hl
    · rw [List.getElem?_set_ne (hj f).2.symm]
      exact h0' f
    · have e2 : (fun (_ : V) (H' : Hp) => ∃ v, ((L2.start Ng [V.ref f]).set j (some (V.str ok)))[j]? = some (some v) ∧ Q v H') = fun _ H' => Q (.str ok) H' := funext fun _ => funext fun H' => propext ⟨fun ⟨v, e, q⟩ => by
        rw [e1] at e
        cases e
        exact q, fun q => ⟨_, e1, q⟩⟩
      show tl _ H (fun (_ : V) (H' : Hp) => ∃ v, ((L2.start Ng [V.ref f]).set j (some (V.str ok)))[j]? = some (some v) ∧ Q v H')
      rw [e2]
      exact h
end

/-- the clause that takes cls -/
def Pick (K : PySem.W.Frag) (cls : Value) : List (Value × ATS) → ATS → Prop
  | [], _ => False
  | q :: l, t => (PySem.W.exmOne K cls q.1 = some true ∧ q.2 = t) ∨ (PySem.W.exmOne K cls q.1 = some false ∧ Pick K cls l t)
theorem wNam_pick {K : PySem.W.Frag} {i : Nat} {W0 : WX} {D : Ends} {cls : Value} {d : Option Addr} {σ : L2.St} {H : Hp} {ts : ATS} : ∀ {l : List (Value × ATS)}, Pick K cls l ts → (∀ z, H z = none → ts z cls d (forg i D) (σ.set i (some (.ref z))) H) → wNam K i W0 D l cls d σ H
  | [], h, _ => h.elim
  | q :: l, h, k => by
    rcases h with ⟨h, e⟩ | ⟨h, r⟩
    · exact ⟨true, h, (fun _ z hz => by rw [e]; exact k z hz), fun z => Bool.noConfusion z⟩
    · exact ⟨false, h, (fun z => Bool.noConfusion z), fun _ => wNam_pick r k⟩
/-- a suite's plain meaning, from an entry of which only the exception is known -/
theorem tsOf_go {K : PySem.W.Frag} {mg : Str → Option Value} {Tt : List (Addr × Str)} {n i j : Nat} {a : Addr} {w : D} {σ : L2.St} {H : Hp} {m : MS} {De : Ends} (hi : i < n) (hl : σ.length = n) (hT : Tabs Tt H) (hw : LeafD w)
    (hp : ∀ k : Ks, (∀ ρ', ρ'[j]? = some (.sh w) → k.nx ρ') → (∀ ρ', k.rt (.vl w) ρ') → m (rho0 n i a) k)
    (hnx : ∀ v σ' H', σ'[j]? = some (some v) → ExtN H H' → Tabs Tt H' → Rp K (fun _ => none) v w → De.nx σ' H') (hrt : ∀ v H', ExtN H H' → Tabs Tt H' → Rp K (fun _ => none) v w → De.rt v H') :
    tsOf K mg m De (σ.set i (some (.ref a))) H := by
  have tL : TOk (Tt.map fun p => (p.1, HO.tbl #[.str p.2 0])) H := fun b o hb => by
    obtain ⟨p, hp, e⟩ := List.mem_map.mp hb
    cases e
    exact .inl ⟨_, _, rfl, hT _ hp⟩
  generalize hL : (Tt.map fun p => (p.1, HO.tbl #[.str p.2 0])) = L at tL
  have own : ∀ i' b, ¬ OwnAt (rho0 n i a) (σ.set i (some (.ref a))) i' b := fun i' b ⟨⟨d', e⟩, _⟩ => by
    unfold rho0 at e
    by_cases h : i' = i
    · subst h
      rw [List.getElem?_set_self (by simpa using hi)] at e
      cases e
    · rw [List.getElem?_set_ne (Ne.symm h)] at e
      have := List.eq_of_mem_replicate (List.mem_of_getElem? e)
      cases this
  have pr : Prot L (rho0 n i a) (σ.set i (some (.ref a))) = Hid none L := funext fun b => propext ⟨fun h => by
    rcases h with ⟨i', h⟩ | h
    · exact absurd h (own i' b)
    · exact .inr h, fun h => by
    rcases h with h | h
    · cases h
    · exact .inr h⟩
  have R : Rel K ⟨Fz (Hid none L) H, none, L⟩ L (rho0 n i a) (σ.set i (some (.ref a))) H := by
    refine ⟨by simp [rho0, hl], fun x y b hx => absurd hx (own x b), fun x b o hx => absurd hx (own x b), tL, fun i' s e => ?_, by show Le _ (Fz _ H); rw [pr]; exact Le.refl, fun b e => (nomatch e), fun _ _ => Iff.rfl⟩
    unfold rho0 at e
    by_cases h : i' = i
    · subst h
      rw [List.getElem?_set_self (by simpa using hi)] at e
      cases e
      exact List.getElem?_set_self (by rw [hl]; exact hi)
    · rw [List.getElem?_set_ne (Ne.symm h)] at e
      have := List.eq_of_mem_replicate (List.mem_of_getElem? e)
      subst this
      trivial
  have old : ∀ {ρ' : Env} {σ' : L2.St} {H' : Hp}, Rel K ⟨Fz (Hid none L) H, none, L⟩ L ρ' σ' H' → ExtN H H' ∧ Tabs Tt H' := fun {ρ' σ' H'} R' => by
    refine ⟨fun b o hb nt => ?_, fun p hp => ?_⟩
    · have nh : ¬ Hid none L b := by
        rintro (h | ⟨u, h⟩)
        · cases h
        · rcases tL b u h with ⟨q, t, _, ps, e1, _⟩ | ⟨e1, m⟩
          · rw [hb] at e1
            exact nt _ (Option.some.inj e1)
          · rw [← hL] at h
            obtain ⟨p, _, e2⟩ := List.mem_map.mp h
            cases e2
            exact m.1 _ rfl
      exact fz_le _ _ (R'.base b o (fz_some.mpr ⟨nh, hb, nt⟩))
    · have hm2 : (p.1, HO.tbl #[.str p.2 0]) ∈ L := by rw [← hL]; exact List.mem_map.mpr ⟨p, hp, rfl⟩
      rcases R'.tst _ _ hm2 with ⟨q, t, e1, h⟩ | ⟨_, m⟩
      · cases e1
        exact h
      · exact absurd rfl (m.1 _)
  refine ⟨⟨Fz (Hid none L) H, none, L⟩, rfl, _, R, hp _ (fun ρ' e σ' H' R' => ?_) fun ρ' v σ' H' hr => ?_⟩
  · obtain ⟨v, ev, rv⟩ := R'.sl j _ e
    exact hnx v σ' H' ev (old R').1 (old R').2 (rp_leaf hw rv)
  · obtain ⟨R', _, rv⟩ := hr
    exact hrt v H' (old R').1 (old R').2 (rp_leaf hw rv)
theorem wdOk_ofN {K : PySem.W.Frag} {mg : Str → Option Value} {Tt : List (Addr × Str)} {wf : Ex → Option D} {l : List (Value × ATS)} {n i j : Nat} {mh : Addr → Value → MS} (hi : i < n) (hij : i ≠ j)
    (hex : ∀ (x : Ex) (w : D) (cls : Value), wf x = some w → mg x.cls = some cls → x.fs = [] ∧ LeafD w ∧ Pick K cls l (ts0 K mg mh))
    (hp : ∀ (x : Ex) (w : D) (cls : Value) (a : Addr) (k : Ks), wf x = some w → mg x.cls = some cls → (∀ ρ', ρ'[j]? = some (.sh w) → k.nx ρ') → (∀ ρ', k.rt (.vl w) ρ') → mh a cls (rho0 n i a) k) :
    WdOk K mg Tt wf (wdN K l n i j) := by
  intro x w cls d F H Q hF er hT ew hq
  obtain ⟨C, hC, rfl, hd⟩ := er
  obtain ⟨hfs, hw, hm⟩ := hex x w _ ew hC
  intro σ hl
  refine wNam_pick hm fun a hn => ⟨?_, ?_⟩
  · rcases hd with ⟨hd, _⟩ | ⟨dd, fs, _, z, _⟩
    · exact hd
    · exact absurd hfs z
  · refine tsOf_go (j := j) hi hl hT hw (fun k h1 h2 => hp x w _ a k ew hC h1 h2) (fun v σ' H' ev e t rp => ?_) fun v H' e t rp => hq v H' e t hw rp
    exact ⟨v, by rw [List.getElem?_set_ne hij]; exact ev, hq v H' e t hw rp⟩
end VL

set_option Elab.async false
set_option linter.all false
set_option maxRecDepth 100000
set_option maxHeartbeats 4000000
/-! VL44: makers of lambdas (their code objects are told); class facts by name; rules for suites (no Room). -/
namespace VL
open PySem PySem.Spec PyProof.Rows L2 LamX
/-! ### classes, by their names -/
def ExmM (K : PySem.W.Frag) (mg : Str → Option Value) (x y : Str) (b : Bool) : Prop := ∃ C C', mg x = some (.ref C) ∧ mg y = some (.ref C') ∧ PySem.W.exmOne K (.ref C) (.ref C') = some b
def KitM (K : PySem.W.Frag) (mg : Str → Option Value) (x y : Str) (b : Bool) : Prop := ∃ C, mg x = some (.ref C) ∧ iscK K mg (.ref C) y = some b
def KitT (K : PySem.W.Frag) (mg : Str → Option Value) (x : Str) (T : String) (b : Bool) : Prop := ∃ C, mg x = some (.ref C) ∧ iscB K (.ref C) T = some b
section
variable {K : PySem.W.Frag} {mg : Str → Option Value} {x y : Str} {T : String} {b : Bool} {C C' : Addr} {cls : Value}
theorem exmM_mk (h1 : mg x = some (.ref C)) (h2 : mg y = some (.ref C')) (h3 : PySem.W.exmOne K (.ref C) (.ref C') = some b) : ExmM K mg x y b := ⟨_, _, h1, h2, h3⟩
theorem kitM_mk (h1 : mg x = some (.ref C)) (h2 : mg y = some (.ref C')) (e : ExcC K C) (h3 : PySem.W.kitOne K (.ref C) (.ref C') = some b) : KitM K mg x y b := ⟨_, h1, by unfold iscK; simp only [h2, if_pos e]; exact h3⟩
theorem kitT_mk (h1 : mg x = some (.ref C)) (e : ExcC K C) (h3 : PySem.W.kitOne K (.ref C) (.type T) = some b) : KitT K mg x T b := ⟨_, h1, by unfold iscB; simp only [if_pos e]; exact h3⟩
theorem ExmM.at (h : ExmM K mg x y b) (hc : mg x = some cls) (hy : mg y = some (.ref C')) : PySem.W.exmOne K cls (.ref C') = some b := by
  obtain ⟨D, D', h1, h2, h3⟩ := h
  rw [hc] at h1; cases h1
  rw [hy] at h2; cases h2
  exact h3
theorem KitM.at (h : KitM K mg x y b) (hc : mg x = some cls) : iscK K mg cls y = some b := by
  obtain ⟨D, h1, h3⟩ := h
  rw [hc] at h1; cases h1
  exact h3
theorem KitT.at (h : KitT K mg x T b) (hc : mg x = some cls) : iscB K cls T = some b := by
  obtain ⟨D, h1, h3⟩ := h
  rw [hc] at h1; cases h1
  exact h3
end
/-! ### rules without Room -/
section
variable {X : Cx} {c : Cf} {W : WX} {pos apos cpos : Pos} {a b o e : Expr} {ma mb mo : ME} {mas : MA}
theorem un_in {k : Nat} {A : Around} (hr : Room (k + 1) A) (env : PySem.Env) : (A.deeper env).units + 65 < cLine := by
  have := (hr.deeper env).un
  omega
theorem st_eqU (hu : X.A.units + 65 < cLine) (ha : SE X c W a ma) (hb : SE X c W b mb) (hm : behindInMarks .Eq b = false := by rfl) : ST X c W (.Compare a [.Eq] [b] pos) (sBl (sBin s_eq ma mb)) :=
  st_cmp (op_eqD (by omega)) os_eq m_eq ha hb hm
theorem se_ixU (hu : X.A.units + 65 < cLine) (ha : SE X c W a ma) (hb : SE X c W b mb) (hs : PlainIx b := by intro _ _; rfl) : SE X c W (.Subscript a b pos) (sBin s_ixD ma mb) :=
  se_of (pe_ix (IxR.or ix_seq (ix_dict (by omega))) ha.run hb.run hs) (mono_bin m_ixD ha.mo hb.mo) fun _ _ _ h => bin_core os_ixD m_ixD ha hb h
theorem se_idxU (hu : X.A.units + 65 < cLine) (ho : SE X c W o mo) (ha : SA X c W [e] mas) (hbase : attributeBase o "index" X.env (eval o X.env) = eval o X.env := by rfl)
    (hfew : ((backTo cpos (starEach [e] X.env)).all (fun x => !x.1) && (backToKw cpos (keywordEach [] X.env)).all (fun x => x.1.isSome)
      && decide ([e].length + ([] : List Keyword).length + (if ([] : List Keyword).isEmpty then 0 else 1) < 30)) = true := by rfl)
    (hline : (apos.endLine == cpos.line) = true := by rfl) (he : starEach [e] X.env = (false, eval e X.env) :: starEach [] X.env := by rfl) (hplain : (backTo cpos (starEach [] X.env)).any (·.1) = false := by rfl) :
    SE X c W (.Call (.Attribute o "index" apos) [e] [] cpos) (sCnt1 s_idx mo mas) := by
  refine se_of (pe_bm PySem.F.plainAttrs_list PySem.F.slot_list_index PySem.F.type_list_index (mt_indexD (by omega)) ho.run ha.run hbase hfew hline he hplain) (mono_cnt1 mc_idx ho.mo ha.mo) fun σ H Q ⟨T, ρ, R, q⟩ => ?_
  refine ⟨T, ρ, R, ho.mo _ _ _ _ _ (fun r ρ1 ⟨⟨xs, e0⟩, q⟩ v H1 hr => ?_) (fun _ _ h => h) q⟩
  obtain ⟨R1, l1, o1⟩ := hr.opr
  have p1 := o1.op R1 e0
  obtain ⟨a, vs, rfl, e1, r1⟩ := p1.list fr_le
  refine ⟨.inl ⟨rfl, vs, SqL.of e1⟩, T, ρ1, R1, ha.mo _ _ _ _ _ (fun rs ρ2 ⟨d, ds, e2, e3, q⟩ ws H2 ⟨R2, l2, o2⟩ => ?_) (fun x ρ' h => kX_le l1 h) q⟩
  have p2 := (o1.le l2).op R2 e2
  have p3 := Opr.ops R2 o2 e3
  unfold s_idx at q
  split at q
  · rename_i xs' d' heq
    cases heq
    obtain ⟨h1, h2, j, z, e4, e5, e6, q⟩ := q
    obtain ⟨w, ew, o4⟩ := ops1 p3
    subst ew
    have rl := Op.rp fr_le p2
    have ry := Op.rp fr_le o4
    refine ⟨a, w, d', xs', j, z, rfl, rfl, Rp.dp rl (shp_lay h1), Rp.dp ry (shp_lay h2), h1, h2, e4, e5, e6, q _ _ ((res_vl R2 (.int _)).le (l1.trans l2))⟩
  · exact q.elim
end
/-! ### defs whose code object is told -/
structure FunC (K : PySem.W.Frag) (mg : Str → Option Value) (x : Str) (st : Stmt) (ps : List Str) (cc : Addr) : Prop where
  ex : ∃ (f : Addr) (oc : Value) (od : Option Addr) (kV doc pm : Value) (an : Option Addr) (ct : Value) (osl : Array (Option Value)), mg x = some (.ref f) ∧
    K.lookup f = some ⟨oc, od, .func (PySem.W.fnOf x x (defArgs st) (defBody st) (defScope st) .none kV doc pm an (.ref cc) ct), osl⟩ ∧ PySem.W.codeIn K (.ref cc) x = true ∧ PySem.W.keepIn K (.ref f) = true ∧
    Binds K (PySem.W.fnOf x x (defArgs st) (defBody st) (defScope st) .none kV doc pm an (.ref cc) ct) ps []
/-- a def, of which its body's text is told, too -/
structure FunT (K : PySem.W.Frag) (mg : Str → Option Value) (x : Str) (st : Stmt) (ps : List Str) : Prop where
  ex : ∃ (f : Addr) (oc : Value) (od : Option Addr) (kV doc pm : Value) (an : Option Addr) (cd ct : Value) (osl : Array (Option Value)), mg x = some (.ref f) ∧
    K.lookup f = some ⟨oc, od, .func (PySem.W.fnOf x x (defArgs st) (defBody st) (defScope st) .none kV doc pm an cd ct), osl⟩ ∧ PySem.W.codeIn K cd x = true ∧ PySem.W.keepIn K (.ref f) = true ∧
    Binds K (PySem.W.fnOf x x (defArgs st) (defBody st) (defScope st) .none kV doc pm an cd ct) ps []
def BodyXC (P : Program) (w : World) (K : PySem.W.Frag) (mg : Str → Option Value) (base : Heap) (qual : Str) (st : Stmt) (cc : Addr) (f : Addr) (N : List Str) (k : Nat) (io : Bool) (ok : Cf → Prop) (m : MS) : Prop :=
  ∀ (A : Around) (outer : List PySem.Env) (s : Shared) (H : Hp) (E : XK), Room k (A.deeper (envOfC qual (defScope st) s.heap.objs.size f (.ref cc))) → ∀ (c : Cf) (W : WX), (io = false → c.io = none) → ok c → Takes (cxOf (L2.CX P w) P w K mg base N qual (defScope st) f (.ref cc) A outer s H E) W →
    SSs (cxOf (L2.CX P w) P w K mg base N qual (defScope st) f (.ref cc) A outer s H E) c W (defBody st) m
abbrev TmOk (Tm : List (Addr × HO)) (c : Cf) : Prop := ∀ p : Addr × HO, IsTb p.2 → (p ∈ c.T0 ↔ p ∈ Tm)
section
variable {P : Program} {w : World} {K : PySem.W.Frag} {mg : Str → Option Value} {base : Heap} {x : Str} {st : Stmt} {cc : Addr} {N ps : List Str} {k n : Nat} {m : MS} {Tm : List (Addr × HO)}
theorem fnC_S {f : Addr} {oc : Value} {od : Option Addr} {kV doc pm : Value} {an : Option Addr} {ct : Value} {osl : Array (Option Value)} (lk : K.lookup f = some ⟨oc, od, .func (PySem.W.fnOf x x (defArgs st) (defBody st) (defScope st) .none kV doc pm an (.ref cc) ct), osl⟩) (hcd : PySem.W.codeIn K (.ref cc) x = true) (S : FnScope N ps (defScope st)) (hn : ps.length = 1) (hN : 1 ≤ N.length) (hb : ∀ f, BodyXC P w K mg base x st cc f N k false (TmOk Tm) m) :
    FnOk P w K mg base (L2.CX P w) (k + 1) f (PySem.W.fnOf x x (defArgs st) (defBody st) (defScope st) .none kV doc pm an (.ref cc) ct) ps (spSX K Tm (wpScX N.length m)) := by
  refine fn_of lk hcd S (fun vs H Q E h => ?_) (fun A outer s H vs Q E hr h => ?_)
  · obtain ⟨a, ns, T, rfl, _⟩ := h
    rw [hn]; rfl
  obtain ⟨a, ns, T, rfl, hT, hm, hs, q⟩ := h
  have tk : Takes (cxOf (L2.CX P w) P w K mg base N x (defScope st) f (.ref cc) A outer s H E) (fun cls d _ H => E cls d H) := takes_of rfl rfl rfl rfl
  have B := hb f A outer s H E hr ⟨Fz (Hid none T) H, none, T⟩ _ (fun _ => rfl) hm tk
  have atS : ∀ {i : Nat} {s : Sl}, ([Sl.sc ns])[i]? = some s → i = 0 ∧ s = .sc ns := fun {i s} e => by
    cases i with
    | zero => exact ⟨rfl, by simpa using e.symm⟩
    | succ j => simp at e
  obtain ⟨R, ef⟩ := Rel.entry (K := K) (N := N) (vs := [.ref a]) (io := none) (ρ := [.sc ns]) (m := N.length - 1) hT (by simp only [List.length_cons, List.length_nil]; omega) rfl (fun a e => nomatch e)
    (fun i d e => by obtain ⟨_, e⟩ := atS e; cases e) (fun i d v e ev => by obtain ⟨_, e⟩ := atS e; cases e)
    (fun i ns' e => by obtain ⟨h, e⟩ := atS e; cases e; subst h; exact ⟨a, rfl, hs⟩) (fun i v e => by obtain ⟨_, e⟩ := atS e; cases e)
  refine ⟨_, B.run, _, R, B.mo _ _ _ ?_ q⟩
  refine ⟨fun ρ q σ' H' R' => ?_, fun r ρ q v σ' H' h => q.2 v H' (ret_ok h (nb_val q.1) none (fun a e => nomatch e)), fun _ q => q.elim, fun _ q => q.elim, fun x ρ q cls d σ' H' _ _ => q.elim⟩
  exact q .non H' (ret_ok (c := ⟨Fz (Hid none T) H, none, T⟩) (r := .vl .none) (res_none R') ⟨_, rfl⟩ none (fun a e => nomatch e))
theorem fnC_P (F : FunC K mg x st ps cc) (S : FnScope N ps (defScope st)) (hn : ps.length = n) (hN : n ≤ N.length) (hb : ∀ f, BodyXC P w K mg base x st cc f N k false (TmOk Tm) m) :
    FnX P w K mg base (k + 1) x ps (spPT K mg Tm n (wpF n N.length m)) := by
  obtain ⟨f, oc, od, kV, doc, pm, an, ct, osl, hm, lk, hcd, kp, hbd⟩ := F.ex
  refine ⟨f, _, fn_of lk hcd S (fun vs H Q E h => ?_) (fun A outer s H vs Q E hr h => ?_), hm, kp, hbd⟩
  · obtain ⟨ds, T, _, _, r, hl, _⟩ := h
    rw [r.length, hl, hn]
  obtain ⟨ds, T, hT, hm, ra, hl, _, q⟩ := h
  have tk : Takes (cxOf (L2.CX P w) P w K mg base N x (defScope st) f (.ref cc) A outer s H E) (fun cls d _ H => E cls d H) := takes_of rfl rfl rfl rfl
  have B := hb f A outer s H E hr ⟨Fz (Hid none T) H, none, T⟩ _ (fun _ => rfl) hm tk
  obtain ⟨R, ef⟩ := Rel.entry (K := K) (N := N) (vs := vs) (io := none) (ρ := ds.map Sl.sh) (m := N.length - n) hT (by rw [List.length_map, hl]; omega) (by rw [List.length_map]; exact ra.length) (fun a e => nomatch e)
    (fun i d e => by rw [List.getElem?_map] at e; cases h : ds[i]? <;> rw [h] at e <;> cases e)
    (fun i d v e ev => by
      rw [List.getElem?_map] at e
      obtain ⟨d', e1, e2⟩ := ra.get ev
      rw [e1] at e; cases e
      exact e2)
    (fun i ns e => by rw [List.getElem?_map] at e; cases h : ds[i]? <;> rw [h] at e <;> cases e) (fun i v e => by rw [List.getElem?_map] at e; cases h : ds[i]? <;> rw [h] at e <;> cases e)
  refine ⟨_, B.run, _, R, B.mo _ _ _ ?_ q⟩
  refine ⟨fun ρ q σ' H' R' => ?_, fun r ρ q v σ' H' h => q.2 v H' (ret_ok h (nb_val q.1) none (fun a e => nomatch e)), fun _ q => q.elim, fun _ q => q.elim, fun x ρ q cls d σ' H' R' er => ?_⟩
  · exact q .non H' (ret_ok (c := ⟨Fz (Hid none T) H, none, T⟩) (r := .vl .none) (res_none R') ⟨_, rfl⟩ none (fun a e => nomatch e))
  · have lf : Le (Fr T ρ σ' H') (Fz (Hid none T) H') := fz_mono (fun a _ h => by
      rcases h with h | h
      · cases h
      · exact .inr h) Le.refl
    exact q cls d H' ⟨R'.tst, R'.base.trans lf, exR_le lf er⟩
theorem fnC_I (F : FunC K mg x st ps cc) (S : FnScope N ps (defScope st)) (hn : ps.length = n) (hN : n ≤ N.length) (hb : ∀ f, BodyXC P w K mg base x st cc f N k true (TmOk Tm) m) :
    FnX P w K mg base (k + 1) x ps (spIT K Tm n (wpI n N.length m)) := by
  obtain ⟨f, oc, od, kV, doc, pm, an, ct, osl, hm, lk, hcd, kp, hbd⟩ := F.ex
  refine ⟨f, _, fn_of lk hcd S (fun vs H Q E h => ?_) (fun A outer s H vs Q E hr h => ?_), hm, kp, hbd⟩
  · obtain ⟨a, ws, d0, ds, T, rfl, _, _, _, _, r, hl, _⟩ := h
    rw [List.length_cons, r.length, hn, ← hl, List.length_cons]
  obtain ⟨a, ws, d0, ds, T, rfl, hT, hm, ha, ob, ra, hl, d1, ds1, e1, _, q⟩ := h
  cases e1
  have tk : Takes (cxOf (L2.CX P w) P w K mg base N x (defScope st) f (.ref cc) A outer s H E) (fun cls d _ H => E cls d H) := takes_of rfl rfl rfl rfl
  have B := hb f A outer s H E hr ⟨Fz (Hid (some a) T) H, some a, T⟩ _ (fun z => nomatch z) hm tk
  have atS : ∀ {i : Nat} {s : Sl}, (Sl.ow d0 :: ds.map Sl.sh)[i]? = some s → (i = 0 ∧ s = .ow d0) ∨ ∃ j d, i = j + 1 ∧ ds[j]? = some d ∧ s = .sh d := fun {i s} e => by
    cases i with
    | zero => exact .inl ⟨rfl, by simpa using e.symm⟩
    | succ j =>
      rw [List.getElem?_cons_succ, List.getElem?_map] at e
      cases h : ds[j]? with
      | none => rw [h] at e; cases e
      | some d => rw [h] at e; cases e; exact .inr ⟨j, d, rfl, h, rfl⟩
  obtain ⟨R, ef⟩ := Rel.entry (K := K) (N := N) (vs := .ref a :: ws) (io := some a) (ρ := .ow d0 :: ds.map Sl.sh) (m := N.length - n) hT (by simp only [List.length_cons, List.length_map] at hl ⊢; omega) (by simp [ra.length]) (fun b e => by
      cases e
      exact ⟨ha, ⟨d0, rfl⟩, rfl⟩)
    (fun i d e => by
      rcases atS e with ⟨h, e⟩ | ⟨j, d', _, _, e⟩
      · cases e; exact ⟨h, a, rfl, ob⟩
      · cases e)
    (fun i d v e ev => by
      rcases atS e with ⟨h, e⟩ | ⟨j, d', h, e1, e⟩
      · cases e
      · cases e
        subst h
        obtain ⟨d2, e2, e3⟩ := ra.get (i := j) (by simpa using ev)
        rw [e1] at e2; cases e2
        exact e3)
    (fun i ns e => by
      rcases atS e with ⟨h, e⟩ | ⟨j, d', h, e1, e⟩ <;> cases e) (fun i v e => by
      rcases atS e with ⟨h, e⟩ | ⟨j, d', h, e1, e⟩ <;> cases e)
  refine ⟨_, B.run, _, R, B.mo _ _ _ ?_ q⟩
  refine ⟨fun ρ q σ' H' R' => ?_, fun r ρ q v σ' H' h => ?_, fun _ q => q.elim, fun _ q => q.elim, fun x ρ q cls d σ' H' _ _ => ?_⟩
  · obtain ⟨d, e, q⟩ := q
    exact q .non H' (ret_ok (c := ⟨Fz (Hid (some a) T) H, some a, T⟩) (r := .vl .none) (res_none R') ⟨_, rfl⟩ (some d) (fun b _ => ⟨d, e, rfl⟩))
  · obtain ⟨h1, d, e, q⟩ := q
    exact q v H' (ret_ok h (nb_val h1) (some d) (fun b _ => ⟨d, e, rfl⟩))
  · obtain ⟨_, _, z⟩ := q
    exact z.elim
/-! ### defs that hand on no lambda themselves, but call such -/
theorem fnT_P (F : FunM K mg x st ps) (S : FnScope N ps (defScope st)) (hn : ps.length = n) (hN : n ≤ N.length) (hb : ∀ f, BodyXT P w K mg base x st f N k false (TmOk Tm) m) : FnX P w K mg base (k + 1) x ps (spPT K mg Tm n (wpF n N.length m)) := by
  obtain ⟨f, fd, h1, h2, h3⟩ := F.ex
  exact ⟨f, fd, fn_PT h1 S hn hN (hb f), h2, h1.kp, h3⟩
theorem fnT_I (F : FunM K mg x st ps) (S : FnScope N ps (defScope st)) (hn : ps.length = n) (hN : n ≤ N.length) (hb : ∀ f, BodyXT P w K mg base x st f N k true (TmOk Tm) m) : FnX P w K mg base (k + 1) x ps (spIT K Tm n (wpI n N.length m)) := by
  obtain ⟨f, fd, h1, h2, h3⟩ := F.ex
  exact ⟨f, fd, fn_IT h1 S hn hN (hb f), h2, h1.kp, h3⟩
end
section
variable {X : Cx} {c : Cf} {W : WX} {k j n i : Nat} {ps : List Str} {F : FP} {x y : Str} {p p2 pos : Pos} {e : Expr} {es : List Expr} {ma : MA} {Tm : List (Addr × HO)}
theorem se_ftP (hT : TmOk Tm c) (G : FnX X.prog X.w X.K X.mg X.base k x ps (spPT X.K X.mg Tm n F)) (hF : MonoF F) (hr : Room j X.A) (hj : k ≤ j) (hg : Gl X x) (ha : SA X c W (e :: es) ma)
    (tk : Takes X W := by first | assumption | exact LamX.takes0)
    (hdb : (x == ("__debug__" : Str)) = false := by decide) (he : starEach (e :: es) X.env = (false, eval e X.env) :: starEach es X.env := by rfl) (hpl : (backTo pos (starEach es X.env)).any (·.1) = false := by rfl) :
    SE X c W (.Call (.Name x p) (e :: es) [] pos) (sCallPX n F ma) := by
  obtain ⟨f, fd, h1, h2, h3, h4⟩ := G.ex
  exact se_callPT hT h1 hF (hr.mono hj) hg h2 h3 h4 ha tk hdb he hpl
theorem se_ftI (hT : TmOk Tm c) (G : FnX X.prog X.w X.K X.mg X.base k x ps (spIT X.K Tm n F)) (hF : MonoF F) (hr : Room j X.A) (hj : k ≤ j) (hg : Gl X x)
    (hN : X.N[i]? = some y) (hv : Vis X.env.scope y) (ha : SA X c W es ma) (hdy : (y == ("__debug__" : Str)) = false := by decide) (hcy : (y == ("__classdict__" : Str)) = false := by decide)
    (hdb : (x == ("__debug__" : Str)) = false := by decide) (he : starEach (.Name y p2 :: es) X.env = (false, eval (.Name y p2) X.env) :: starEach es X.env := by rfl) (hpl : (backTo pos (starEach es X.env)).any (·.1) = false := by rfl) :
    SE X c W (.Call (.Name x p) (.Name y p2 :: es) [] pos) (sCallIX i n F ma) := by
  obtain ⟨f, fd, h1, h2, h3, h4⟩ := G.ex
  exact se_callIT hT h1 hF (hr.mono hj) hg h2 h3 h4 hN hv ha hdy hcy hdb he hpl
/-- word(lambda: e), the teller by its bundle -/
theorem se_lamT {Tt : List (Addr × Str)} {ok : Str} {wf : Ex → Option D} {wd : Value → Option Addr → Hp → VK → Prop} {mb : ME} {a : Str} {cc P : Addr} {st : Stmt} {Ng : List Str}
    {params : Arguments} {body : Expr} {scope : Scope} {lpos : Pos} (F : FunT X.K X.mg x st [a]) (C : TabC c Tt) (hw : WdOk X.K X.mg Tt wf wd) (hg : Gl X x) (Sg : FnScope Ng [a] (defScope st)) (hNg : Ng[0]? = some a) (hva : Vis (defScope st) a)
    (hG : ∀ (g : Addr) (cdv : Value), GivesTo X Ng x (defScope st) g cdv (defBody st) a (X.env.qual ++ "<lambda>") (TTw ok wd))
    (TB : TabB X.base X.mg cc P) (hcode : X.env.code = .ref cc) (hmT : (P, X.env.qual ++ "<lambda>") ∈ Tt) (hu : ∀ p ∈ Tt, p.1 = P → p.2 = X.env.qual ++ "<lambda>") (hr : Room j X.A) (hj : k + 2 ≤ j) (L : LamS X.env.scope scope) (hdef : defaultsOf params X.env = ([], []))
    (hbind : ∀ (q : Str) (cl : List (Str × Addr)) (pm cv ctv : Value), bindArgs (PySem.W.kla_fn "<lambda>" q params body scope cl pm cv ctv) ⟨[], []⟩ = pure []) (mo : Mono mb)
    (hbody : ∀ (A : Around) (outer : List PySem.Env) (s : Shared) (H : Hp) (E : XK) (f c' : Addr), Room k (A.deeper (lamEnv X scope s.heap.objs.size f c')) → ∀ W, Takes (lamCx X A outer s H E scope f c') W → SE (lamCx X A outer s H E scope f c') c W body mb)
    (hdb : (x == ("__debug__" : Str)) = false := by decide) (hd : (a == ("__debug__" : Str)) = false := by decide) (hcd : (a == ("__classdict__" : Str)) = false := by decide) :
    SE X c W (.Call (.Name x p) [.Lambda params body scope lpos] [] pos) (sLam ok wf mb) := by
  obtain ⟨f, oc, od, kV, doc, pm, an, cd, ct, osl, hm, lk, hcc, kp, hbd⟩ := F.ex
  exact se_lam C hw hg hm kp lk hcc hbd Sg hNg hva (hG _ _) TB hcode hmT hu (hr.mono hj) L hdef hbind mo hbody hdb hd hcd
end
end VL

set_option Elab.async false
set_option linter.all false
set_option maxRecDepth 100000
set_option maxHeartbeats 4000000
/-! VL45: words told of exceptions, by a list; addresses of classes by name. -/
namespace VL
open PySem PySem.Spec PyProof.Rows L2 LamX
def adr (mg : Str → Option Value) (x : Str) : Addr := match mg x with
  | some (.ref C) => C
  | _ => 0
def IsC (mg : Str → Option Value) (x : Str) : Prop := ∃ C, mg x = some (.ref C)
theorem IsC.at {mg : Str → Option Value} {x : Str} (h : IsC mg x) : mg x = some (.ref (adr mg x)) := by
  obtain ⟨C, e⟩ := h
  unfold adr
  rw [e]
theorem tt_uniq {P : Addr} {q : Str} : ∀ {Tt : List (Addr × Str)}, (Tt.map (·.1)).Nodup → (P, q) ∈ Tt → ∀ p ∈ Tt, p.1 = P → p.2 = q
  | [], _, h, _, _, _ => nomatch h
  | a :: l, hn, h, p, hp, e => by
    rw [List.map_cons, List.nodup_cons] at hn
    rcases List.mem_cons.mp h with h | h
    · rcases List.mem_cons.mp hp with hp | hp
      · rw [hp, ← h]
      · exact absurd (List.mem_map.mpr ⟨p, hp, by rw [e, ← h]⟩) hn.1
    · rcases List.mem_cons.mp hp with hp | hp
      · exact absurd (List.mem_map.mpr ⟨_, h, by rw [← e, hp]⟩) hn.1
      · exact tt_uniq hn.2 h p hp e
/-- the word of an exception without fields -/
def wfL (wl : List (Str × D)) : Ex → Option D := fun x => if x.fs.isEmpty then wl.lookup x.cls else none
theorem wfL_mem {wl : List (Str × D)} {x : Ex} {w : D} (h : wfL wl x = some w) : x.fs = [] ∧ (x.cls, w) ∈ wl := by
  unfold wfL at h
  split at h
  · rename_i e
    exact ⟨List.isEmpty_iff.mp e, PySem.mem_of_lookup h⟩
  · cases h
theorem wdOk_lst {K : PySem.W.Frag} {mg : Str → Option Value} {Tt : List (Addr × Str)} {wl : List (Str × D)} {l : List (Value × ATS)} {n i j : Nat} {mh : Addr → Value → MS} (hi : i < n) (hij : i ≠ j)
    (hex : ∀ p ∈ wl, ∀ cls, mg p.1 = some cls → LeafD p.2 ∧ Pick K cls l (ts0 K mg mh))
    (hp : ∀ p ∈ wl, ∀ (cls : Value) (a : Addr) (k : Ks), mg p.1 = some cls → (∀ ρ', ρ'[j]? = some (.sh p.2) → k.nx ρ') → (∀ ρ', k.rt (.vl p.2) ρ') → mh a cls (rho0 n i a) k) :
    WdOk K mg Tt (wfL wl) (wdN K l n i j) := by
  refine wdOk_ofN (mh := mh) hi hij (fun x w cls h hc => ?_) (fun x w cls a k h hc h1 h2 => ?_)
  · obtain ⟨h1, h2⟩ := wfL_mem h
    exact ⟨h1, hex _ h2 cls hc⟩
  · obtain ⟨h3, h4⟩ := wfL_mem h
    exact hp _ h4 cls a k hc h1 h2
theorem ss_dead {Z : Cx} {sts : List Stmt} : PSs Z sts (fun _ _ _ => False) := ⟨fun _ _ _ _ _ _ h => h.elim⟩
end VL

set_option Elab.async false
set_option linter.all false
set_option maxRecDepth 100000
set_option maxHeartbeats 4000000
/-! VL46: xs.count(d), items that are data. -/
namespace VL
open PySem PySem.Spec PyProof.Rows L2 LamX
def rCntD (K : PySem.W.Frag) : V → List V → Hp → VK → Prop := fun x xs H Q => ∃ (a : Addr) (y : V) (d : D) (ds : List D), x = V.ref a ∧ xs = [y] ∧ Dp K H (V.ref a) (.list ds) ∧ Dp K H y d ∧
  SeqAt.shaped (.list ds) = true ∧ SeqAt.shaped d = true ∧ Q (.int (ds.countP fun z => PyData.eqv z d : Nat)) H
section
variable {X : Cx}
theorem cnt_reads {h : Heap} {its : List Value} {ds : List D} {as : List Addr} {d : D} (r : ReadsAll h its ds as) (hc : PyData.canLayAll0 ds = true) : its.countP (fun u => PyData.eqv (SeqAt.readOf h u) d) = ds.countP fun z => PyData.eqv z d := by
  have e : its.map (SeqAt.readOf h) = ds := SeqAt.readsAll_map ds its as hc r
  rw [← e, List.countP_map]
  rfl
theorem mt_lcountD (hu : X.A.units + 65 < cLine) : MtR X "list.count" (rCntD X.K) := by
  intro pins s σ H x xs v us Q I rx rxs h
  obtain ⟨a, y, d, ds, rfl, rfl, hl, hy, sl, sd, q⟩ := h
  cases rx
  obtain ⟨uy, rfl, ry⟩ := rxs.one
  obtain ⟨bs, r1⟩ := Dp.reads I d y uy hy ry
  have hxs : PyData.canLayAll0 ds = true := SeqAt.canLay_of_shaped sl
  have room : X.A.units + 1 + min (PyData.depthAll ds) d.depth < cLine := room_in_shaped sd hu
  cases hl with
  | lst hs ha =>
    obtain ⟨its, rv, ⟨⟨cls, dd, data, sls⟩, n, ho, hc, hdn, hdt⟩, hlen⟩ := I.list hs
    simp only at hc hdt
    subst hc hdt
    obtain ⟨as, h4⟩ := Dp.readsAll I ds _ its ha rv
    refine call_meets PySem.F.slot_list_count ⟨_, ho, rfl⟩ PySem.F.entry_list_count (PySem.F.args_list_count_2 _ _)
      (SeqAt.list_countAt a its.toArray n dd sls uy fun u => PyData.eqv (SeqAt.readOf s.heap u) d) ⟨ho, SeqAt.items_eqAt (vs := its.toArray) (show ReadsAll s.heap its.toArray.toList ds as from h4) r1 hxs (SeqAt.canLay_of_shaped sd) room, ?_⟩
    refine ⟨.int (ds.countP fun z => PyData.eqv z d : Nat), H, I.tok _, ⟨s.toks, ?_⟩, q⟩
    show Value.int ((its.toArray.toList.countP _ : Nat) : Int) s.toks = _
    rw [show its.toArray.toList = its from rfl, cnt_reads h4 hxs]
end
def s_cntL : SC := fun ds k => match ds with
  | [.list xs, d] => shp (.list xs) = true ∧ shp d = true ∧ k (.vl (.int (xs.countP fun z => PyData.eqv z d : Nat)))
  | _ => False
theorem mc_cntL : MonoC s_cntL := by
  intro ds k k' h q
  unfold s_cntL at *
  split at q
  · exact ⟨q.1, q.2.1, h _ q.2.2⟩
  · exact q.elim
section
variable {X : Cx} {c : Cf} {W : WX} {apos cpos : Pos} {o e : Expr} {mo : ME} {ma : MA}
theorem se_cntL (hu : X.A.units + 65 < cLine) (ho : SE X c W o mo) (ha : SA X c W [e] ma) (hbase : attributeBase o "count" X.env (eval o X.env) = eval o X.env := by rfl)
    (hfew : ((backTo cpos (starEach [e] X.env)).all (fun x => !x.1) && (backToKw cpos (keywordEach [] X.env)).all (fun x => x.1.isSome)
      && decide ([e].length + ([] : List Keyword).length + (if ([] : List Keyword).isEmpty then 0 else 1) < 30)) = true := by rfl)
    (hline : (apos.endLine == cpos.line) = true := by rfl) (he : starEach [e] X.env = (false, eval e X.env) :: starEach [] X.env := by rfl) (hplain : (backTo cpos (starEach [] X.env)).any (·.1) = false := by rfl) :
    SE X c W (.Call (.Attribute o "count" apos) [e] [] cpos) (sCnt1 s_cntL mo ma) := by
  refine se_of (pe_bm PySem.F.plainAttrs_list PySem.F.slot_list_count PySem.F.type_list_count (mt_lcountD hu) ho.run ha.run hbase hfew hline he hplain) (mono_cnt1 mc_cntL ho.mo ha.mo) fun σ H Q ⟨T, ρ, R, q⟩ => ?_
  refine ⟨T, ρ, R, ho.mo _ _ _ _ _ (fun r ρ1 ⟨⟨xs, e0⟩, q⟩ v H1 hr => ?_) (fun _ _ h => h) q⟩
  obtain ⟨R1, l1, o1⟩ := hr.opr
  have p1 := o1.op R1 e0
  obtain ⟨a, vs, rfl, e1, r1⟩ := p1.list fr_le
  refine ⟨.inl ⟨rfl, vs, SqL.of e1⟩, T, ρ1, R1, ha.mo _ _ _ _ _ (fun rs ρ2 ⟨d, ds, e2, e3, q⟩ ws H2 ⟨R2, l2, o2⟩ => ?_) (fun x ρ' h => kX_le l1 h) q⟩
  have p2 := (o1.le l2).op R2 e2
  have p3 := Opr.ops R2 o2 e3
  unfold s_cntL at q
  split at q
  · rename_i xs' d' heq
    cases heq
    obtain ⟨h1, h2, q⟩ := q
    obtain ⟨w, ew, o4⟩ := ops1 p3
    subst ew
    exact ⟨a, w, d', xs', rfl, rfl, Rp.dp (Op.rp fr_le p2) (shp_lay h1), Rp.dp (Op.rp fr_le o4) (shp_lay h2), h1, h2, q _ _ ((res_vl R2 (.int _)).le (l1.trans l2))⟩
  · exact q.elim
end
end VL

set_option Elab.async false
set_option linter.all false
set_option maxRecDepth 100000
set_option maxHeartbeats 4000000
/-! VL47: a == b < c; the law's def from its bundle. -/
namespace VL
open PySem PySem.Spec PyProof.Rows L2 LamX
section
variable {X : Cx} {c : Cf} {W : WX} {pos : Pos} {a b e3 : Expr} {ma mb mc : ME} {k : Nat} {op' : CmpOp}
theorem st_eqOrd (ho' : isOrd op' = true) (hr : Room k X.A) (ha : SE X c W a ma) (hb : SE X c W b mb) (hc : SE X c W e3 mc) (hm : lastMarks [.Eq, op'] [b, e3] = false := by with_unfolding_all rfl) :
    ST X c W (.Compare a [.Eq, op'] [b, e3] pos) (sBl (sChain s_eq (s_ord op') ma mb mc)) := st_chain (op_eqD (by have := units_of hr; omega)) (or_ord ho' hr) os_eq os_ord m_eq m_ord ha hb hc hm
theorem se_eqOrd (ho' : isOrd op' = true) (hr : Room k X.A) (ha : SE X c W a ma) (hb : SE X c W b mb) (hc : SE X c W e3 mc) (hm : lastMarks [.Eq, op'] [b, e3] = false := by with_unfolding_all rfl) :
    SE X c W (.Compare a [.Eq, op'] [b, e3] pos) (sChain s_eq (s_ord op') ma mb mc) := se_chain (op_eqD (by have := units_of hr; omega)) (or_ord ho' hr) os_eq os_ord m_eq m_ord ha hb hc hm
end
/-! ### lists of flags -/
theorem eqv_bb {a b : Bool} : PyData.eqv (.bool a) (.bool b) = (a == b) := by cases a <;> cases b <;> simp [PyData.eqv]
theorem shp_bools (bs : List Bool) : shp (.list (bs.map PyData.bool)) = true := by
  have h1 : PyData.canLayAll0 (bs.map PyData.bool) = true := by
    induction bs with
    | nil => simp [PyData.canLayAll0]
    | cons a l ih => simp [PyData.canLayAll0, PyData.canLay0, ih]
  have h2 : PyData.depthAll (bs.map PyData.bool) = 0 := by
    clear h1
    induction bs with
    | nil => simp [PyData.depthAll]
    | cons a l ih => simp [PyData.depthAll, PyData.depth, ih]
  simp [shp, SeqAt.shaped, PyData.canLay0, PyData.depth, h1, h2]
theorem cnt1_bools {k : Rs → Prop} (bs : List Bool) (h : bs.count true = 1) (q : k (.vl (.int 1))) : s_cntL [.list (bs.map PyData.bool), .bool true] k := by
  refine ⟨shp_bools bs, by simp [shp, SeqAt.shaped, PyData.canLay0, PyData.depth], ?_⟩
  have e : (bs.map PyData.bool).countP (fun z => PyData.eqv z (.bool true)) = 1 := by
    rw [← h, List.count, List.countP_map]
    refine List.countP_congr fun b _ => ?_
    simp [eqv_bb]
  rw [e]
  exact q
theorem idx_bools {k : Rs → Prop} (bs : List Bool) (j : Nat) (h : bs[j]? = some true) (hn : ∀ m, m < j → bs[m]? = some false) (q : k (.vl (.int j))) : s_idx [.list (bs.map PyData.bool), .bool true] k := by
  refine ⟨shp_bools bs, by simp [shp, SeqAt.shaped, PyData.canLay0, PyData.depth], j, .bool true, by rw [List.getElem?_map, h]; rfl, by simp [eqv_bb], fun m z hm e => ?_, q⟩
  rw [List.getElem?_map, hn m hm] at e
  cases e
  simp [eqv_bb]
end VL

set_option Elab.async false
set_option linter.all false
set_option maxRecDepth 100000
set_option maxHeartbeats 4000000
/-! VL48: the hand that multiplies its cells. -/
namespace VL
open PySem PySem.Spec PyProof.Rows L2
local macro_rules | `(tactic| walk_at "vl") => `(tactic| simp only [wpF, wpI, wpSc, cur, sSeq, sIte, sRet, sRetN, sAsg, sExpr, sSkip, put, sTru, sBl, sAndB, sOrB, sNotB, sAnd, sOr, sNot, sNeg, sIf, sC, sVar, sBor, sNil, sCons, sTup, sLst, sBin, sChain, sCall, sCallP, sCallI, sIsi, sIsi2, sAug, sAsgT, sPar, sPar3, sPutIx, sMut, sMut0, sFor, sIt, sRng1, sRng2, sZip2, sZip3, sEnum, sComp, sLRg1, sSl, sPn, sPs, sCnt1, sBrk, sCnt, res, val, vals, ress, nb, tru, List.map_cons, List.map_nil, List.replicate_succ, List.replicate_zero, List.replicate_one, List.cons_append, List.nil_append, List.append_nil, List.length_cons, List.length_nil, List.getElem?_cons_zero, List.getElem?_cons_succ, List.set_cons_zero, List.set_cons_succ, Option.some.injEq, exists_eq_left', exists_eq_left, exists_and_left, exists_eq', true_and, and_true, Nat.reduceSub, Nat.reduceAdd, List.cons.injEq, PyData.int.injEq, PyData.bool.injEq, PyData.list.injEq, PyData.tuple.injEq, Rs.vl.injEq, Rs.fr.injEq, if_true, if_false, Bool.false_eq_true, Bool.not_eq_true, Bool.not_true, Bool.not_false, isT, ite_dec, Sl.ow.injEq, Sl.sh.injEq, Sl.sc.injEq, Tg.put, TgL.put, TgL.len, exists_const, q_add, q_addT, q_addL, q_iadd, q_sub, q_mul, q_mulT, q_fdiv, q_mod, q_pow, q_shl, q_eqI, q_eqB, q_neI, q_neB, q_lt, q_le, q_gt, q_ge, q_ixL, q_ixT, q_isN, q_isnN, q_lenL, q_lenT, q_lenD, q_int, q_intB, q_abs, q_tupL, q_tupT, q_listL, q_listT, q_min2, q_max2, q_putL, q_putDI, at0, at1, at2, at3, at4, put5_0, put5_1, put5_2, put5_3, put5_4])
def m_drawC (c1 c0 c2 c3 c4 c5 c6 c7 c8 c9 c10 c11 c12 c13 : Int) : MS :=
  (sSeq (sIte (sAndB (sBl (sBin s_eq (sBin s_ixD (sBor 0) (sC (.int 2))) (sC (.int 0)))) (sBl (sBin (s_ord .Lt) (sBin s_ixD (sBor 0) (sC (.int 1))) (sCall s_len (sCons (sBin s_ixD (sBor 0) (sC (.int 0))) sNil))))) (sSeq (sAsg 2 (sBin s_ixD (sBin s_ixD (sBor 0) (sC (.int 0))) (sBin s_ixD (sBor 0) (sC (.int 1)))))
    (sSeq (sPutIx 0 (sBin s_add (sBin s_ixD (sBor 0) (sC (.int 1))) (sC (.int 1))) (sC (.int 1)))
    (sSeq (sPutIx 0 (sBin s_mod (sCall s_int (sCons (sBin s_add (sBin s_add (sBin s_mul (sBin s_ixD (sBor 0) (sC (.int 3))) (sC (.int c1))) (sBin s_mul (sBor 2) (sC (.int c0)))) (sC (.int c2))) sNil)) (sC (.int c3))) (sC (.int 3)))
    (sIte (sBl (sBin (s_ord .GtE) (sBor 2) (sBin s_pow (sC (.int 10)) (sC (.int 18))))) (sPutIx 0 (sVar 2) (sC (.int 2))) sSkip)))) sSkip)
    (sSeq (sIte (sBl (sBin (s_ord .Gt) (sBin s_ixD (sBor 0) (sC (.int 2))) (sC (.int 0)))) (sSeq (sAsg 3 (sBin s_mod (sCall s_int (sCons (sBin s_ixD (sBor 0) (sC (.int 2))) sNil)) (sBor 1)))
    (sSeq (sPutIx 0 (sBin s_fdiv (sBin s_ixD (sBor 0) (sC (.int 2))) (sBor 1)) (sC (.int 2)))
    (sRet (sVar 3)))) sSkip)
    (sSeq (sPutIx 0 (sBin s_add (sBin s_ixD (sBor 0) (sC (.int 4))) (sC (.int 1))) (sC (.int 4)))
    (sSeq (sAsg 4 (sBin s_mod (sCall s_int (sCons (sBin s_mul (sCall s_int (sCons (sBin s_add (sBin s_ixD (sBor 0) (sC (.int 3))) (sBin s_mul (sC (.int c4)) (sBin s_ixD (sBor 0) (sC (.int 4))))) sNil)) (sC (.int c5))) sNil)) (sC (.int c6))))
    (sSeq (sAsg 4 (sBin s_mod (sCall s_int (sCons (sBin s_mul (sBor 4) (sBin s_add (sBin s_fdiv (sBor 4) (sC (.int c7))) (sC (.int c8)))) sNil)) (sC (.int c9))))
    (sSeq (sAsg 4 (sBin s_mod (sCall s_int (sCons (sBin s_mul (sBor 4) (sBin s_add (sBin s_fdiv (sBor 4) (sC (.int c10))) (sC (.int c11)))) sNil)) (sC (.int c12))))
    (sRet (sBin s_mod (sCall s_int (sCons (sBin s_fdiv (sBor 4) (sC (.int c13))) sNil)) (sBor 1)))))))))
theorem draw_tailC {c4 c5 c6 c7 c8 c9 c10 c11 c12 c13 a e many : Int} {cs : List Int} {p b : Int} {x3 x2 : Sl} {k : Ks}
    (h4 : -(2 ^ 64) < c4 ∧ c4 < 2 ^ 64) (h5 : -(2 ^ 64) < c5 ∧ c5 < 2 ^ 64) (h6 : 0 < c6 ∧ c6 < 2 ^ 32) (h7 : 0 < c7 ∧ c7 < 2 ^ 30) (h9 : 0 < c9 ∧ c9 < 2 ^ 32) (h10 : 0 < c10 ∧ c10 < 2 ^ 30) (h12 : 0 < c12) (h13 : 0 < c13 ∧ c13 < 2 ^ 30) (hm : 0 < many)
    (q : ∀ j x4 e', 0 ≤ j → j < many → nb (.vl (.int j)) ∧ k.rt (.vl (.int j)) [.ow (.list [.list (cs.map .int), .int p, .int b, .int a, .int e']), .sh (.int many), x2, x3, x4]) :
    (sSeq (sPutIx 0 (sBin s_add (sBin s_ixD (sBor 0) (sC (.int 4))) (sC (.int 1))) (sC (.int 4)))
    (sSeq (sAsg 4 (sBin s_mod (sCall s_int (sCons (sBin s_mul (sCall s_int (sCons (sBin s_add (sBin s_ixD (sBor 0) (sC (.int 3))) (sBin s_mul (sC (.int c4)) (sBin s_ixD (sBor 0) (sC (.int 4))))) sNil)) (sC (.int c5))) sNil)) (sC (.int c6))))
    (sSeq (sAsg 4 (sBin s_mod (sCall s_int (sCons (sBin s_mul (sBor 4) (sBin s_add (sBin s_fdiv (sBor 4) (sC (.int c7))) (sC (.int c8)))) sNil)) (sC (.int c9))))
    (sSeq (sAsg 4 (sBin s_mod (sCall s_int (sCons (sBin s_mul (sBor 4) (sBin s_add (sBin s_fdiv (sBor 4) (sC (.int c10))) (sC (.int c11)))) sNil)) (sC (.int c12))))
    (sRet (sBin s_mod (sCall s_int (sCons (sBin s_fdiv (sBor 4) (sC (.int c13))) sNil)) (sBor 1))))))) [.ow (.list [.list (cs.map .int), .int p, .int b, .int a, .int e]), .sh (.int many), x2, x3, .no] k := by
  refine seq_i fun N hN => ?_
  walk_at "vl"
  refine hN _ (seq_i fun N hN => ?_)
  walk_at "vl"
  refine ⟨.inl (cmul_l h4), .inl (cmul_r h5), by omega, hN _ (seq_i fun N hN => ?_)⟩
  generalize hy : ((a + c4 * (e + 1)) * c5).fmod c6 = y1
  have y0 : 0 ≤ y1 ∧ y1 < c6 := by rw [← hy]; exact ⟨fm0 h6.1, Int.fmod_lt_of_pos _ h6.1⟩
  walk_at "vl"
  refine .inr ⟨by omega, by omega, .inl (cmul_l ⟨by omega, by omega⟩), by omega, hN _ (seq_i fun N hN => ?_)⟩
  generalize hz : (y1 * (y1.fdiv c7 + c8)).fmod c9 = y2
  have z0 : 0 ≤ y2 ∧ y2 < c9 := by rw [← hz]; exact ⟨fm0 h9.1, Int.fmod_lt_of_pos _ h9.1⟩
  walk_at "vl"
  refine .inr ⟨by omega, by omega, .inl (cmul_l ⟨by omega, by omega⟩), by omega, hN _ ?_⟩
  walk_at "vl"
  refine .inr ⟨by omega, by omega, by omega, ?_⟩
  exact (q _ _ _ (fm0 hm) (fm1 hm)).2
theorem draw_specC {c1 c0 c2 c3 c4 c5 c6 c7 c8 c9 c10 c11 c12 c13 many : Int} {d : D} {Q : Rs → Option D → Prop} {X : Ex → Option D → Prop} (h1 : -(2 ^ 64) < c1 ∧ c1 < 2 ^ 64) (h0 : -(2 ^ 64) < c0 ∧ c0 < 2 ^ 64) (h3 : 0 < c3)
    (h4 : -(2 ^ 64) < c4 ∧ c4 < 2 ^ 64) (h5 : -(2 ^ 64) < c5 ∧ c5 < 2 ^ 64) (h6 : 0 < c6 ∧ c6 < 2 ^ 32) (h7 : 0 < c7 ∧ c7 < 2 ^ 30) (h9 : 0 < c9 ∧ c9 < 2 ^ 32) (h10 : 0 < c10 ∧ c10 < 2 ^ 30) (h12 : 0 < c12) (h13 : 0 < c13 ∧ c13 < 2 ^ 30)
    (hd : HandOk d) (hm : 0 < many ∧ many < 1000000000) (q : ∀ j d', 0 ≤ j → j < many → HandOk d' → Q (.vl (.int j)) (some d')) : wpI 2 5 (m_drawC c1 c0 c2 c3 c4 c5 c6 c7 c8 c9 c10 c11 c12 c13) [d, .int many] Q X := by
  obtain ⟨cs, p, b, a, e, rfl, hp⟩ := hd
  unfold m_drawC
  refine ⟨_, _, rfl, rfl, ?_⟩
  have tail : ∀ (p b a : Int) (x2 : Sl), 0 ≤ p → (sSeq (sIte (sBl (sBin (s_ord .Gt) (sBin s_ixD (sBor 0) (sC (.int 2))) (sC (.int 0)))) (sSeq (sAsg 3 (sBin s_mod (sCall s_int (sCons (sBin s_ixD (sBor 0) (sC (.int 2))) sNil)) (sBor 1)))
    (sSeq (sPutIx 0 (sBin s_fdiv (sBin s_ixD (sBor 0) (sC (.int 2))) (sBor 1)) (sC (.int 2)))
    (sRet (sVar 3)))) sSkip)
    (sSeq (sPutIx 0 (sBin s_add (sBin s_ixD (sBor 0) (sC (.int 4))) (sC (.int 1))) (sC (.int 4)))
    (sSeq (sAsg 4 (sBin s_mod (sCall s_int (sCons (sBin s_mul (sCall s_int (sCons (sBin s_add (sBin s_ixD (sBor 0) (sC (.int 3))) (sBin s_mul (sC (.int c4)) (sBin s_ixD (sBor 0) (sC (.int 4))))) sNil)) (sC (.int c5))) sNil)) (sC (.int c6))))
    (sSeq (sAsg 4 (sBin s_mod (sCall s_int (sCons (sBin s_mul (sBor 4) (sBin s_add (sBin s_fdiv (sBor 4) (sC (.int c7))) (sC (.int c8)))) sNil)) (sC (.int c9))))
    (sSeq (sAsg 4 (sBin s_mod (sCall s_int (sCons (sBin s_mul (sBor 4) (sBin s_add (sBin s_fdiv (sBor 4) (sC (.int c10))) (sC (.int c11)))) sNil)) (sC (.int c12))))
    (sRet (sBin s_mod (sCall s_int (sCons (sBin s_fdiv (sBor 4) (sC (.int c13))) sNil)) (sBor 1)))))))) [.ow (.list [.list (cs.map .int), .int p, .int b, .int a, .int e]), .sh (.int many), x2, .no, .no] ⟨fun ρ => cur ρ fun d => Q (.vl .none) d, fun r ρ => nb r ∧ cur ρ fun d => Q r d, fun _ => False, fun _ => False, fun x ρ => cur ρ fun d => X x d⟩ := by
    intro p b a x2 hp
    refine seq_i fun N hN => ?_
    walk_at "vl"
    by_cases hb : 0 < b
    · rw [if_pos hb]
      refine ⟨by omega, .inl ⟨hm.1, ?_, ?_⟩⟩
      · have := Nat.log2_lt (n := many.natAbs) (k := 30) (by omega)
        have h2 := this.mpr (by omega)
        omega
      · exact q _ _ (fm0 hm.1) (fm1 hm.1) ⟨_, _, _, _, _, rfl, hp⟩
    · rw [if_neg hb]
      refine hN _ ?_
      refine draw_tailC h4 h5 h6 h7 h9 h10 h12 h13 hm.1 fun j x4 e' h0 h1 => ⟨True.intro, ?_⟩
      exact ⟨True.intro, _, rfl, q _ _ h0 h1 ⟨_, _, _, _, _, rfl, hp⟩⟩
  refine seq_i fun N hN => ?_
  have fin : ∀ (p b a : Int) (x2 : Sl), 0 ≤ p → N [.ow (.list [.list (cs.map .int), .int p, .int b, .int a, .int e]), .sh (.int many), x2, .no, .no] := fun p b a x2 hp => hN _ (tail p b a x2 hp)
  clear hN tail
  walk_at "vl"
  by_cases hb : b = 0
  · rw [if_pos hb]
    by_cases hc : p < ((cs.map PyData.int).length : Int)
    · rw [if_pos hc]
      obtain ⟨c, ec⟩ := atI_map (f := PyData.int) hp (by simpa using hc)
      refine ⟨_, ec, .inl (cmul_r h1), .inl (cmul_r h0), ?_⟩
      walk_at "vl"
      refine ⟨by omega, by decide, ?_⟩
      by_cases hg : (10 : Int) ^ (18 : Int).toNat ≤ c
      · rw [if_pos hg]; exact fin _ _ _ _ (by omega)
      · rw [if_neg hg]; exact fin _ _ _ _ (by omega)
    · rw [if_neg hc]; exact fin _ _ _ _ hp
  · rw [if_neg hb]; exact fin _ _ _ _ hp
end VL

set_option Elab.async false
set_option linter.all false
set_option maxRecDepth 100000
set_option maxHeartbeats 4000000
/-! VL49: the plain side: data that equal themselves; data without flags: equal just where the same. -/
namespace VL
open PySem PySem.Spec PyProof.Rows L2
mutual
def gd : D → Bool
  | .none => true
  | .bool _ => true
  | .int _ => true
  | .str x => PyData.strOk x
  | .tuple ds => gdA ds
  | .list ds => gdA ds
  | .dict _ => false
def gdA : List D → Bool
  | [] => true
  | d :: ds => gd d && gdA ds
end
mutual
theorem gd_lay : ∀ {d : D}, gd d = true → d.canLay0 = true
  | .none, _ => rfl
  | .bool _, _ => rfl
  | .int _, _ => rfl
  | .str x, h => by simpa [gd, PyData.canLay0] using h
  | .tuple ds, h => by rw [PyData.canLay0]; exact gdA_lay (by simpa [gd] using h)
  | .list ds, h => by rw [PyData.canLay0]; exact gdA_lay (by simpa [gd] using h)
  | .dict _, h => by simp [gd] at h
theorem gdA_lay : ∀ {ds : List D}, gdA ds = true → PyData.canLayAll0 ds = true
  | [], _ => rfl
  | d :: ds, h => by
    rw [gdA, Bool.and_eq_true] at h
    rw [PyData.canLayAll0, gd_lay h.1, gdA_lay h.2]; rfl
end
mutual
theorem gd_eqv : ∀ {d : D}, gd d = true → PyData.eqv d d = true
  | .none, _ => by simp [PyData.eqv]
  | .bool _, _ => by simp [PyData.eqv]
  | .int _, _ => by simp [PyData.eqv]
  | .str x, h => by simp [PyData.eqv]
  | .tuple ds, h => by rw [PyData.eqv]; exact gdA_eqv (by simpa [gd] using h)
  | .list ds, h => by rw [PyData.eqv]; exact gdA_eqv (by simpa [gd] using h)
  | .dict _, h => by simp [gd] at h
theorem gdA_eqv : ∀ {ds : List D}, gdA ds = true → PyData.eqvAll ds ds = true
  | [], _ => by simp [PyData.eqvAll]
  | d :: ds, h => by
    rw [gdA, Bool.and_eq_true] at h
    rw [PyData.eqvAll, gd_eqv h.1, gdA_eqv h.2]; rfl
end
theorem shp_gd {d : D} (h : gd d = true) (hd : d.depth ≤ 64) : shp d = true := by
  unfold shp SeqAt.shaped
  rw [gd_lay h, decide_eq_true hd]
  rfl
theorem eq_self {d : D} {k : Rs → Prop} (h : gd d = true) (hd : d.depth ≤ 64) (q : k (.vl (.bool true))) : s_eq d d k := ⟨shp_gd h hd, shp_gd h hd, by rw [gd_eqv h]; exact q⟩
theorem ne_self {d : D} {k : Rs → Prop} (h : gd d = true) (hd : d.depth ≤ 64) (q : k (.vl (.bool false))) : s_ne d d k := ⟨shp_gd h hd, shp_gd h hd, by rw [gd_eqv h]; exact q⟩
theorem gdA_of {ds : List D} (h : ∀ d ∈ ds, gd d = true) : gdA ds = true := by
  induction ds with
  | nil => rfl
  | cons d ds ih => rw [gdA, h d List.mem_cons_self, ih fun x hx => h x (List.mem_cons_of_mem _ hx)]; rfl
theorem gdA_mem {ds : List D} (h : gdA ds = true) : ∀ d ∈ ds, gd d = true := by
  induction ds with
  | nil => intro d hd; cases hd
  | cons d ds ih =>
    rw [gdA, Bool.and_eq_true] at h
    intro x hx
    rcases List.mem_cons.mp hx with rfl | hx
    · exact h.1
    · exact ih h.2 x hx
theorem depAll_of {ds : List D} {n : Nat} (h : ∀ d ∈ ds, d.depth ≤ n) : PyData.depthAll ds ≤ n := by
  induction ds with
  | nil => simp [PyData.depthAll]
  | cons d ds ih =>
    simp only [PyData.depthAll]
    have := h d List.mem_cons_self
    have := ih fun x hx => h x (List.mem_cons_of_mem _ hx)
    omega
theorem dep_tup {ds : List D} {n : Nat} (h : ∀ d ∈ ds, d.depth ≤ n) : (PyData.tuple ds).depth ≤ n + 1 := by
  have := depAll_of h
  simp only [PyData.depth]; omega
theorem dep_lst {ds : List D} {n : Nat} (h : ∀ d ∈ ds, d.depth ≤ n) : (PyData.list ds).depth ≤ n + 1 := by
  have := depAll_of h
  simp only [PyData.depth]; omega
/-! ### data without flags -/
mutual
def gn : D → Bool
  | .none => true
  | .int _ => true
  | .str x => PyData.strOk x
  | .tuple ds => gnA ds
  | .list ds => gnA ds
  | _ => false
def gnA : List D → Bool
  | [] => true
  | d :: ds => gn d && gnA ds
end
mutual
theorem gn_gd : ∀ {d : D}, gn d = true → gd d = true
  | .none, _ => rfl
  | .bool _, _ => rfl
  | .int _, _ => rfl
  | .str x, h => by simpa [gn, gd] using h
  | .tuple ds, h => by rw [gd]; exact gnA_gd (by simpa [gn] using h)
  | .list ds, h => by rw [gd]; exact gnA_gd (by simpa [gn] using h)
  | .dict _, h => by simp [gn] at h
theorem gnA_gd : ∀ {ds : List D}, gnA ds = true → gdA ds = true
  | [], _ => rfl
  | d :: ds, h => by
    rw [gnA, Bool.and_eq_true] at h
    rw [gdA, gn_gd h.1, gnA_gd h.2]; rfl
end
mutual
theorem gn_eqv : ∀ {d e : D}, gn d = true → gn e = true → PyData.eqv d e = true → d = e
  | .none, e, _, h', q => by cases e <;> simp_all [PyData.eqv]
  | .bool _, _, h, _, _ => by simp [gn] at h
  | .int i, e, _, h', q => by cases e <;> simp_all [PyData.eqv, gn]
  | .str x, e, _, h', q => by cases e <;> simp_all [PyData.eqv]
  | .tuple ds, e, h, h', q => by
    cases e with
    | tuple es =>
      rw [PyData.eqv] at q
      rw [gnA_eqv (by simpa [gn] using h) (by simpa [gn] using h') q]
    | _ => simp [PyData.eqv] at q
  | .list ds, e, h, h', q => by
    cases e with
    | list es =>
      rw [PyData.eqv] at q
      rw [gnA_eqv (by simpa [gn] using h) (by simpa [gn] using h') q]
    | _ => simp [PyData.eqv] at q
  | .dict _, _, h, _, _ => by simp [gn] at h
theorem gnA_eqv : ∀ {ds es : List D}, gnA ds = true → gnA es = true → PyData.eqvAll ds es = true → ds = es
  | [], es, _, _, q => by cases es <;> simp_all [PyData.eqvAll]
  | d :: ds, es, h, h', q => by
    cases es with
    | nil => simp [PyData.eqvAll] at q
    | cons e es =>
      rw [gnA, Bool.and_eq_true] at h h'
      rw [PyData.eqvAll, Bool.and_eq_true] at q
      rw [gn_eqv h.1 h'.1 q.1, gnA_eqv h.2 h'.2 q.2]
end
theorem gnA_of {ds : List D} (h : ∀ d ∈ ds, gn d = true) : gnA ds = true := by
  induction ds with
  | nil => rfl
  | cons d ds ih => rw [gnA, h d List.mem_cons_self, ih fun x hx => h x (List.mem_cons_of_mem _ hx)]; rfl
open Classical in
theorem gn_eq {d e : D} (h : gn d = true) (h' : gn e = true) : PyData.eqv d e = decide (d = e) := by
  by_cases q : d = e
  · subst q
    rw [gd_eqv (gn_gd h)]; simp
  · rw [decide_eq_false q]
    cases z : PyData.eqv d e with
    | false => rfl
    | true => exact absurd (gn_eqv h h' z) q
open Classical in
theorem eq_gn {d e : D} {k : Rs → Prop} (h : gn d = true) (h' : gn e = true) (hd : d.depth ≤ 64) (he : e.depth ≤ 64) (q : k (.vl (.bool (decide (d = e))))) : s_eq d e k := ⟨shp_gd (gn_gd h) hd, shp_gd (gn_gd h') he, by rw [gn_eq h h']; exact q⟩
open Classical in
theorem ne_gn {d e : D} {k : Rs → Prop} (h : gn d = true) (h' : gn e = true) (hd : d.depth ≤ 64) (he : e.depth ≤ 64) (q : k (.vl (.bool (!decide (d = e))))) : s_ne d e k := ⟨shp_gd (gn_gd h) hd, shp_gd (gn_gd h') he, by rw [gn_eq h h']; exact q⟩
end VL

set_option Elab.async false
set_option linter.all false
set_option maxRecDepth 100000
set_option maxHeartbeats 4000000
/-! VL50: the hand, where exceptions may pass. -/
namespace VL
open PySem PySem.Spec PyProof.Rows L2
local macro_rules | `(tactic| walk_at "vl") => `(tactic| simp only [wpF, wpI, wpSc, cur, sSeq, sIte, sRet, sRetN, sAsg, sExpr, sSkip, put, sTru, sBl, sAndB, sOrB, sNotB, sAnd, sOr, sNot, sNeg, sIf, sC, sVar, sBor, sNil, sCons, sTup, sLst, sBin, sChain, sCall, sCallP, sCallI, sIsi, sIsi2, sAug, sAsgT, sPar, sPar3, sPutIx, sMut, sMut0, sFor, sIt, sRng1, sRng2, sZip2, sZip3, sEnum, sComp, sLRg1, sSl, sPn, sPs, sCnt1, sBrk, sCnt, res, val, vals, ress, nb, tru, List.map_cons, List.map_nil, List.replicate_succ, List.replicate_zero, List.replicate_one, List.cons_append, List.nil_append, List.append_nil, List.length_cons, List.length_nil, List.getElem?_cons_zero, List.getElem?_cons_succ, List.set_cons_zero, List.set_cons_succ, Option.some.injEq, exists_eq_left', exists_eq_left, exists_and_left, exists_eq', true_and, and_true, Nat.reduceSub, Nat.reduceAdd, List.cons.injEq, PyData.int.injEq, PyData.bool.injEq, PyData.list.injEq, PyData.tuple.injEq, Rs.vl.injEq, Rs.fr.injEq, if_true, if_false, Bool.false_eq_true, Bool.not_eq_true, Bool.not_true, Bool.not_false, isT, ite_dec, Sl.ow.injEq, Sl.sh.injEq, Sl.sc.injEq, Tg.put, TgL.put, TgL.len, exists_const, q_add, q_addT, q_addL, q_iadd, q_sub, q_mul, q_mulT, q_fdiv, q_mod, q_pow, q_shl, q_eqI, q_eqB, q_neI, q_neB, q_lt, q_le, q_gt, q_ge, q_ixL, q_ixT, q_isN, q_isnN, q_lenL, q_lenT, q_lenD, q_int, q_intB, q_abs, q_tupL, q_tupT, q_listL, q_listT, q_min2, q_max2, q_putL, q_putDI, at0, at1, at2, at3, at4, put5_0, put5_1, put5_2, put5_3, put5_4, wipeE, backE, List.getD_cons_zero, List.getD_cons_succ, sYes, sSlSc, shp_none, List.flatten_cons, List.flatten_nil])
theorem hand_specX {k0 k1 : Int} {ns : List Int} {Q : Rs → Prop} (h1 : -(2 ^ 64) < k1 ∧ k1 < 2 ^ 64) (q : ∀ d, HandOk d → Q (.fr d)) : wpScX 3 (m_handA k0 k1) ns Q := by
  unfold m_handA wpScX
  refine seq_i fun N hN => ?_
  walk_at "vl"
  refine ⟨_, rfl, rfl, ?_, ?_⟩
  · simp only [List.length_map, List.length_take, sizeLine_eq]; omega
  refine compW_map absD (fun d hd k1 k2 hk => ?_) (hN _ ?_)
  · obtain ⟨i, _, rfl⟩ := List.mem_map.mp hd
    walk_at "vl"
    exact hk
  · rw [List.map_map]
    walk_at "vl"
    refine ⟨.inl (cmul_l h1), by omega, ?_⟩
    have e1 : (absD ∘ PyData.int) = PyData.int ∘ absI := rfl
    rw [e1, ← List.map_map]
    exact q _ ⟨_, 0, 0, _, 0, rfl, by omega⟩

theorem handB_specX {k0 : Int} {ns : List Int} {Q : Rs → Prop} (q : ∀ d, HandOk d → Q (.fr d)) : wpScX 3 (m_handB k0) ns Q := by
  unfold m_handB wpScX
  refine seq_i fun N hN => ?_
  walk_at "vl"
  refine ⟨_, rfl, rfl, ?_, ?_⟩
  · simp only [List.length_map, List.length_take, sizeLine_eq]; omega
  refine compW_map absD (fun d hd k1 k2 hk => ?_) (hN _ ?_)
  · obtain ⟨i, _, rfl⟩ := List.mem_map.mp hd
    walk_at "vl"
    exact hk
  · rw [List.map_map]
    walk_at "vl"
    refine ⟨by omega, ?_⟩
    have e1 : (absD ∘ PyData.int) = PyData.int ∘ absI := rfl
    rw [e1, ← List.map_map]
    exact q _ ⟨_, 0, 0, _, 0, rfl, by omega⟩

end VL

set_option Elab.async false
set_option linter.all false
set_option maxRecDepth 100000
set_option maxHeartbeats 4000000
namespace W_k11
open PySem PySem.Spec PyProof.Rows L2 VL
local macro_rules | `(tactic| walk_at "vl") => `(tactic| try simp only [wpF, wpI, wpSc, cur, sSeq, sIte, sRet, sRetN, sAsg, sExpr, sSkip, put, sTru, sBl, sAndB, sOrB, sNotB, sAnd, sOr, sNot, sNeg, sIf, sC, sVar, sBor, sNil, sCons, sTup, sLst, sBin, sChain, sCall, sCallP, sCallI, sIsi, sIsi2, sAug, sAsgT, sPar, sPar3, sPutIx, sMut, sMut0, sFor, sIt, sRng1, sRng2, sZip2, sZip3, sEnum, sComp, sLRg1, sSl, sPn, sPs, sCnt1, sBrk, sCnt, res, val, vals, ress, nb, tru, List.map_cons, List.map_nil, List.replicate_succ, List.replicate_zero, List.replicate_one, List.cons_append, List.nil_append, List.append_nil, List.length_cons, List.length_nil, List.getElem?_cons_zero, List.getElem?_cons_succ, List.set_cons_zero, List.set_cons_succ, Option.some.injEq, exists_eq_left', exists_eq_left, exists_and_left, exists_eq', true_and, and_true, Nat.reduceSub, Nat.reduceAdd, List.cons.injEq, PyData.int.injEq, PyData.bool.injEq, PyData.list.injEq, PyData.tuple.injEq, PyData.dict.injEq, Rs.vl.injEq, Rs.fr.injEq, if_true, if_false, Bool.false_eq_true, Bool.not_eq_true, Bool.not_true, Bool.not_false, isT, ite_dec, Sl.ow.injEq, Sl.sh.injEq, Sl.sc.injEq, Tg.put, TgL.put, TgL.len, exists_const, q_add, q_addT, q_addL, q_iadd, q_sub, q_mul, q_mulT, q_mulR, q_fdiv, q_mod, q_pow, q_shl, q_eqI, q_eqB, q_neI, q_neB, q_lt, q_le, q_gt, q_ge, q_ixL, q_ixT, q_isN, q_isnN, q_lenL, q_lenT, q_lenD, q_int, q_intB, q_abs, q_tupL, q_tupT, q_listL, q_listT, q_min2, q_max2, q_putL, q_putDI, at0, at1, at2, at3, at4, put5_0, put5_1, put5_2, put5_3, put5_4, q_slT, q_slL, cut_1, wipeE, backE, List.getD_cons_zero, List.getD_cons_succ, sYes, sSlSc, sCompK, sCompD, sUpd, sMv, sKeysF, sRev, q_revL, q_revT, sDict0, sDict1, VL.keyOf, VL.m_append, VL.m_popAt, VL.m_extend, VL.m_pop, shp_none, List.flatten_cons, List.flatten_nil])
noncomputable def ms__law_word (a : Addr) (isc : Str → Option Bool) (isb : Option Bool) : MS :=
  (sSeq (sAsg 2 (sLst (sCons (sIsE 4 a isc "NoCase") (sCons (sIsE 4 a isc "NoCodes") (sCons (sIsE 4 a isc "NoCoin") (sCons (sIsE 4 a isc "NoCoins") sNil))))))
    (sSeq (sAsg 2 (sBin s_add (sBor 2) (sLst (sCons (sIsE 4 a isc "NoCount") (sCons (sIsE 4 a isc "NoFlag") (sCons (sIsE 4 a isc "NoKind") (sCons (sIsE 4 a isc "NoPlan") sNil)))))))
    (sSeq (sAsg 2 (sBin s_add (sBor 2) (sLst (sCons (sIsE 4 a isc "NoRecord") (sCons (sIsE 4 a isc "NoResults") (sCons (sIsE 4 a isc "NoSet") sNil))))))
    (sSeq (sExpr (sMut 2 m_append (sCons (sIsE 4 a isc "NoWeighing") sNil)))
    (sSeq (sAsg 3 (sLst (sCons (sC (.str "case")) (sCons (sC (.str "codes")) (sCons (sC (.str "coin")) (sCons (sC (.str "coins")) (sCons (sC (.str "count")) (sCons (sC (.str "flag")) (sCons (sC (.str "kind")) (sCons (sC (.str "plan")) (sCons (sC (.str "record")) (sCons (sC (.str "results")) sNil))))))))))))
    (sSeq (sAsg 3 (sBin s_add (sBor 3) (sLst (sCons (sC (.str "set")) (sCons (sC (.str "weighing")) sNil)))))
    (sAsg 1 (sIf (sBl (sBin s_eq (sCnt1 s_cntL (sBor 2) (sCons (sC (.bool true)) sNil)) (sC (.int 1)))) (sBin s_ixD (sBor 3) (sCnt1 s_idx (sBor 2) (sCons (sC (.bool true)) sNil))) (sC (.str "other"))))))))))
def wl__law_word : List (Str × D) := [("NoCase", .str "case"), ("NoCoin", .str "coin"), ("NoCoins", .str "coins"), ("NoSet", .str "set")]
theorem sw__law_word_NoCase {a : Addr} {isc : Str → Option Bool} {isb : Option Bool} {k : Ks} (c_NoCase : isc "NoCase" = some true) (c_NoCodes : isc "NoCodes" = some false) (c_NoCoin : isc "NoCoin" = some false) (c_NoCoins : isc "NoCoins" = some false) (c_NoCount : isc "NoCount" = some false) (c_NoFlag : isc "NoFlag" = some false) (c_NoKind : isc "NoKind" = some false) (c_NoPlan : isc "NoPlan" = some false) (c_NoRecord : isc "NoRecord" = some false) (c_NoResults : isc "NoResults" = some false) (c_NoSet : isc "NoSet" = some false) (c_NoWeighing : isc "NoWeighing" = some false) (hb : isb = isb) (h1 : ∀ ρ' : VL.Env, ρ'[1]? = some (.sh (.str "case")) → k.nx ρ') (h2 : ∀ ρ' : VL.Env, k.rt (.vl (.str "case")) ρ') : ms__law_word a isc isb (rho0 5 4 a) k := by
  unfold ms__law_word rho0
  walk_at "vl"
  simp only [sIsE, sIsEB, c_NoCase, c_NoCodes, c_NoCoin, c_NoCoins, c_NoCount, c_NoFlag, c_NoKind, c_NoPlan, c_NoRecord, c_NoResults, c_NoSet, c_NoWeighing, hb, Option.some.injEq, exists_eq_left', true_and, List.getElem?_cons_succ, List.getElem?_cons_zero]
  walk_at "vl"
  repeat (first | refine ⟨(by decide : (_ : Nat) ≤ 1000), ?_⟩ | refine ⟨(by decide : (_ : Nat) < 1000000), ?_⟩ | refine ⟨(by rw [sizeLine_eq]; decide : (_ : Nat) ≤ sizeLine), ?_⟩)
  refine cnt1_bools [true, false, false, false, false, false, false, false, false, false, false, false] rfl ?_
  walk_at "vl"
  (try simp only [sIsEB, hb, Option.some.injEq, exists_eq_left', true_and, List.getElem?_cons_succ, List.getElem?_cons_zero])
  walk_at "vl"
  repeat (first | refine ⟨(by decide : (_ : Nat) ≤ 1000), ?_⟩)
  refine idx_bools [true, false, false, false, false, false, false, false, false, false, false, false] 0 rfl (by decide) ?_
  walk_at "vl"
  first | exact ⟨_, rfl, h1 _ rfl⟩ | exact ⟨_, rfl, h2 _⟩
theorem sw__law_word_NoCoin {a : Addr} {isc : Str → Option Bool} {isb : Option Bool} {k : Ks} (c_NoCase : isc "NoCase" = some false) (c_NoCodes : isc "NoCodes" = some false) (c_NoCoin : isc "NoCoin" = some true) (c_NoCoins : isc "NoCoins" = some false) (c_NoCount : isc "NoCount" = some false) (c_NoFlag : isc "NoFlag" = some false) (c_NoKind : isc "NoKind" = some false) (c_NoPlan : isc "NoPlan" = some false) (c_NoRecord : isc "NoRecord" = some false) (c_NoResults : isc "NoResults" = some false) (c_NoSet : isc "NoSet" = some false) (c_NoWeighing : isc "NoWeighing" = some false) (hb : isb = isb) (h1 : ∀ ρ' : VL.Env, ρ'[1]? = some (.sh (.str "coin")) → k.nx ρ') (h2 : ∀ ρ' : VL.Env, k.rt (.vl (.str "coin")) ρ') : ms__law_word a isc isb (rho0 5 4 a) k := by
  unfold ms__law_word rho0
  walk_at "vl"
  simp only [sIsE, sIsEB, c_NoCase, c_NoCodes, c_NoCoin, c_NoCoins, c_NoCount, c_NoFlag, c_NoKind, c_NoPlan, c_NoRecord, c_NoResults, c_NoSet, c_NoWeighing, hb, Option.some.injEq, exists_eq_left', true_and, List.getElem?_cons_succ, List.getElem?_cons_zero]
  walk_at "vl"
  repeat (first | refine ⟨(by decide : (_ : Nat) ≤ 1000), ?_⟩ | refine ⟨(by decide : (_ : Nat) < 1000000), ?_⟩ | refine ⟨(by rw [sizeLine_eq]; decide : (_ : Nat) ≤ sizeLine), ?_⟩)
  refine cnt1_bools [false, false, true, false, false, false, false, false, false, false, false, false] rfl ?_
  walk_at "vl"
  (try simp only [sIsEB, hb, Option.some.injEq, exists_eq_left', true_and, List.getElem?_cons_succ, List.getElem?_cons_zero])
  walk_at "vl"
  repeat (first | refine ⟨(by decide : (_ : Nat) ≤ 1000), ?_⟩)
  refine idx_bools [false, false, true, false, false, false, false, false, false, false, false, false] 2 rfl (by decide) ?_
  walk_at "vl"
  first | exact ⟨_, rfl, h1 _ rfl⟩ | exact ⟨_, rfl, h2 _⟩
theorem sw__law_word_NoCoins {a : Addr} {isc : Str → Option Bool} {isb : Option Bool} {k : Ks} (c_NoCase : isc "NoCase" = some false) (c_NoCodes : isc "NoCodes" = some false) (c_NoCoin : isc "NoCoin" = some false) (c_NoCoins : isc "NoCoins" = some true) (c_NoCount : isc "NoCount" = some false) (c_NoFlag : isc "NoFlag" = some false) (c_NoKind : isc "NoKind" = some false) (c_NoPlan : isc "NoPlan" = some false) (c_NoRecord : isc "NoRecord" = some false) (c_NoResults : isc "NoResults" = some false) (c_NoSet : isc "NoSet" = some false) (c_NoWeighing : isc "NoWeighing" = some false) (hb : isb = isb) (h1 : ∀ ρ' : VL.Env, ρ'[1]? = some (.sh (.str "coins")) → k.nx ρ') (h2 : ∀ ρ' : VL.Env, k.rt (.vl (.str "coins")) ρ') : ms__law_word a isc isb (rho0 5 4 a) k := by
  unfold ms__law_word rho0
  walk_at "vl"
  simp only [sIsE, sIsEB, c_NoCase, c_NoCodes, c_NoCoin, c_NoCoins, c_NoCount, c_NoFlag, c_NoKind, c_NoPlan, c_NoRecord, c_NoResults, c_NoSet, c_NoWeighing, hb, Option.some.injEq, exists_eq_left', true_and, List.getElem?_cons_succ, List.getElem?_cons_zero]
  walk_at "vl"
  repeat (first | refine ⟨(by decide : (_ : Nat) ≤ 1000), ?_⟩ | refine ⟨(by decide : (_ : Nat) < 1000000), ?_⟩ | refine ⟨(by rw [sizeLine_eq]; decide : (_ : Nat) ≤ sizeLine), ?_⟩)
  refine cnt1_bools [false, false, false, true, false, false, false, false, false, false, false, false] rfl ?_
  walk_at "vl"
  (try simp only [sIsEB, hb, Option.some.injEq, exists_eq_left', true_and, List.getElem?_cons_succ, List.getElem?_cons_zero])
  walk_at "vl"
  repeat (first | refine ⟨(by decide : (_ : Nat) ≤ 1000), ?_⟩)
  refine idx_bools [false, false, false, true, false, false, false, false, false, false, false, false] 3 rfl (by decide) ?_
  walk_at "vl"
  first | exact ⟨_, rfl, h1 _ rfl⟩ | exact ⟨_, rfl, h2 _⟩
theorem sw__law_word_NoSet {a : Addr} {isc : Str → Option Bool} {isb : Option Bool} {k : Ks} (c_NoCase : isc "NoCase" = some false) (c_NoCodes : isc "NoCodes" = some false) (c_NoCoin : isc "NoCoin" = some false) (c_NoCoins : isc "NoCoins" = some false) (c_NoCount : isc "NoCount" = some false) (c_NoFlag : isc "NoFlag" = some false) (c_NoKind : isc "NoKind" = some false) (c_NoPlan : isc "NoPlan" = some false) (c_NoRecord : isc "NoRecord" = some false) (c_NoResults : isc "NoResults" = some false) (c_NoSet : isc "NoSet" = some true) (c_NoWeighing : isc "NoWeighing" = some false) (hb : isb = isb) (h1 : ∀ ρ' : VL.Env, ρ'[1]? = some (.sh (.str "set")) → k.nx ρ') (h2 : ∀ ρ' : VL.Env, k.rt (.vl (.str "set")) ρ') : ms__law_word a isc isb (rho0 5 4 a) k := by
  unfold ms__law_word rho0
  walk_at "vl"
  simp only [sIsE, sIsEB, c_NoCase, c_NoCodes, c_NoCoin, c_NoCoins, c_NoCount, c_NoFlag, c_NoKind, c_NoPlan, c_NoRecord, c_NoResults, c_NoSet, c_NoWeighing, hb, Option.some.injEq, exists_eq_left', true_and, List.getElem?_cons_succ, List.getElem?_cons_zero]
  walk_at "vl"
  repeat (first | refine ⟨(by decide : (_ : Nat) ≤ 1000), ?_⟩ | refine ⟨(by decide : (_ : Nat) < 1000000), ?_⟩ | refine ⟨(by rw [sizeLine_eq]; decide : (_ : Nat) ≤ sizeLine), ?_⟩)
  refine cnt1_bools [false, false, false, false, false, false, false, false, false, false, true, false] rfl ?_
  walk_at "vl"
  (try simp only [sIsEB, hb, Option.some.injEq, exists_eq_left', true_and, List.getElem?_cons_succ, List.getElem?_cons_zero])
  walk_at "vl"
  repeat (first | refine ⟨(by decide : (_ : Nat) ≤ 1000), ?_⟩)
  refine idx_bools [false, false, false, false, false, false, false, false, false, false, true, false] 10 rfl (by decide) ?_
  walk_at "vl"
  first | exact ⟨_, rfl, h1 _ rfl⟩ | exact ⟨_, rfl, h2 _⟩
def m_is_integer : MS :=
  (sRet (sAnd (sIsi "int" (sBor 0)) (sNot (sIsi "bool" (sBor 0)))))
theorem mo_is_integer : MonoS (m_is_integer) := by
  unfold m_is_integer
  repeat' (with_reducible first | apply monoS_skip | apply monoS_seq | apply monoS_expr | apply monoS_ret | apply monoS_retN | apply monoS_brk | apply monoS_cnt | apply monoS_never | apply monoS_ite | apply monoS_asg | apply monoS_asgT | apply monoS_par | apply monoS_par3 | apply monoS_aug | apply monoS_for | apply monoS_while | apply monoS_putIx | apply mono_C | apply mono_var | apply mono_bor | apply mono_tup | apply mono_lst | apply mono_bin | apply mono_chain | apply mono_and | apply mono_or | apply mono_not | apply mono_neg | apply mono_if | apply mono_comp | apply mono_call | apply mono_callP | apply mono_callPX | apply mono_callI | apply mono_callIX | apply monoS_raise0 | apply mono_lam | apply mc_cntL | apply mono_callS | apply mono_slSc | apply mono_isi | apply mono_isi2 | apply mono_lrg1 | apply mono_sl | apply mono_mut | apply mono_mut0 | apply mono_cnt1 | apply mono_dget2 | apply mono_dict0 | apply mono_dict1 | apply mono_nil | apply mono_cons | apply mono_tru | apply mono_bl | apply mono_andB | apply mono_orB | apply mono_notB | apply mono_yes | apply mono_it | apply mono_rng1 | apply mono_rng2 | apply mono_rng3 | apply mono_zip2 | apply mono_zip3 | apply mono_enum | apply mono_str | apply mono_rev | apply mono_pn | apply mono_ps | apply m_add | apply m_sub | apply m_mul | apply m_mulR | apply m_fdiv | apply m_mod | apply m_pow | apply m_shl | apply m_and | apply m_xor | apply m_eq | apply m_eqO | apply m_ne | apply m_ord | apply m_in | apply m_is | apply m_ix | apply m_ixD | apply m_inD | apply m_iadd | apply mc_len | apply mc_int | apply mc_abs | apply mc_mm | apply mc_sum | apply mc_aa | apply mc_tuple | apply mc_list | apply mc_srt | apply mc_cnt | apply mc_idx | apply mc_dictP | apply mono_compK | apply mono_compD | apply mono_upd | apply mono_keysF | apply mono_mv | apply mc_mmK | apply mc_min2 | apply mm_append | apply mm_extend | apply mm_pop | apply mm_popAt)
def F_is_integer : FP := wpF 1 1 m_is_integer
theorem mf_is_integer : MonoF F_is_integer := monoF_wp mo_is_integer
def m_is_within : MS :=
  (sRet (sAnd (sCallPX 1 F_is_integer (sCons (sVar 0) sNil)) (sChain (s_ord .LtE) (s_ord .LtE) (sBor 1) (sBor 0) (sBor 2))))
theorem mo_is_within : MonoS (m_is_within) := by
  unfold m_is_within
  repeat' (with_reducible first | exact mf_is_integer | apply monoS_skip | apply monoS_seq | apply monoS_expr | apply monoS_ret | apply monoS_retN | apply monoS_brk | apply monoS_cnt | apply monoS_never | apply monoS_ite | apply monoS_asg | apply monoS_asgT | apply monoS_par | apply monoS_par3 | apply monoS_aug | apply monoS_for | apply monoS_while | apply monoS_putIx | apply mono_C | apply mono_var | apply mono_bor | apply mono_tup | apply mono_lst | apply mono_bin | apply mono_chain | apply mono_and | apply mono_or | apply mono_not | apply mono_neg | apply mono_if | apply mono_comp | apply mono_call | apply mono_callP | apply mono_callPX | apply mono_callI | apply mono_callIX | apply monoS_raise0 | apply mono_lam | apply mc_cntL | apply mono_callS | apply mono_slSc | apply mono_isi | apply mono_isi2 | apply mono_lrg1 | apply mono_sl | apply mono_mut | apply mono_mut0 | apply mono_cnt1 | apply mono_dget2 | apply mono_dict0 | apply mono_dict1 | apply mono_nil | apply mono_cons | apply mono_tru | apply mono_bl | apply mono_andB | apply mono_orB | apply mono_notB | apply mono_yes | apply mono_it | apply mono_rng1 | apply mono_rng2 | apply mono_rng3 | apply mono_zip2 | apply mono_zip3 | apply mono_enum | apply mono_str | apply mono_rev | apply mono_pn | apply mono_ps | apply m_add | apply m_sub | apply m_mul | apply m_mulR | apply m_fdiv | apply m_mod | apply m_pow | apply m_shl | apply m_and | apply m_xor | apply m_eq | apply m_eqO | apply m_ne | apply m_ord | apply m_in | apply m_is | apply m_ix | apply m_ixD | apply m_inD | apply m_iadd | apply mc_len | apply mc_int | apply mc_abs | apply mc_mm | apply mc_sum | apply mc_aa | apply mc_tuple | apply mc_list | apply mc_srt | apply mc_cnt | apply mc_idx | apply mc_dictP | apply mono_compK | apply mono_compD | apply mono_upd | apply mono_keysF | apply mono_mv | apply mc_mmK | apply mc_min2 | apply mm_append | apply mm_extend | apply mm_pop | apply mm_popAt)
def F_is_within : FP := wpF 3 3 m_is_within
theorem mf_is_within : MonoF F_is_within := monoF_wp mo_is_within
def m_is_sized : MS :=
  (sRet (sAnd (sIsi "tuple" (sBor 0)) (sChain (s_ord .LtE) (s_ord .LtE) (sBor 1) (sCall s_len (sCons (sBor 0) sNil)) (sBor 2))))
theorem mo_is_sized : MonoS (m_is_sized) := by
  unfold m_is_sized
  repeat' (with_reducible first | apply monoS_skip | apply monoS_seq | apply monoS_expr | apply monoS_ret | apply monoS_retN | apply monoS_brk | apply monoS_cnt | apply monoS_never | apply monoS_ite | apply monoS_asg | apply monoS_asgT | apply monoS_par | apply monoS_par3 | apply monoS_aug | apply monoS_for | apply monoS_while | apply monoS_putIx | apply mono_C | apply mono_var | apply mono_bor | apply mono_tup | apply mono_lst | apply mono_bin | apply mono_chain | apply mono_and | apply mono_or | apply mono_not | apply mono_neg | apply mono_if | apply mono_comp | apply mono_call | apply mono_callP | apply mono_callPX | apply mono_callI | apply mono_callIX | apply monoS_raise0 | apply mono_lam | apply mc_cntL | apply mono_callS | apply mono_slSc | apply mono_isi | apply mono_isi2 | apply mono_lrg1 | apply mono_sl | apply mono_mut | apply mono_mut0 | apply mono_cnt1 | apply mono_dget2 | apply mono_dict0 | apply mono_dict1 | apply mono_nil | apply mono_cons | apply mono_tru | apply mono_bl | apply mono_andB | apply mono_orB | apply mono_notB | apply mono_yes | apply mono_it | apply mono_rng1 | apply mono_rng2 | apply mono_rng3 | apply mono_zip2 | apply mono_zip3 | apply mono_enum | apply mono_str | apply mono_rev | apply mono_pn | apply mono_ps | apply m_add | apply m_sub | apply m_mul | apply m_mulR | apply m_fdiv | apply m_mod | apply m_pow | apply m_shl | apply m_and | apply m_xor | apply m_eq | apply m_eqO | apply m_ne | apply m_ord | apply m_in | apply m_is | apply m_ix | apply m_ixD | apply m_inD | apply m_iadd | apply mc_len | apply mc_int | apply mc_abs | apply mc_mm | apply mc_sum | apply mc_aa | apply mc_tuple | apply mc_list | apply mc_srt | apply mc_cnt | apply mc_idx | apply mc_dictP | apply mono_compK | apply mono_compD | apply mono_upd | apply mono_keysF | apply mono_mv | apply mc_mmK | apply mc_min2 | apply mm_append | apply mm_extend | apply mm_pop | apply mm_popAt)
def F_is_sized : FP := wpF 3 3 m_is_sized
theorem mf_is_sized : MonoF F_is_sized := monoF_wp mo_is_sized
def m_is_lot : MS :=
  (sSeq (sIte (sOrB (sNotB (sTru (sIsi "tuple" (sBor 0)))) (sNotB (sTru (sCall (s_aa true) (sCons (sComp [2] (sIt (sVar 0)) (.nm 2) sYes (sCallPX 3 F_is_within (sCons (sVar 2) (sCons (sC (.int 0)) (sCons (sBin s_sub (sBor 1) (sC (.int 1))) sNil))))) sNil))))) (sRet (sC (.bool false))) sSkip)
    (sRet (sCall (s_aa true) (sCons (sComp [2, 3] (sZip2 (sCons (sVar 0) (sCons (sSl (sBor 0) (sPs (sC (.int 1))) sPn) sNil))) (.tp (.cons (.nm 2) (.cons (.nm 3) .nil))) sYes (sBin (s_ord .Lt) (sBor 2) (sBor 3))) sNil))))
theorem mo_is_lot : MonoS (m_is_lot) := by
  unfold m_is_lot
  repeat' (with_reducible first | exact mf_is_within | apply monoS_skip | apply monoS_seq | apply monoS_expr | apply monoS_ret | apply monoS_retN | apply monoS_brk | apply monoS_cnt | apply monoS_never | apply monoS_ite | apply monoS_asg | apply monoS_asgT | apply monoS_par | apply monoS_par3 | apply monoS_aug | apply monoS_for | apply monoS_while | apply monoS_putIx | apply mono_C | apply mono_var | apply mono_bor | apply mono_tup | apply mono_lst | apply mono_bin | apply mono_chain | apply mono_and | apply mono_or | apply mono_not | apply mono_neg | apply mono_if | apply mono_comp | apply mono_call | apply mono_callP | apply mono_callPX | apply mono_callI | apply mono_callIX | apply monoS_raise0 | apply mono_lam | apply mc_cntL | apply mono_callS | apply mono_slSc | apply mono_isi | apply mono_isi2 | apply mono_lrg1 | apply mono_sl | apply mono_mut | apply mono_mut0 | apply mono_cnt1 | apply mono_dget2 | apply mono_dict0 | apply mono_dict1 | apply mono_nil | apply mono_cons | apply mono_tru | apply mono_bl | apply mono_andB | apply mono_orB | apply mono_notB | apply mono_yes | apply mono_it | apply mono_rng1 | apply mono_rng2 | apply mono_rng3 | apply mono_zip2 | apply mono_zip3 | apply mono_enum | apply mono_str | apply mono_rev | apply mono_pn | apply mono_ps | apply m_add | apply m_sub | apply m_mul | apply m_mulR | apply m_fdiv | apply m_mod | apply m_pow | apply m_shl | apply m_and | apply m_xor | apply m_eq | apply m_eqO | apply m_ne | apply m_ord | apply m_in | apply m_is | apply m_ix | apply m_ixD | apply m_inD | apply m_iadd | apply mc_len | apply mc_int | apply mc_abs | apply mc_mm | apply mc_sum | apply mc_aa | apply mc_tuple | apply mc_list | apply mc_srt | apply mc_cnt | apply mc_idx | apply mc_dictP | apply mono_compK | apply mono_compD | apply mono_upd | apply mono_keysF | apply mono_mv | apply mc_mmK | apply mc_min2 | apply mm_append | apply mm_extend | apply mm_pop | apply mm_popAt)
def F_is_lot : FP := wpF 2 4 m_is_lot
theorem mf_is_lot : MonoF F_is_lot := monoF_wp mo_is_lot
def m_check_coins : MS :=
  (sIte (sNotB (sTru (sCallPX 3 F_is_within (sCons (sVar 0) (sCons (sC (.int 3)) (sCons (sC (.int 13)) sNil)))))) (sRaise0 "NoCoins") sSkip)
theorem mo_check_coins : MonoS (m_check_coins) := by
  unfold m_check_coins
  repeat' (with_reducible first | exact mf_is_within | apply monoS_skip | apply monoS_seq | apply monoS_expr | apply monoS_ret | apply monoS_retN | apply monoS_brk | apply monoS_cnt | apply monoS_never | apply monoS_ite | apply monoS_asg | apply monoS_asgT | apply monoS_par | apply monoS_par3 | apply monoS_aug | apply monoS_for | apply monoS_while | apply monoS_putIx | apply mono_C | apply mono_var | apply mono_bor | apply mono_tup | apply mono_lst | apply mono_bin | apply mono_chain | apply mono_and | apply mono_or | apply mono_not | apply mono_neg | apply mono_if | apply mono_comp | apply mono_call | apply mono_callP | apply mono_callPX | apply mono_callI | apply mono_callIX | apply monoS_raise0 | apply mono_lam | apply mc_cntL | apply mono_callS | apply mono_slSc | apply mono_isi | apply mono_isi2 | apply mono_lrg1 | apply mono_sl | apply mono_mut | apply mono_mut0 | apply mono_cnt1 | apply mono_dget2 | apply mono_dict0 | apply mono_dict1 | apply mono_nil | apply mono_cons | apply mono_tru | apply mono_bl | apply mono_andB | apply mono_orB | apply mono_notB | apply mono_yes | apply mono_it | apply mono_rng1 | apply mono_rng2 | apply mono_rng3 | apply mono_zip2 | apply mono_zip3 | apply mono_enum | apply mono_str | apply mono_rev | apply mono_pn | apply mono_ps | apply m_add | apply m_sub | apply m_mul | apply m_mulR | apply m_fdiv | apply m_mod | apply m_pow | apply m_shl | apply m_and | apply m_xor | apply m_eq | apply m_eqO | apply m_ne | apply m_ord | apply m_in | apply m_is | apply m_ix | apply m_ixD | apply m_inD | apply m_iadd | apply mc_len | apply mc_int | apply mc_abs | apply mc_mm | apply mc_sum | apply mc_aa | apply mc_tuple | apply mc_list | apply mc_srt | apply mc_cnt | apply mc_idx | apply mc_dictP | apply mono_compK | apply mono_compD | apply mono_upd | apply mono_keysF | apply mono_mv | apply mc_mmK | apply mc_min2 | apply mm_append | apply mm_extend | apply mm_pop | apply mm_popAt)
def F_check_coins : FP := wpF 1 1 m_check_coins
theorem mf_check_coins : MonoF F_check_coins := monoF_wp mo_check_coins
def m_is_case : MS :=
  (sSeq (sIte (sOrB (sNotB (sTru (sCallPX 3 F_is_sized (sCons (sVar 1) (sCons (sC (.int 2)) (sCons (sC (.int 2)) sNil)))))) (sOrB (sNotB (sTru (sIsi "str" (sBin s_ixD (sBor 1) (sC (.int 0)))))) (sBl (sBin (s_inD true) (sBin s_ixD (sBor 1) (sC (.int 0))) (sTup (sCons (sC (.str "heavier")) (sCons (sC (.str "lighter")) sNil))))))) (sRet (sC (.bool false))) sSkip)
    (sRet (sCallPX 3 F_is_within (sCons (sBin s_ixD (sBor 1) (sC (.int 1))) (sCons (sC (.int 0)) (sCons (sBin s_sub (sBor 0) (sC (.int 1))) sNil))))))
theorem mo_is_case : MonoS (m_is_case) := by
  unfold m_is_case
  repeat' (with_reducible first | exact mf_is_sized | exact mf_is_within | apply monoS_skip | apply monoS_seq | apply monoS_expr | apply monoS_ret | apply monoS_retN | apply monoS_brk | apply monoS_cnt | apply monoS_never | apply monoS_ite | apply monoS_asg | apply monoS_asgT | apply monoS_par | apply monoS_par3 | apply monoS_aug | apply monoS_for | apply monoS_while | apply monoS_putIx | apply mono_C | apply mono_var | apply mono_bor | apply mono_tup | apply mono_lst | apply mono_bin | apply mono_chain | apply mono_and | apply mono_or | apply mono_not | apply mono_neg | apply mono_if | apply mono_comp | apply mono_call | apply mono_callP | apply mono_callPX | apply mono_callI | apply mono_callIX | apply monoS_raise0 | apply mono_lam | apply mc_cntL | apply mono_callS | apply mono_slSc | apply mono_isi | apply mono_isi2 | apply mono_lrg1 | apply mono_sl | apply mono_mut | apply mono_mut0 | apply mono_cnt1 | apply mono_dget2 | apply mono_dict0 | apply mono_dict1 | apply mono_nil | apply mono_cons | apply mono_tru | apply mono_bl | apply mono_andB | apply mono_orB | apply mono_notB | apply mono_yes | apply mono_it | apply mono_rng1 | apply mono_rng2 | apply mono_rng3 | apply mono_zip2 | apply mono_zip3 | apply mono_enum | apply mono_str | apply mono_rev | apply mono_pn | apply mono_ps | apply m_add | apply m_sub | apply m_mul | apply m_mulR | apply m_fdiv | apply m_mod | apply m_pow | apply m_shl | apply m_and | apply m_xor | apply m_eq | apply m_eqO | apply m_ne | apply m_ord | apply m_in | apply m_is | apply m_ix | apply m_ixD | apply m_inD | apply m_iadd | apply mc_len | apply mc_int | apply mc_abs | apply mc_mm | apply mc_sum | apply mc_aa | apply mc_tuple | apply mc_list | apply mc_srt | apply mc_cnt | apply mc_idx | apply mc_dictP | apply mono_compK | apply mono_compD | apply mono_upd | apply mono_keysF | apply mono_mv | apply mc_mmK | apply mc_min2 | apply mm_append | apply mm_extend | apply mm_pop | apply mm_popAt)
def F_is_case : FP := wpF 2 2 m_is_case
theorem mf_is_case : MonoF F_is_case := monoF_wp mo_is_case
def m_is_weighing : MS :=
  (sSeq (sAsg 3 (sBin s_add (sBor 0) (sCall s_int (sCons (sBor 1) sNil))))
    (sSeq (sIte (sOrB (sNotB (sTru (sCallPX 3 F_is_sized (sCons (sVar 2) (sCons (sC (.int 2)) (sCons (sC (.int 2)) sNil)))))) (sNotB (sTru (sCall (s_aa true) (sCons (sComp [6] (sIt (sVar 2)) (.nm 6) sYes (sCallPX 2 F_is_lot (sCons (sVar 6) (sCons (sVar 3) sNil)))) sNil))))) (sRet (sC (.bool false))) sSkip)
    (sSeq (sAsgT (.tp (.cons (.nm 4) (.cons (.nm 5) .nil))) (sVar 2))
    (sRet (sAnd (sChain s_eq (s_ord .Gt) (sCall s_len (sCons (sBor 4) sNil)) (sCall s_len (sCons (sBor 5) sNil)) (sC (.int 0))) (sNot (sCall (s_aa false) (sCons (sComp [7] (sIt (sVar 4)) (.nm 7) sYes (sBin (s_inD false) (sBor 7) (sBor 5))) sNil))))))))
theorem mo_is_weighing : MonoS (m_is_weighing) := by
  unfold m_is_weighing
  repeat' (with_reducible first | exact mf_is_sized | exact mf_is_lot | apply monoS_skip | apply monoS_seq | apply monoS_expr | apply monoS_ret | apply monoS_retN | apply monoS_brk | apply monoS_cnt | apply monoS_never | apply monoS_ite | apply monoS_asg | apply monoS_asgT | apply monoS_par | apply monoS_par3 | apply monoS_aug | apply monoS_for | apply monoS_while | apply monoS_putIx | apply mono_C | apply mono_var | apply mono_bor | apply mono_tup | apply mono_lst | apply mono_bin | apply mono_chain | apply mono_and | apply mono_or | apply mono_not | apply mono_neg | apply mono_if | apply mono_comp | apply mono_call | apply mono_callP | apply mono_callPX | apply mono_callI | apply mono_callIX | apply monoS_raise0 | apply mono_lam | apply mc_cntL | apply mono_callS | apply mono_slSc | apply mono_isi | apply mono_isi2 | apply mono_lrg1 | apply mono_sl | apply mono_mut | apply mono_mut0 | apply mono_cnt1 | apply mono_dget2 | apply mono_dict0 | apply mono_dict1 | apply mono_nil | apply mono_cons | apply mono_tru | apply mono_bl | apply mono_andB | apply mono_orB | apply mono_notB | apply mono_yes | apply mono_it | apply mono_rng1 | apply mono_rng2 | apply mono_rng3 | apply mono_zip2 | apply mono_zip3 | apply mono_enum | apply mono_str | apply mono_rev | apply mono_pn | apply mono_ps | apply m_add | apply m_sub | apply m_mul | apply m_mulR | apply m_fdiv | apply m_mod | apply m_pow | apply m_shl | apply m_and | apply m_xor | apply m_eq | apply m_eqO | apply m_ne | apply m_ord | apply m_in | apply m_is | apply m_ix | apply m_ixD | apply m_inD | apply m_iadd | apply mc_len | apply mc_int | apply mc_abs | apply mc_mm | apply mc_sum | apply mc_aa | apply mc_tuple | apply mc_list | apply mc_srt | apply mc_cnt | apply mc_idx | apply mc_dictP | apply mono_compK | apply mono_compD | apply mono_upd | apply mono_keysF | apply mono_mv | apply mc_mmK | apply mc_min2 | apply mm_append | apply mm_extend | apply mm_pop | apply mm_popAt)
def F_is_weighing : FP := wpF 3 8 m_is_weighing
theorem mf_is_weighing : MonoF F_is_weighing := monoF_wp mo_is_weighing
def m_raw_result : MS :=
  (sSeq (sAsgT (.tp (.cons (.nm 3) (.cons (.nm 4) .nil))) (sVar 0))
    (sSeq (sIte (sAndB (sBl (sBin (s_inD true) (sBor 4) (sBor 1))) (sBl (sBin (s_inD true) (sBor 4) (sBor 2)))) (sRet (sC (.str "even"))) sSkip)
    (sRet (sIf (sBl (sBin s_eq (sBin (s_inD false) (sBor 4) (sBor 1)) (sBin s_eq (sBor 3) (sC (.str "heavier"))))) (sC (.str "near")) (sC (.str "far"))))))
theorem mo_raw_result : MonoS (m_raw_result) := by
  unfold m_raw_result
  repeat' (with_reducible first | apply monoS_skip | apply monoS_seq | apply monoS_expr | apply monoS_ret | apply monoS_retN | apply monoS_brk | apply monoS_cnt | apply monoS_never | apply monoS_ite | apply monoS_asg | apply monoS_asgT | apply monoS_par | apply monoS_par3 | apply monoS_aug | apply monoS_for | apply monoS_while | apply monoS_putIx | apply mono_C | apply mono_var | apply mono_bor | apply mono_tup | apply mono_lst | apply mono_bin | apply mono_chain | apply mono_and | apply mono_or | apply mono_not | apply mono_neg | apply mono_if | apply mono_comp | apply mono_call | apply mono_callP | apply mono_callPX | apply mono_callI | apply mono_callIX | apply monoS_raise0 | apply mono_lam | apply mc_cntL | apply mono_callS | apply mono_slSc | apply mono_isi | apply mono_isi2 | apply mono_lrg1 | apply mono_sl | apply mono_mut | apply mono_mut0 | apply mono_cnt1 | apply mono_dget2 | apply mono_dict0 | apply mono_dict1 | apply mono_nil | apply mono_cons | apply mono_tru | apply mono_bl | apply mono_andB | apply mono_orB | apply mono_notB | apply mono_yes | apply mono_it | apply mono_rng1 | apply mono_rng2 | apply mono_rng3 | apply mono_zip2 | apply mono_zip3 | apply mono_enum | apply mono_str | apply mono_rev | apply mono_pn | apply mono_ps | apply m_add | apply m_sub | apply m_mul | apply m_mulR | apply m_fdiv | apply m_mod | apply m_pow | apply m_shl | apply m_and | apply m_xor | apply m_eq | apply m_eqO | apply m_ne | apply m_ord | apply m_in | apply m_is | apply m_ix | apply m_ixD | apply m_inD | apply m_iadd | apply mc_len | apply mc_int | apply mc_abs | apply mc_mm | apply mc_sum | apply mc_aa | apply mc_tuple | apply mc_list | apply mc_srt | apply mc_cnt | apply mc_idx | apply mc_dictP | apply mono_compK | apply mono_compD | apply mono_upd | apply mono_keysF | apply mono_mv | apply mc_mmK | apply mc_min2 | apply mm_append | apply mm_extend | apply mm_pop | apply mm_popAt)
def F_raw_result : FP := wpF 3 5 m_raw_result
theorem mf_raw_result : MonoF F_raw_result := monoF_wp mo_raw_result
def m_is_set : MS :=
  (sRet (sAnd (sCallPX 3 F_is_sized (sCons (sVar 1) (sCons (sC (.int 1)) (sCons (sC (.int 4)) sNil)))) (sCall (s_aa true) (sCons (sComp [2] (sIt (sVar 1)) (.nm 2) sYes (sCallPX 3 F_is_weighing (sCons (sVar 0) (sCons (sC (.bool false)) (sCons (sVar 2) sNil))))) sNil))))
theorem mo_is_set : MonoS (m_is_set) := by
  unfold m_is_set
  repeat' (with_reducible first | exact mf_is_sized | exact mf_is_weighing | apply monoS_skip | apply monoS_seq | apply monoS_expr | apply monoS_ret | apply monoS_retN | apply monoS_brk | apply monoS_cnt | apply monoS_never | apply monoS_ite | apply monoS_asg | apply monoS_asgT | apply monoS_par | apply monoS_par3 | apply monoS_aug | apply monoS_for | apply monoS_while | apply monoS_putIx | apply mono_C | apply mono_var | apply mono_bor | apply mono_tup | apply mono_lst | apply mono_bin | apply mono_chain | apply mono_and | apply mono_or | apply mono_not | apply mono_neg | apply mono_if | apply mono_comp | apply mono_call | apply mono_callP | apply mono_callPX | apply mono_callI | apply mono_callIX | apply monoS_raise0 | apply mono_lam | apply mc_cntL | apply mono_callS | apply mono_slSc | apply mono_isi | apply mono_isi2 | apply mono_lrg1 | apply mono_sl | apply mono_mut | apply mono_mut0 | apply mono_cnt1 | apply mono_dget2 | apply mono_dict0 | apply mono_dict1 | apply mono_nil | apply mono_cons | apply mono_tru | apply mono_bl | apply mono_andB | apply mono_orB | apply mono_notB | apply mono_yes | apply mono_it | apply mono_rng1 | apply mono_rng2 | apply mono_rng3 | apply mono_zip2 | apply mono_zip3 | apply mono_enum | apply mono_str | apply mono_rev | apply mono_pn | apply mono_ps | apply m_add | apply m_sub | apply m_mul | apply m_mulR | apply m_fdiv | apply m_mod | apply m_pow | apply m_shl | apply m_and | apply m_xor | apply m_eq | apply m_eqO | apply m_ne | apply m_ord | apply m_in | apply m_is | apply m_ix | apply m_ixD | apply m_inD | apply m_iadd | apply mc_len | apply mc_int | apply mc_abs | apply mc_mm | apply mc_sum | apply mc_aa | apply mc_tuple | apply mc_list | apply mc_srt | apply mc_cnt | apply mc_idx | apply mc_dictP | apply mono_compK | apply mono_compD | apply mono_upd | apply mono_keysF | apply mono_mv | apply mc_mmK | apply mc_min2 | apply mm_append | apply mm_extend | apply mm_pop | apply mm_popAt)
def F_is_set : FP := wpF 2 3 m_is_set
theorem mf_is_set : MonoF F_is_set := monoF_wp mo_is_set
def m_check_set : MS :=
  (sSeq (sExpr (sCallPX 1 F_check_coins (sCons (sVar 0) sNil)))
    (sIte (sNotB (sTru (sCallPX 2 F_is_set (sCons (sVar 0) (sCons (sVar 1) sNil))))) (sRaise0 "NoSet") sSkip))
theorem mo_check_set : MonoS (m_check_set) := by
  unfold m_check_set
  repeat' (with_reducible first | exact mf_check_coins | exact mf_is_set | apply monoS_skip | apply monoS_seq | apply monoS_expr | apply monoS_ret | apply monoS_retN | apply monoS_brk | apply monoS_cnt | apply monoS_never | apply monoS_ite | apply monoS_asg | apply monoS_asgT | apply monoS_par | apply monoS_par3 | apply monoS_aug | apply monoS_for | apply monoS_while | apply monoS_putIx | apply mono_C | apply mono_var | apply mono_bor | apply mono_tup | apply mono_lst | apply mono_bin | apply mono_chain | apply mono_and | apply mono_or | apply mono_not | apply mono_neg | apply mono_if | apply mono_comp | apply mono_call | apply mono_callP | apply mono_callPX | apply mono_callI | apply mono_callIX | apply monoS_raise0 | apply mono_lam | apply mc_cntL | apply mono_callS | apply mono_slSc | apply mono_isi | apply mono_isi2 | apply mono_lrg1 | apply mono_sl | apply mono_mut | apply mono_mut0 | apply mono_cnt1 | apply mono_dget2 | apply mono_dict0 | apply mono_dict1 | apply mono_nil | apply mono_cons | apply mono_tru | apply mono_bl | apply mono_andB | apply mono_orB | apply mono_notB | apply mono_yes | apply mono_it | apply mono_rng1 | apply mono_rng2 | apply mono_rng3 | apply mono_zip2 | apply mono_zip3 | apply mono_enum | apply mono_str | apply mono_rev | apply mono_pn | apply mono_ps | apply m_add | apply m_sub | apply m_mul | apply m_mulR | apply m_fdiv | apply m_mod | apply m_pow | apply m_shl | apply m_and | apply m_xor | apply m_eq | apply m_eqO | apply m_ne | apply m_ord | apply m_in | apply m_is | apply m_ix | apply m_ixD | apply m_inD | apply m_iadd | apply mc_len | apply mc_int | apply mc_abs | apply mc_mm | apply mc_sum | apply mc_aa | apply mc_tuple | apply mc_list | apply mc_srt | apply mc_cnt | apply mc_idx | apply mc_dictP | apply mono_compK | apply mono_compD | apply mono_upd | apply mono_keysF | apply mono_mv | apply mc_mmK | apply mc_min2 | apply mm_append | apply mm_extend | apply mm_pop | apply mm_popAt)
def F_check_set : FP := wpF 2 2 m_check_set
theorem mf_check_set : MonoF F_check_set := monoF_wp mo_check_set
def m_raw_results : MS :=
  (sRet (sCall s_tuple (sCons (sComp [2, 3] (sIt (sVar 0)) (.tp (.cons (.nm 2) (.cons (.nm 3) .nil))) sYes (sCallPX 3 F_raw_result (sCons (sVar 1) (sCons (sVar 2) (sCons (sVar 3) sNil))))) sNil)))
theorem mo_raw_results : MonoS (m_raw_results) := by
  unfold m_raw_results
  repeat' (with_reducible first | exact mf_raw_result | apply monoS_skip | apply monoS_seq | apply monoS_expr | apply monoS_ret | apply monoS_retN | apply monoS_brk | apply monoS_cnt | apply monoS_never | apply monoS_ite | apply monoS_asg | apply monoS_asgT | apply monoS_par | apply monoS_par3 | apply monoS_aug | apply monoS_for | apply monoS_while | apply monoS_putIx | apply mono_C | apply mono_var | apply mono_bor | apply mono_tup | apply mono_lst | apply mono_bin | apply mono_chain | apply mono_and | apply mono_or | apply mono_not | apply mono_neg | apply mono_if | apply mono_comp | apply mono_call | apply mono_callP | apply mono_callPX | apply mono_callI | apply mono_callIX | apply monoS_raise0 | apply mono_lam | apply mc_cntL | apply mono_callS | apply mono_slSc | apply mono_isi | apply mono_isi2 | apply mono_lrg1 | apply mono_sl | apply mono_mut | apply mono_mut0 | apply mono_cnt1 | apply mono_dget2 | apply mono_dict0 | apply mono_dict1 | apply mono_nil | apply mono_cons | apply mono_tru | apply mono_bl | apply mono_andB | apply mono_orB | apply mono_notB | apply mono_yes | apply mono_it | apply mono_rng1 | apply mono_rng2 | apply mono_rng3 | apply mono_zip2 | apply mono_zip3 | apply mono_enum | apply mono_str | apply mono_rev | apply mono_pn | apply mono_ps | apply m_add | apply m_sub | apply m_mul | apply m_mulR | apply m_fdiv | apply m_mod | apply m_pow | apply m_shl | apply m_and | apply m_xor | apply m_eq | apply m_eqO | apply m_ne | apply m_ord | apply m_in | apply m_is | apply m_ix | apply m_ixD | apply m_inD | apply m_iadd | apply mc_len | apply mc_int | apply mc_abs | apply mc_mm | apply mc_sum | apply mc_aa | apply mc_tuple | apply mc_list | apply mc_srt | apply mc_cnt | apply mc_idx | apply mc_dictP | apply mono_compK | apply mono_compD | apply mono_upd | apply mono_keysF | apply mono_mv | apply mc_mmK | apply mc_min2 | apply mm_append | apply mm_extend | apply mm_pop | apply mm_popAt)
def F_raw_results : FP := wpF 2 4 m_raw_results
theorem mf_raw_results : MonoF F_raw_results := monoF_wp mo_raw_results
def m_results_of : MS :=
  (sSeq (sExpr (sCallPX 2 F_check_set (sCons (sVar 0) (sCons (sVar 1) sNil))))
    (sSeq (sIte (sNotB (sTru (sCallPX 2 F_is_case (sCons (sVar 0) (sCons (sVar 2) sNil))))) (sRaise0 "NoCase") sSkip)
    (sRet (sCallPX 2 F_raw_results (sCons (sVar 1) (sCons (sVar 2) sNil))))))
theorem mo_results_of : MonoS (m_results_of) := by
  unfold m_results_of
  repeat' (with_reducible first | exact mf_check_set | exact mf_is_case | exact mf_raw_results | apply monoS_skip | apply monoS_seq | apply monoS_expr | apply monoS_ret | apply monoS_retN | apply monoS_brk | apply monoS_cnt | apply monoS_never | apply monoS_ite | apply monoS_asg | apply monoS_asgT | apply monoS_par | apply monoS_par3 | apply monoS_aug | apply monoS_for | apply monoS_while | apply monoS_putIx | apply mono_C | apply mono_var | apply mono_bor | apply mono_tup | apply mono_lst | apply mono_bin | apply mono_chain | apply mono_and | apply mono_or | apply mono_not | apply mono_neg | apply mono_if | apply mono_comp | apply mono_call | apply mono_callP | apply mono_callPX | apply mono_callI | apply mono_callIX | apply monoS_raise0 | apply mono_lam | apply mc_cntL | apply mono_callS | apply mono_slSc | apply mono_isi | apply mono_isi2 | apply mono_lrg1 | apply mono_sl | apply mono_mut | apply mono_mut0 | apply mono_cnt1 | apply mono_dget2 | apply mono_dict0 | apply mono_dict1 | apply mono_nil | apply mono_cons | apply mono_tru | apply mono_bl | apply mono_andB | apply mono_orB | apply mono_notB | apply mono_yes | apply mono_it | apply mono_rng1 | apply mono_rng2 | apply mono_rng3 | apply mono_zip2 | apply mono_zip3 | apply mono_enum | apply mono_str | apply mono_rev | apply mono_pn | apply mono_ps | apply m_add | apply m_sub | apply m_mul | apply m_mulR | apply m_fdiv | apply m_mod | apply m_pow | apply m_shl | apply m_and | apply m_xor | apply m_eq | apply m_eqO | apply m_ne | apply m_ord | apply m_in | apply m_is | apply m_ix | apply m_ixD | apply m_inD | apply m_iadd | apply mc_len | apply mc_int | apply mc_abs | apply mc_mm | apply mc_sum | apply mc_aa | apply mc_tuple | apply mc_list | apply mc_srt | apply mc_cnt | apply mc_idx | apply mc_dictP | apply mono_compK | apply mono_compD | apply mono_upd | apply mono_keysF | apply mono_mv | apply mc_mmK | apply mc_min2 | apply mm_append | apply mm_extend | apply mm_pop | apply mm_popAt)
def F_results_of : FP := wpF 3 3 m_results_of
theorem mf_results_of : MonoF F_results_of := monoF_wp mo_results_of
def m_raw_code : MS :=
  (sRet (sCall s_tuple (sCons (sComp [2, 3] (sIt (sVar 0)) (.tp (.cons (.nm 2) (.cons (.nm 3) .nil))) sYes (sBin s_sub (sCall s_int (sCons (sBin (s_inD false) (sBor 1) (sBor 2)) sNil)) (sCall s_int (sCons (sBin (s_inD false) (sBor 1) (sBor 3)) sNil)))) sNil)))
theorem mo_raw_code : MonoS (m_raw_code) := by
  unfold m_raw_code
  repeat' (with_reducible first | apply monoS_skip | apply monoS_seq | apply monoS_expr | apply monoS_ret | apply monoS_retN | apply monoS_brk | apply monoS_cnt | apply monoS_never | apply monoS_ite | apply monoS_asg | apply monoS_asgT | apply monoS_par | apply monoS_par3 | apply monoS_aug | apply monoS_for | apply monoS_while | apply monoS_putIx | apply mono_C | apply mono_var | apply mono_bor | apply mono_tup | apply mono_lst | apply mono_bin | apply mono_chain | apply mono_and | apply mono_or | apply mono_not | apply mono_neg | apply mono_if | apply mono_comp | apply mono_call | apply mono_callP | apply mono_callPX | apply mono_callI | apply mono_callIX | apply monoS_raise0 | apply mono_lam | apply mc_cntL | apply mono_callS | apply mono_slSc | apply mono_isi | apply mono_isi2 | apply mono_lrg1 | apply mono_sl | apply mono_mut | apply mono_mut0 | apply mono_cnt1 | apply mono_dget2 | apply mono_dict0 | apply mono_dict1 | apply mono_nil | apply mono_cons | apply mono_tru | apply mono_bl | apply mono_andB | apply mono_orB | apply mono_notB | apply mono_yes | apply mono_it | apply mono_rng1 | apply mono_rng2 | apply mono_rng3 | apply mono_zip2 | apply mono_zip3 | apply mono_enum | apply mono_str | apply mono_rev | apply mono_pn | apply mono_ps | apply m_add | apply m_sub | apply m_mul | apply m_mulR | apply m_fdiv | apply m_mod | apply m_pow | apply m_shl | apply m_and | apply m_xor | apply m_eq | apply m_eqO | apply m_ne | apply m_ord | apply m_in | apply m_is | apply m_ix | apply m_ixD | apply m_inD | apply m_iadd | apply mc_len | apply mc_int | apply mc_abs | apply mc_mm | apply mc_sum | apply mc_aa | apply mc_tuple | apply mc_list | apply mc_srt | apply mc_cnt | apply mc_idx | apply mc_dictP | apply mono_compK | apply mono_compD | apply mono_upd | apply mono_keysF | apply mono_mv | apply mc_mmK | apply mc_min2 | apply mm_append | apply mm_extend | apply mm_pop | apply mm_popAt)
def F_raw_code : FP := wpF 2 4 m_raw_code
theorem mf_raw_code : MonoF F_raw_code := monoF_wp mo_raw_code
def m_code_of : MS :=
  (sSeq (sExpr (sCallPX 2 F_check_set (sCons (sVar 0) (sCons (sVar 1) sNil))))
    (sSeq (sIte (sNotB (sTru (sCallPX 3 F_is_within (sCons (sVar 2) (sCons (sC (.int 0)) (sCons (sBin s_sub (sBor 0) (sC (.int 1))) sNil)))))) (sRaise0 "NoCoin") sSkip)
    (sRet (sCallPX 2 F_raw_code (sCons (sVar 1) (sCons (sVar 2) sNil))))))
theorem mo_code_of : MonoS (m_code_of) := by
  unfold m_code_of
  repeat' (with_reducible first | exact mf_check_set | exact mf_is_within | exact mf_raw_code | apply monoS_skip | apply monoS_seq | apply monoS_expr | apply monoS_ret | apply monoS_retN | apply monoS_brk | apply monoS_cnt | apply monoS_never | apply monoS_ite | apply monoS_asg | apply monoS_asgT | apply monoS_par | apply monoS_par3 | apply monoS_aug | apply monoS_for | apply monoS_while | apply monoS_putIx | apply mono_C | apply mono_var | apply mono_bor | apply mono_tup | apply mono_lst | apply mono_bin | apply mono_chain | apply mono_and | apply mono_or | apply mono_not | apply mono_neg | apply mono_if | apply mono_comp | apply mono_call | apply mono_callP | apply mono_callPX | apply mono_callI | apply mono_callIX | apply monoS_raise0 | apply mono_lam | apply mc_cntL | apply mono_callS | apply mono_slSc | apply mono_isi | apply mono_isi2 | apply mono_lrg1 | apply mono_sl | apply mono_mut | apply mono_mut0 | apply mono_cnt1 | apply mono_dget2 | apply mono_dict0 | apply mono_dict1 | apply mono_nil | apply mono_cons | apply mono_tru | apply mono_bl | apply mono_andB | apply mono_orB | apply mono_notB | apply mono_yes | apply mono_it | apply mono_rng1 | apply mono_rng2 | apply mono_rng3 | apply mono_zip2 | apply mono_zip3 | apply mono_enum | apply mono_str | apply mono_rev | apply mono_pn | apply mono_ps | apply m_add | apply m_sub | apply m_mul | apply m_mulR | apply m_fdiv | apply m_mod | apply m_pow | apply m_shl | apply m_and | apply m_xor | apply m_eq | apply m_eqO | apply m_ne | apply m_ord | apply m_in | apply m_is | apply m_ix | apply m_ixD | apply m_inD | apply m_iadd | apply mc_len | apply mc_int | apply mc_abs | apply mc_mm | apply mc_sum | apply mc_aa | apply mc_tuple | apply mc_list | apply mc_srt | apply mc_cnt | apply mc_idx | apply mc_dictP | apply mono_compK | apply mono_compD | apply mono_upd | apply mono_keysF | apply mono_mv | apply mc_mmK | apply mc_min2 | apply mm_append | apply mm_extend | apply mm_pop | apply mm_popAt)
def F_code_of : FP := wpF 3 3 m_code_of
theorem mf_code_of : MonoF F_code_of := monoF_wp mo_code_of
def m_raw_apart : MS :=
  (sRet (sCall s_len (sCons (sComp [3, 4] (sZip2 (sCons (sCallPX 2 F_raw_results (sCons (sVar 0) (sCons (sVar 1) sNil))) (sCons (sCallPX 2 F_raw_results (sCons (sVar 0) (sCons (sVar 2) sNil))) sNil))) (.tp (.cons (.nm 3) (.cons (.nm 4) .nil))) (sBl (sBin s_ne (sBor 3) (sBor 4))) (sC (.int 1))) sNil)))
theorem mo_raw_apart : MonoS (m_raw_apart) := by
  unfold m_raw_apart
  repeat' (with_reducible first | exact mf_raw_results | apply monoS_skip | apply monoS_seq | apply monoS_expr | apply monoS_ret | apply monoS_retN | apply monoS_brk | apply monoS_cnt | apply monoS_never | apply monoS_ite | apply monoS_asg | apply monoS_asgT | apply monoS_par | apply monoS_par3 | apply monoS_aug | apply monoS_for | apply monoS_while | apply monoS_putIx | apply mono_C | apply mono_var | apply mono_bor | apply mono_tup | apply mono_lst | apply mono_bin | apply mono_chain | apply mono_and | apply mono_or | apply mono_not | apply mono_neg | apply mono_if | apply mono_comp | apply mono_call | apply mono_callP | apply mono_callPX | apply mono_callI | apply mono_callIX | apply monoS_raise0 | apply mono_lam | apply mc_cntL | apply mono_callS | apply mono_slSc | apply mono_isi | apply mono_isi2 | apply mono_lrg1 | apply mono_sl | apply mono_mut | apply mono_mut0 | apply mono_cnt1 | apply mono_dget2 | apply mono_dict0 | apply mono_dict1 | apply mono_nil | apply mono_cons | apply mono_tru | apply mono_bl | apply mono_andB | apply mono_orB | apply mono_notB | apply mono_yes | apply mono_it | apply mono_rng1 | apply mono_rng2 | apply mono_rng3 | apply mono_zip2 | apply mono_zip3 | apply mono_enum | apply mono_str | apply mono_rev | apply mono_pn | apply mono_ps | apply m_add | apply m_sub | apply m_mul | apply m_mulR | apply m_fdiv | apply m_mod | apply m_pow | apply m_shl | apply m_and | apply m_xor | apply m_eq | apply m_eqO | apply m_ne | apply m_ord | apply m_in | apply m_is | apply m_ix | apply m_ixD | apply m_inD | apply m_iadd | apply mc_len | apply mc_int | apply mc_abs | apply mc_mm | apply mc_sum | apply mc_aa | apply mc_tuple | apply mc_list | apply mc_srt | apply mc_cnt | apply mc_idx | apply mc_dictP | apply mono_compK | apply mono_compD | apply mono_upd | apply mono_keysF | apply mono_mv | apply mc_mmK | apply mc_min2 | apply mm_append | apply mm_extend | apply mm_pop | apply mm_popAt)
def F_raw_apart : FP := wpF 3 5 m_raw_apart
theorem mf_raw_apart : MonoF F_raw_apart := monoF_wp mo_raw_apart
def b_apart_by_1 : MS :=
  (sIte (sNotB (sTru (sCallPX 2 F_is_case (sCons (sVar 0) (sCons (sVar 4) sNil))))) (sRaise0 "NoCase") sSkip)
theorem mo_b_apart_by_1 : MonoS (b_apart_by_1) := by
  unfold b_apart_by_1
  repeat' (with_reducible first | exact mf_check_set | exact mf_is_case | exact mf_raw_apart | apply monoS_skip | apply monoS_seq | apply monoS_expr | apply monoS_ret | apply monoS_retN | apply monoS_brk | apply monoS_cnt | apply monoS_never | apply monoS_ite | apply monoS_asg | apply monoS_asgT | apply monoS_par | apply monoS_par3 | apply monoS_aug | apply monoS_for | apply monoS_while | apply monoS_putIx | apply mono_C | apply mono_var | apply mono_bor | apply mono_tup | apply mono_lst | apply mono_bin | apply mono_chain | apply mono_and | apply mono_or | apply mono_not | apply mono_neg | apply mono_if | apply mono_comp | apply mono_call | apply mono_callP | apply mono_callPX | apply mono_callI | apply mono_callIX | apply monoS_raise0 | apply mono_lam | apply mc_cntL | apply mono_callS | apply mono_slSc | apply mono_isi | apply mono_isi2 | apply mono_lrg1 | apply mono_sl | apply mono_mut | apply mono_mut0 | apply mono_cnt1 | apply mono_dget2 | apply mono_dict0 | apply mono_dict1 | apply mono_nil | apply mono_cons | apply mono_tru | apply mono_bl | apply mono_andB | apply mono_orB | apply mono_notB | apply mono_yes | apply mono_it | apply mono_rng1 | apply mono_rng2 | apply mono_rng3 | apply mono_zip2 | apply mono_zip3 | apply mono_enum | apply mono_str | apply mono_rev | apply mono_pn | apply mono_ps | apply m_add | apply m_sub | apply m_mul | apply m_mulR | apply m_fdiv | apply m_mod | apply m_pow | apply m_shl | apply m_and | apply m_xor | apply m_eq | apply m_eqO | apply m_ne | apply m_ord | apply m_in | apply m_is | apply m_ix | apply m_ixD | apply m_inD | apply m_iadd | apply mc_len | apply mc_int | apply mc_abs | apply mc_mm | apply mc_sum | apply mc_aa | apply mc_tuple | apply mc_list | apply mc_srt | apply mc_cnt | apply mc_idx | apply mc_dictP | apply mono_compK | apply mono_compD | apply mono_upd | apply mono_keysF | apply mono_mv | apply mc_mmK | apply mc_min2 | apply mm_append | apply mm_extend | apply mm_pop | apply mm_popAt)
def m_apart_by : MS :=
  (sSeq (sExpr (sCallPX 2 F_check_set (sCons (sVar 0) (sCons (sVar 1) sNil))))
    (sSeq (sFor (sIt (sTup (sCons (sVar 2) (sCons (sVar 3) sNil)))) (.nm 4) b_apart_by_1)
    (sRet (sCallPX 3 F_raw_apart (sCons (sVar 1) (sCons (sVar 2) (sCons (sVar 3) sNil)))))))
theorem mo_apart_by : MonoS (m_apart_by) := by
  unfold m_apart_by
  repeat' (with_reducible first | exact mf_check_set | exact mf_is_case | exact mf_raw_apart | exact (mo_b_apart_by_1) | apply monoS_skip | apply monoS_seq | apply monoS_expr | apply monoS_ret | apply monoS_retN | apply monoS_brk | apply monoS_cnt | apply monoS_never | apply monoS_ite | apply monoS_asg | apply monoS_asgT | apply monoS_par | apply monoS_par3 | apply monoS_aug | apply monoS_for | apply monoS_while | apply monoS_putIx | apply mono_C | apply mono_var | apply mono_bor | apply mono_tup | apply mono_lst | apply mono_bin | apply mono_chain | apply mono_and | apply mono_or | apply mono_not | apply mono_neg | apply mono_if | apply mono_comp | apply mono_call | apply mono_callP | apply mono_callPX | apply mono_callI | apply mono_callIX | apply monoS_raise0 | apply mono_lam | apply mc_cntL | apply mono_callS | apply mono_slSc | apply mono_isi | apply mono_isi2 | apply mono_lrg1 | apply mono_sl | apply mono_mut | apply mono_mut0 | apply mono_cnt1 | apply mono_dget2 | apply mono_dict0 | apply mono_dict1 | apply mono_nil | apply mono_cons | apply mono_tru | apply mono_bl | apply mono_andB | apply mono_orB | apply mono_notB | apply mono_yes | apply mono_it | apply mono_rng1 | apply mono_rng2 | apply mono_rng3 | apply mono_zip2 | apply mono_zip3 | apply mono_enum | apply mono_str | apply mono_rev | apply mono_pn | apply mono_ps | apply m_add | apply m_sub | apply m_mul | apply m_mulR | apply m_fdiv | apply m_mod | apply m_pow | apply m_shl | apply m_and | apply m_xor | apply m_eq | apply m_eqO | apply m_ne | apply m_ord | apply m_in | apply m_is | apply m_ix | apply m_ixD | apply m_inD | apply m_iadd | apply mc_len | apply mc_int | apply mc_abs | apply mc_mm | apply mc_sum | apply mc_aa | apply mc_tuple | apply mc_list | apply mc_srt | apply mc_cnt | apply mc_idx | apply mc_dictP | apply mono_compK | apply mono_compD | apply mono_upd | apply mono_keysF | apply mono_mv | apply mc_mmK | apply mc_min2 | apply mm_append | apply mm_extend | apply mm_pop | apply mm_popAt)
def F_apart_by : FP := wpF 4 5 m_apart_by
theorem mf_apart_by : MonoF F_apart_by := monoF_wp mo_apart_by
def m__law_hand : MS :=
  (sSeq (sAsg 1 (sComp [2] (sIt (sSlSc 0 63)) (.nm 2) sYes (sCall s_abs (sCons (sCall s_int (sCons (sBor 2) sNil)) sNil))))
    (sRet (sLst (sCons (sVar 1) (sCons (sC (.int 0)) (sCons (sC (.int 0)) (sCons (sBin s_add (sC (.int 61)) (sBin s_mul (sC (.int 7)) (sCall s_len (sCons (sBor 1) sNil)))) (sCons (sC (.int 0)) sNil))))))))
theorem mo__law_hand : MonoS (m__law_hand) := by
  unfold m__law_hand
  repeat' (with_reducible first | apply monoS_skip | apply monoS_seq | apply monoS_expr | apply monoS_ret | apply monoS_retN | apply monoS_brk | apply monoS_cnt | apply monoS_never | apply monoS_ite | apply monoS_asg | apply monoS_asgT | apply monoS_par | apply monoS_par3 | apply monoS_aug | apply monoS_for | apply monoS_while | apply monoS_putIx | apply mono_C | apply mono_var | apply mono_bor | apply mono_tup | apply mono_lst | apply mono_bin | apply mono_chain | apply mono_and | apply mono_or | apply mono_not | apply mono_neg | apply mono_if | apply mono_comp | apply mono_call | apply mono_callP | apply mono_callPX | apply mono_callI | apply mono_callIX | apply monoS_raise0 | apply mono_lam | apply mc_cntL | apply mono_callS | apply mono_slSc | apply mono_isi | apply mono_isi2 | apply mono_lrg1 | apply mono_sl | apply mono_mut | apply mono_mut0 | apply mono_cnt1 | apply mono_dget2 | apply mono_dict0 | apply mono_dict1 | apply mono_nil | apply mono_cons | apply mono_tru | apply mono_bl | apply mono_andB | apply mono_orB | apply mono_notB | apply mono_yes | apply mono_it | apply mono_rng1 | apply mono_rng2 | apply mono_rng3 | apply mono_zip2 | apply mono_zip3 | apply mono_enum | apply mono_str | apply mono_rev | apply mono_pn | apply mono_ps | apply m_add | apply m_sub | apply m_mul | apply m_mulR | apply m_fdiv | apply m_mod | apply m_pow | apply m_shl | apply m_and | apply m_xor | apply m_eq | apply m_eqO | apply m_ne | apply m_ord | apply m_in | apply m_is | apply m_ix | apply m_ixD | apply m_inD | apply m_iadd | apply mc_len | apply mc_int | apply mc_abs | apply mc_mm | apply mc_sum | apply mc_aa | apply mc_tuple | apply mc_list | apply mc_srt | apply mc_cnt | apply mc_idx | apply mc_dictP | apply mono_compK | apply mono_compD | apply mono_upd | apply mono_keysF | apply mono_mv | apply mc_mmK | apply mc_min2 | apply mm_append | apply mm_extend | apply mm_pop | apply mm_popAt)
def F__law_hand : List Int → (Rs → Prop) → Prop := wpScX 3 m__law_hand
theorem mf__law_hand : ∀ ns (k k' : Rs → Prop), (∀ r, k r → k' r) → F__law_hand ns k → F__law_hand ns k' := monoScX mo__law_hand
def m__law_draw : MS :=
  (sSeq (sIte (sAndB (sBl (sBin s_eq (sBin s_ixD (sBor 0) (sC (.int 2))) (sC (.int 0)))) (sBl (sBin (s_ord .Lt) (sBin s_ixD (sBor 0) (sC (.int 1))) (sCall s_len (sCons (sBin s_ixD (sBor 0) (sC (.int 0))) sNil))))) (sSeq (sAsg 2 (sBin s_ixD (sBin s_ixD (sBor 0) (sC (.int 0))) (sBin s_ixD (sBor 0) (sC (.int 1)))))
    (sSeq (sPutIx 0 (sBin s_add (sBin s_ixD (sBor 0) (sC (.int 1))) (sC (.int 1))) (sC (.int 1)))
    (sSeq (sPutIx 0 (sBin s_mod (sCall s_int (sCons (sBin s_add (sBin s_add (sBin s_mul (sBin s_ixD (sBor 0) (sC (.int 3))) (sC (.int 69621))) (sBin s_mul (sBor 2) (sC (.int 40692)))) (sC (.int 31))) sNil)) (sC (.int 2147483629))) (sC (.int 3)))
    (sIte (sBl (sBin (s_ord .GtE) (sBor 2) (sBin s_pow (sC (.int 10)) (sC (.int 18))))) (sPutIx 0 (sVar 2) (sC (.int 2))) sSkip)))) sSkip)
    (sSeq (sIte (sBl (sBin (s_ord .Gt) (sBin s_ixD (sBor 0) (sC (.int 2))) (sC (.int 0)))) (sSeq (sAsg 3 (sBin s_mod (sCall s_int (sCons (sBin s_ixD (sBor 0) (sC (.int 2))) sNil)) (sBor 1)))
    (sSeq (sPutIx 0 (sBin s_fdiv (sBin s_ixD (sBor 0) (sC (.int 2))) (sBor 1)) (sC (.int 2)))
    (sRet (sVar 3)))) sSkip)
    (sSeq (sPutIx 0 (sBin s_add (sBin s_ixD (sBor 0) (sC (.int 4))) (sC (.int 1))) (sC (.int 4)))
    (sSeq (sAsg 4 (sBin s_mod (sCall s_int (sCons (sBin s_mul (sCall s_int (sCons (sBin s_add (sBin s_ixD (sBor 0) (sC (.int 3))) (sBin s_mul (sC (.int 7919)) (sBin s_ixD (sBor 0) (sC (.int 4))))) sNil)) (sC (.int 48271))) sNil)) (sC (.int 2147483647))))
    (sSeq (sAsg 4 (sBin s_mod (sCall s_int (sCons (sBin s_mul (sBor 4) (sBin s_add (sBin s_fdiv (sBor 4) (sC (.int 1009))) (sC (.int 69621)))) sNil)) (sC (.int 2147483647))))
    (sSeq (sAsg 4 (sBin s_mod (sCall s_int (sCons (sBin s_mul (sBor 4) (sBin s_add (sBin s_fdiv (sBor 4) (sC (.int 2003))) (sC (.int 40014)))) sNil)) (sC (.int 2147483563))))
    (sRet (sBin s_mod (sCall s_int (sCons (sBin s_fdiv (sBor 4) (sC (.int 16))) sNil)) (sBor 1)))))))))
theorem mo__law_draw : MonoS (m__law_draw) := by
  unfold m__law_draw
  repeat' (with_reducible first | apply monoS_skip | apply monoS_seq | apply monoS_expr | apply monoS_ret | apply monoS_retN | apply monoS_brk | apply monoS_cnt | apply monoS_never | apply monoS_ite | apply monoS_asg | apply monoS_asgT | apply monoS_par | apply monoS_par3 | apply monoS_aug | apply monoS_for | apply monoS_while | apply monoS_putIx | apply mono_C | apply mono_var | apply mono_bor | apply mono_tup | apply mono_lst | apply mono_bin | apply mono_chain | apply mono_and | apply mono_or | apply mono_not | apply mono_neg | apply mono_if | apply mono_comp | apply mono_call | apply mono_callP | apply mono_callPX | apply mono_callI | apply mono_callIX | apply monoS_raise0 | apply mono_lam | apply mc_cntL | apply mono_callS | apply mono_slSc | apply mono_isi | apply mono_isi2 | apply mono_lrg1 | apply mono_sl | apply mono_mut | apply mono_mut0 | apply mono_cnt1 | apply mono_dget2 | apply mono_dict0 | apply mono_dict1 | apply mono_nil | apply mono_cons | apply mono_tru | apply mono_bl | apply mono_andB | apply mono_orB | apply mono_notB | apply mono_yes | apply mono_it | apply mono_rng1 | apply mono_rng2 | apply mono_rng3 | apply mono_zip2 | apply mono_zip3 | apply mono_enum | apply mono_str | apply mono_rev | apply mono_pn | apply mono_ps | apply m_add | apply m_sub | apply m_mul | apply m_mulR | apply m_fdiv | apply m_mod | apply m_pow | apply m_shl | apply m_and | apply m_xor | apply m_eq | apply m_eqO | apply m_ne | apply m_ord | apply m_in | apply m_is | apply m_ix | apply m_ixD | apply m_inD | apply m_iadd | apply mc_len | apply mc_int | apply mc_abs | apply mc_mm | apply mc_sum | apply mc_aa | apply mc_tuple | apply mc_list | apply mc_srt | apply mc_cnt | apply mc_idx | apply mc_dictP | apply mono_compK | apply mono_compD | apply mono_upd | apply mono_keysF | apply mono_mv | apply mc_mmK | apply mc_min2 | apply mm_append | apply mm_extend | apply mm_pop | apply mm_popAt)
def F__law_draw : FP := wpI 2 5 m__law_draw
theorem mf__law_draw : MonoF F__law_draw := monoF_wpI mo__law_draw
def m__law_any : MS :=
  (sRet (sBin s_ixD (sBor 1) (sCallIX 0 2 F__law_draw (sCons (sCall s_len (sCons (sBor 1) sNil)) sNil))))
theorem mo__law_any : MonoS (m__law_any) := by
  unfold m__law_any
  repeat' (with_reducible first | exact mf__law_draw | apply monoS_skip | apply monoS_seq | apply monoS_expr | apply monoS_ret | apply monoS_retN | apply monoS_brk | apply monoS_cnt | apply monoS_never | apply monoS_ite | apply monoS_asg | apply monoS_asgT | apply monoS_par | apply monoS_par3 | apply monoS_aug | apply monoS_for | apply monoS_while | apply monoS_putIx | apply mono_C | apply mono_var | apply mono_bor | apply mono_tup | apply mono_lst | apply mono_bin | apply mono_chain | apply mono_and | apply mono_or | apply mono_not | apply mono_neg | apply mono_if | apply mono_comp | apply mono_call | apply mono_callP | apply mono_callPX | apply mono_callI | apply mono_callIX | apply monoS_raise0 | apply mono_lam | apply mc_cntL | apply mono_callS | apply mono_slSc | apply mono_isi | apply mono_isi2 | apply mono_lrg1 | apply mono_sl | apply mono_mut | apply mono_mut0 | apply mono_cnt1 | apply mono_dget2 | apply mono_dict0 | apply mono_dict1 | apply mono_nil | apply mono_cons | apply mono_tru | apply mono_bl | apply mono_andB | apply mono_orB | apply mono_notB | apply mono_yes | apply mono_it | apply mono_rng1 | apply mono_rng2 | apply mono_rng3 | apply mono_zip2 | apply mono_zip3 | apply mono_enum | apply mono_str | apply mono_rev | apply mono_pn | apply mono_ps | apply m_add | apply m_sub | apply m_mul | apply m_mulR | apply m_fdiv | apply m_mod | apply m_pow | apply m_shl | apply m_and | apply m_xor | apply m_eq | apply m_eqO | apply m_ne | apply m_ord | apply m_in | apply m_is | apply m_ix | apply m_ixD | apply m_inD | apply m_iadd | apply mc_len | apply mc_int | apply mc_abs | apply mc_mm | apply mc_sum | apply mc_aa | apply mc_tuple | apply mc_list | apply mc_srt | apply mc_cnt | apply mc_idx | apply mc_dictP | apply mono_compK | apply mono_compD | apply mono_upd | apply mono_keysF | apply mono_mv | apply mc_mmK | apply mc_min2 | apply mm_append | apply mm_extend | apply mm_pop | apply mm_popAt)
def F__law_any : FP := wpI 2 2 m__law_any
theorem mf__law_any : MonoF F__law_any := monoF_wpI mo__law_any
def b__law_cases_1 : MS :=
  (sAsg 3 (sBin s_add (sBor 3) (sComp [5] (sRng1 (sVar 0)) (.nm 5) sYes (sTup (sCons (sVar 4) (sCons (sVar 5) sNil))))))
theorem mo_b__law_cases_1 : MonoS (b__law_cases_1) := by
  unfold b__law_cases_1
  repeat' (with_reducible first | apply monoS_skip | apply monoS_seq | apply monoS_expr | apply monoS_ret | apply monoS_retN | apply monoS_brk | apply monoS_cnt | apply monoS_never | apply monoS_ite | apply monoS_asg | apply monoS_asgT | apply monoS_par | apply monoS_par3 | apply monoS_aug | apply monoS_for | apply monoS_while | apply monoS_putIx | apply mono_C | apply mono_var | apply mono_bor | apply mono_tup | apply mono_lst | apply mono_bin | apply mono_chain | apply mono_and | apply mono_or | apply mono_not | apply mono_neg | apply mono_if | apply mono_comp | apply mono_call | apply mono_callP | apply mono_callPX | apply mono_callI | apply mono_callIX | apply monoS_raise0 | apply mono_lam | apply mc_cntL | apply mono_callS | apply mono_slSc | apply mono_isi | apply mono_isi2 | apply mono_lrg1 | apply mono_sl | apply mono_mut | apply mono_mut0 | apply mono_cnt1 | apply mono_dget2 | apply mono_dict0 | apply mono_dict1 | apply mono_nil | apply mono_cons | apply mono_tru | apply mono_bl | apply mono_andB | apply mono_orB | apply mono_notB | apply mono_yes | apply mono_it | apply mono_rng1 | apply mono_rng2 | apply mono_rng3 | apply mono_zip2 | apply mono_zip3 | apply mono_enum | apply mono_str | apply mono_rev | apply mono_pn | apply mono_ps | apply m_add | apply m_sub | apply m_mul | apply m_mulR | apply m_fdiv | apply m_mod | apply m_pow | apply m_shl | apply m_and | apply m_xor | apply m_eq | apply m_eqO | apply m_ne | apply m_ord | apply m_in | apply m_is | apply m_ix | apply m_ixD | apply m_inD | apply m_iadd | apply mc_len | apply mc_int | apply mc_abs | apply mc_mm | apply mc_sum | apply mc_aa | apply mc_tuple | apply mc_list | apply mc_srt | apply mc_cnt | apply mc_idx | apply mc_dictP | apply mono_compK | apply mono_compD | apply mono_upd | apply mono_keysF | apply mono_mv | apply mc_mmK | apply mc_min2 | apply mm_append | apply mm_extend | apply mm_pop | apply mm_popAt)
def m__law_cases : MS :=
  (sSeq (sAsg 2 (sIf (sBl (sBin s_eq (sBor 1) (sC (.str "unknown")))) (sLst (sCons (sC (.str "heavier")) (sCons (sC (.str "lighter")) sNil))) (sLst (sCons (sVar 1) sNil))))
    (sSeq (sAsg 3 (sLst sNil))
    (sSeq (sFor (sIt (sVar 2)) (.nm 4) b__law_cases_1)
    (sRet (sVar 3)))))
theorem mo__law_cases : MonoS (m__law_cases) := by
  unfold m__law_cases
  repeat' (with_reducible first | exact (mo_b__law_cases_1) | apply monoS_skip | apply monoS_seq | apply monoS_expr | apply monoS_ret | apply monoS_retN | apply monoS_brk | apply monoS_cnt | apply monoS_never | apply monoS_ite | apply monoS_asg | apply monoS_asgT | apply monoS_par | apply monoS_par3 | apply monoS_aug | apply monoS_for | apply monoS_while | apply monoS_putIx | apply mono_C | apply mono_var | apply mono_bor | apply mono_tup | apply mono_lst | apply mono_bin | apply mono_chain | apply mono_and | apply mono_or | apply mono_not | apply mono_neg | apply mono_if | apply mono_comp | apply mono_call | apply mono_callP | apply mono_callPX | apply mono_callI | apply mono_callIX | apply monoS_raise0 | apply mono_lam | apply mc_cntL | apply mono_callS | apply mono_slSc | apply mono_isi | apply mono_isi2 | apply mono_lrg1 | apply mono_sl | apply mono_mut | apply mono_mut0 | apply mono_cnt1 | apply mono_dget2 | apply mono_dict0 | apply mono_dict1 | apply mono_nil | apply mono_cons | apply mono_tru | apply mono_bl | apply mono_andB | apply mono_orB | apply mono_notB | apply mono_yes | apply mono_it | apply mono_rng1 | apply mono_rng2 | apply mono_rng3 | apply mono_zip2 | apply mono_zip3 | apply mono_enum | apply mono_str | apply mono_rev | apply mono_pn | apply mono_ps | apply m_add | apply m_sub | apply m_mul | apply m_mulR | apply m_fdiv | apply m_mod | apply m_pow | apply m_shl | apply m_and | apply m_xor | apply m_eq | apply m_eqO | apply m_ne | apply m_ord | apply m_in | apply m_is | apply m_ix | apply m_ixD | apply m_inD | apply m_iadd | apply mc_len | apply mc_int | apply mc_abs | apply mc_mm | apply mc_sum | apply mc_aa | apply mc_tuple | apply mc_list | apply mc_srt | apply mc_cnt | apply mc_idx | apply mc_dictP | apply mono_compK | apply mono_compD | apply mono_upd | apply mono_keysF | apply mono_mv | apply mc_mmK | apply mc_min2 | apply mm_append | apply mm_extend | apply mm_pop | apply mm_popAt)
def F__law_cases : FP := wpF 2 6 m__law_cases
theorem mf__law_cases : MonoF F__law_cases := monoF_wp mo__law_cases
def m__law_result : MS :=
  (sSeq (sAsgT (.tp (.cons (.nm 2) (.cons (.nm 3) .nil))) (sVar 0))
    (sSeq (sIte (sBl (sBin (s_inD true) (sBor 3) (sBin s_add (sBin s_ixD (sBor 1) (sC (.int 0))) (sBin s_ixD (sBor 1) (sC (.int 1)))))) (sRet (sC (.str "even"))) sSkip)
    (sRet (sIf (sBl (sBin s_eq (sBin (s_inD false) (sBor 3) (sBin s_ixD (sBor 1) (sC (.int 0)))) (sBin s_eq (sBor 2) (sC (.str "heavier"))))) (sC (.str "near")) (sC (.str "far"))))))
theorem mo__law_result : MonoS (m__law_result) := by
  unfold m__law_result
  repeat' (with_reducible first | apply monoS_skip | apply monoS_seq | apply monoS_expr | apply monoS_ret | apply monoS_retN | apply monoS_brk | apply monoS_cnt | apply monoS_never | apply monoS_ite | apply monoS_asg | apply monoS_asgT | apply monoS_par | apply monoS_par3 | apply monoS_aug | apply monoS_for | apply monoS_while | apply monoS_putIx | apply mono_C | apply mono_var | apply mono_bor | apply mono_tup | apply mono_lst | apply mono_bin | apply mono_chain | apply mono_and | apply mono_or | apply mono_not | apply mono_neg | apply mono_if | apply mono_comp | apply mono_call | apply mono_callP | apply mono_callPX | apply mono_callI | apply mono_callIX | apply monoS_raise0 | apply mono_lam | apply mc_cntL | apply mono_callS | apply mono_slSc | apply mono_isi | apply mono_isi2 | apply mono_lrg1 | apply mono_sl | apply mono_mut | apply mono_mut0 | apply mono_cnt1 | apply mono_dget2 | apply mono_dict0 | apply mono_dict1 | apply mono_nil | apply mono_cons | apply mono_tru | apply mono_bl | apply mono_andB | apply mono_orB | apply mono_notB | apply mono_yes | apply mono_it | apply mono_rng1 | apply mono_rng2 | apply mono_rng3 | apply mono_zip2 | apply mono_zip3 | apply mono_enum | apply mono_str | apply mono_rev | apply mono_pn | apply mono_ps | apply m_add | apply m_sub | apply m_mul | apply m_mulR | apply m_fdiv | apply m_mod | apply m_pow | apply m_shl | apply m_and | apply m_xor | apply m_eq | apply m_eqO | apply m_ne | apply m_ord | apply m_in | apply m_is | apply m_ix | apply m_ixD | apply m_inD | apply m_iadd | apply mc_len | apply mc_int | apply mc_abs | apply mc_mm | apply mc_sum | apply mc_aa | apply mc_tuple | apply mc_list | apply mc_srt | apply mc_cnt | apply mc_idx | apply mc_dictP | apply mono_compK | apply mono_compD | apply mono_upd | apply mono_keysF | apply mono_mv | apply mc_mmK | apply mc_min2 | apply mm_append | apply mm_extend | apply mm_pop | apply mm_popAt)
def F__law_result : FP := wpF 2 4 m__law_result
theorem mf__law_result : MonoF F__law_result := monoF_wp mo__law_result
def m__law_weighing : MS :=
  (sSeq (sAsg 2 (sLRg1 (sVar 1)))
    (sSeq (sAsg 3 (sBin s_add (sC (.int 1)) (sCallIX 0 2 F__law_draw (sCons (sBin s_fdiv (sBor 1) (sC (.int 2))) sNil))))
    (sSeq (sAsg 4 (sComp [5] (sRng1 (sBin s_mul (sC (.int 2)) (sBor 3))) (.nm 5) sYes (sMut 2 m_popAt (sCons (sCallIX 0 2 F__law_draw (sCons (sCall s_len (sCons (sBor 2) sNil)) sNil)) sNil))))
    (sRet (sTup (sCons (sCall s_tuple (sCons (sCall s_srt (sCons (sSl (sBor 4) sPn (sPs (sVar 3))) sNil)) sNil)) (sCons (sCall s_tuple (sCons (sCall s_srt (sCons (sSl (sBor 4) (sPs (sVar 3)) sPn) sNil)) sNil)) sNil)))))))
theorem mo__law_weighing : MonoS (m__law_weighing) := by
  unfold m__law_weighing
  repeat' (with_reducible first | exact mf__law_draw | apply monoS_skip | apply monoS_seq | apply monoS_expr | apply monoS_ret | apply monoS_retN | apply monoS_brk | apply monoS_cnt | apply monoS_never | apply monoS_ite | apply monoS_asg | apply monoS_asgT | apply monoS_par | apply monoS_par3 | apply monoS_aug | apply monoS_for | apply monoS_while | apply monoS_putIx | apply mono_C | apply mono_var | apply mono_bor | apply mono_tup | apply mono_lst | apply mono_bin | apply mono_chain | apply mono_and | apply mono_or | apply mono_not | apply mono_neg | apply mono_if | apply mono_comp | apply mono_call | apply mono_callP | apply mono_callPX | apply mono_callI | apply mono_callIX | apply monoS_raise0 | apply mono_lam | apply mc_cntL | apply mono_callS | apply mono_slSc | apply mono_isi | apply mono_isi2 | apply mono_lrg1 | apply mono_sl | apply mono_mut | apply mono_mut0 | apply mono_cnt1 | apply mono_dget2 | apply mono_dict0 | apply mono_dict1 | apply mono_nil | apply mono_cons | apply mono_tru | apply mono_bl | apply mono_andB | apply mono_orB | apply mono_notB | apply mono_yes | apply mono_it | apply mono_rng1 | apply mono_rng2 | apply mono_rng3 | apply mono_zip2 | apply mono_zip3 | apply mono_enum | apply mono_str | apply mono_rev | apply mono_pn | apply mono_ps | apply m_add | apply m_sub | apply m_mul | apply m_mulR | apply m_fdiv | apply m_mod | apply m_pow | apply m_shl | apply m_and | apply m_xor | apply m_eq | apply m_eqO | apply m_ne | apply m_ord | apply m_in | apply m_is | apply m_ix | apply m_ixD | apply m_inD | apply m_iadd | apply mc_len | apply mc_int | apply mc_abs | apply mc_mm | apply mc_sum | apply mc_aa | apply mc_tuple | apply mc_list | apply mc_srt | apply mc_cnt | apply mc_idx | apply mc_dictP | apply mono_compK | apply mono_compD | apply mono_upd | apply mono_keysF | apply mono_mv | apply mc_mmK | apply mc_min2 | apply mm_append | apply mm_extend | apply mm_pop | apply mm_popAt)
def F__law_weighing : FP := wpI 2 6 m__law_weighing
theorem mf__law_weighing : MonoF F__law_weighing := monoF_wpI mo__law_weighing
def m__law_no_coins : MS :=
  (sRet (sCallIX 0 2 F__law_any (sCons (sLst (sCons (sC .none) (sCons (sC (.int 2)) (sCons (sC (.int 14)) (sCons (sC (.bool true)) (sCons (sC (.str "3")) sNil)))))) sNil)))
theorem mo__law_no_coins : MonoS (m__law_no_coins) := by
  unfold m__law_no_coins
  repeat' (with_reducible first | exact mf__law_any | apply monoS_skip | apply monoS_seq | apply monoS_expr | apply monoS_ret | apply monoS_retN | apply monoS_brk | apply monoS_cnt | apply monoS_never | apply monoS_ite | apply monoS_asg | apply monoS_asgT | apply monoS_par | apply monoS_par3 | apply monoS_aug | apply monoS_for | apply monoS_while | apply monoS_putIx | apply mono_C | apply mono_var | apply mono_bor | apply mono_tup | apply mono_lst | apply mono_bin | apply mono_chain | apply mono_and | apply mono_or | apply mono_not | apply mono_neg | apply mono_if | apply mono_comp | apply mono_call | apply mono_callP | apply mono_callPX | apply mono_callI | apply mono_callIX | apply monoS_raise0 | apply mono_lam | apply mc_cntL | apply mono_callS | apply mono_slSc | apply mono_isi | apply mono_isi2 | apply mono_lrg1 | apply mono_sl | apply mono_mut | apply mono_mut0 | apply mono_cnt1 | apply mono_dget2 | apply mono_dict0 | apply mono_dict1 | apply mono_nil | apply mono_cons | apply mono_tru | apply mono_bl | apply mono_andB | apply mono_orB | apply mono_notB | apply mono_yes | apply mono_it | apply mono_rng1 | apply mono_rng2 | apply mono_rng3 | apply mono_zip2 | apply mono_zip3 | apply mono_enum | apply mono_str | apply mono_rev | apply mono_pn | apply mono_ps | apply m_add | apply m_sub | apply m_mul | apply m_mulR | apply m_fdiv | apply m_mod | apply m_pow | apply m_shl | apply m_and | apply m_xor | apply m_eq | apply m_eqO | apply m_ne | apply m_ord | apply m_in | apply m_is | apply m_ix | apply m_ixD | apply m_inD | apply m_iadd | apply mc_len | apply mc_int | apply mc_abs | apply mc_mm | apply mc_sum | apply mc_aa | apply mc_tuple | apply mc_list | apply mc_srt | apply mc_cnt | apply mc_idx | apply mc_dictP | apply mono_compK | apply mono_compD | apply mono_upd | apply mono_keysF | apply mono_mv | apply mc_mmK | apply mc_min2 | apply mm_append | apply mm_extend | apply mm_pop | apply mm_popAt)
def F__law_no_coins : FP := wpI 1 1 m__law_no_coins
theorem mf__law_no_coins : MonoF F__law_no_coins := monoF_wpI mo__law_no_coins
def m__law_set : MS :=
  (sRet (sCall s_tuple (sCons (sComp [3] (sRng1 (sBin s_add (sC (.int 1)) (sCallIX 0 2 F__law_draw (sCons (sVar 2) sNil)))) (.nm 3) sYes (sCallIX 0 2 F__law_weighing (sCons (sVar 1) sNil))) sNil)))
theorem mo__law_set : MonoS (m__law_set) := by
  unfold m__law_set
  repeat' (with_reducible first | exact mf__law_draw | exact mf__law_weighing | apply monoS_skip | apply monoS_seq | apply monoS_expr | apply monoS_ret | apply monoS_retN | apply monoS_brk | apply monoS_cnt | apply monoS_never | apply monoS_ite | apply monoS_asg | apply monoS_asgT | apply monoS_par | apply monoS_par3 | apply monoS_aug | apply monoS_for | apply monoS_while | apply monoS_putIx | apply mono_C | apply mono_var | apply mono_bor | apply mono_tup | apply mono_lst | apply mono_bin | apply mono_chain | apply mono_and | apply mono_or | apply mono_not | apply mono_neg | apply mono_if | apply mono_comp | apply mono_call | apply mono_callP | apply mono_callPX | apply mono_callI | apply mono_callIX | apply monoS_raise0 | apply mono_lam | apply mc_cntL | apply mono_callS | apply mono_slSc | apply mono_isi | apply mono_isi2 | apply mono_lrg1 | apply mono_sl | apply mono_mut | apply mono_mut0 | apply mono_cnt1 | apply mono_dget2 | apply mono_dict0 | apply mono_dict1 | apply mono_nil | apply mono_cons | apply mono_tru | apply mono_bl | apply mono_andB | apply mono_orB | apply mono_notB | apply mono_yes | apply mono_it | apply mono_rng1 | apply mono_rng2 | apply mono_rng3 | apply mono_zip2 | apply mono_zip3 | apply mono_enum | apply mono_str | apply mono_rev | apply mono_pn | apply mono_ps | apply m_add | apply m_sub | apply m_mul | apply m_mulR | apply m_fdiv | apply m_mod | apply m_pow | apply m_shl | apply m_and | apply m_xor | apply m_eq | apply m_eqO | apply m_ne | apply m_ord | apply m_in | apply m_is | apply m_ix | apply m_ixD | apply m_inD | apply m_iadd | apply mc_len | apply mc_int | apply mc_abs | apply mc_mm | apply mc_sum | apply mc_aa | apply mc_tuple | apply mc_list | apply mc_srt | apply mc_cnt | apply mc_idx | apply mc_dictP | apply mono_compK | apply mono_compD | apply mono_upd | apply mono_keysF | apply mono_mv | apply mc_mmK | apply mc_min2 | apply mm_append | apply mm_extend | apply mm_pop | apply mm_popAt)
def F__law_set : FP := wpI 3 4 m__law_set
theorem mf__law_set : MonoF F__law_set := monoF_wpI mo__law_set
def m__law_results : MS :=
  (sRet (sCall s_tuple (sCons (sComp [2] (sIt (sVar 0)) (.nm 2) sYes (sCallPX 2 F__law_result (sCons (sVar 1) (sCons (sVar 2) sNil)))) sNil)))
theorem mo__law_results : MonoS (m__law_results) := by
  unfold m__law_results
  repeat' (with_reducible first | exact mf__law_result | apply monoS_skip | apply monoS_seq | apply monoS_expr | apply monoS_ret | apply monoS_retN | apply monoS_brk | apply monoS_cnt | apply monoS_never | apply monoS_ite | apply monoS_asg | apply monoS_asgT | apply monoS_par | apply monoS_par3 | apply monoS_aug | apply monoS_for | apply monoS_while | apply monoS_putIx | apply mono_C | apply mono_var | apply mono_bor | apply mono_tup | apply mono_lst | apply mono_bin | apply mono_chain | apply mono_and | apply mono_or | apply mono_not | apply mono_neg | apply mono_if | apply mono_comp | apply mono_call | apply mono_callP | apply mono_callPX | apply mono_callI | apply mono_callIX | apply monoS_raise0 | apply mono_lam | apply mc_cntL | apply mono_callS | apply mono_slSc | apply mono_isi | apply mono_isi2 | apply mono_lrg1 | apply mono_sl | apply mono_mut | apply mono_mut0 | apply mono_cnt1 | apply mono_dget2 | apply mono_dict0 | apply mono_dict1 | apply mono_nil | apply mono_cons | apply mono_tru | apply mono_bl | apply mono_andB | apply mono_orB | apply mono_notB | apply mono_yes | apply mono_it | apply mono_rng1 | apply mono_rng2 | apply mono_rng3 | apply mono_zip2 | apply mono_zip3 | apply mono_enum | apply mono_str | apply mono_rev | apply mono_pn | apply mono_ps | apply m_add | apply m_sub | apply m_mul | apply m_mulR | apply m_fdiv | apply m_mod | apply m_pow | apply m_shl | apply m_and | apply m_xor | apply m_eq | apply m_eqO | apply m_ne | apply m_ord | apply m_in | apply m_is | apply m_ix | apply m_ixD | apply m_inD | apply m_iadd | apply mc_len | apply mc_int | apply mc_abs | apply mc_mm | apply mc_sum | apply mc_aa | apply mc_tuple | apply mc_list | apply mc_srt | apply mc_cnt | apply mc_idx | apply mc_dictP | apply mono_compK | apply mono_compD | apply mono_upd | apply mono_keysF | apply mono_mv | apply mc_mmK | apply mc_min2 | apply mm_append | apply mm_extend | apply mm_pop | apply mm_popAt)
def F__law_results : FP := wpF 2 3 m__law_results
theorem mf__law_results : MonoF F__law_results := monoF_wp mo__law_results
def m__law_code : MS :=
  (sRet (sCall s_tuple (sCons (sComp [2, 3] (sIt (sVar 0)) (.tp (.cons (.nm 2) (.cons (.nm 3) .nil))) sYes (sBin s_sub (sCall s_int (sCons (sBin (s_inD false) (sBor 1) (sBor 2)) sNil)) (sCall s_int (sCons (sBin (s_inD false) (sBor 1) (sBor 3)) sNil)))) sNil)))
theorem mo__law_code : MonoS (m__law_code) := by
  unfold m__law_code
  repeat' (with_reducible first | apply monoS_skip | apply monoS_seq | apply monoS_expr | apply monoS_ret | apply monoS_retN | apply monoS_brk | apply monoS_cnt | apply monoS_never | apply monoS_ite | apply monoS_asg | apply monoS_asgT | apply monoS_par | apply monoS_par3 | apply monoS_aug | apply monoS_for | apply monoS_while | apply monoS_putIx | apply mono_C | apply mono_var | apply mono_bor | apply mono_tup | apply mono_lst | apply mono_bin | apply mono_chain | apply mono_and | apply mono_or | apply mono_not | apply mono_neg | apply mono_if | apply mono_comp | apply mono_call | apply mono_callP | apply mono_callPX | apply mono_callI | apply mono_callIX | apply monoS_raise0 | apply mono_lam | apply mc_cntL | apply mono_callS | apply mono_slSc | apply mono_isi | apply mono_isi2 | apply mono_lrg1 | apply mono_sl | apply mono_mut | apply mono_mut0 | apply mono_cnt1 | apply mono_dget2 | apply mono_dict0 | apply mono_dict1 | apply mono_nil | apply mono_cons | apply mono_tru | apply mono_bl | apply mono_andB | apply mono_orB | apply mono_notB | apply mono_yes | apply mono_it | apply mono_rng1 | apply mono_rng2 | apply mono_rng3 | apply mono_zip2 | apply mono_zip3 | apply mono_enum | apply mono_str | apply mono_rev | apply mono_pn | apply mono_ps | apply m_add | apply m_sub | apply m_mul | apply m_mulR | apply m_fdiv | apply m_mod | apply m_pow | apply m_shl | apply m_and | apply m_xor | apply m_eq | apply m_eqO | apply m_ne | apply m_ord | apply m_in | apply m_is | apply m_ix | apply m_ixD | apply m_inD | apply m_iadd | apply mc_len | apply mc_int | apply mc_abs | apply mc_mm | apply mc_sum | apply mc_aa | apply mc_tuple | apply mc_list | apply mc_srt | apply mc_cnt | apply mc_idx | apply mc_dictP | apply mono_compK | apply mono_compD | apply mono_upd | apply mono_keysF | apply mono_mv | apply mc_mmK | apply mc_min2 | apply mm_append | apply mm_extend | apply mm_pop | apply mm_popAt)
def F__law_code : FP := wpF 2 4 m__law_code
theorem mf__law_code : MonoF F__law_code := monoF_wp mo__law_code
def m__law_apart : MS :=
  (sRet (sCall s_len (sCons (sComp [2, 3] (sZip2 (sCons (sVar 0) (sCons (sVar 1) sNil))) (.tp (.cons (.nm 2) (.cons (.nm 3) .nil))) (sBl (sBin s_ne (sBor 2) (sBor 3))) (sC (.int 1))) sNil)))
theorem mo__law_apart : MonoS (m__law_apart) := by
  unfold m__law_apart
  repeat' (with_reducible first | apply monoS_skip | apply monoS_seq | apply monoS_expr | apply monoS_ret | apply monoS_retN | apply monoS_brk | apply monoS_cnt | apply monoS_never | apply monoS_ite | apply monoS_asg | apply monoS_asgT | apply monoS_par | apply monoS_par3 | apply monoS_aug | apply monoS_for | apply monoS_while | apply monoS_putIx | apply mono_C | apply mono_var | apply mono_bor | apply mono_tup | apply mono_lst | apply mono_bin | apply mono_chain | apply mono_and | apply mono_or | apply mono_not | apply mono_neg | apply mono_if | apply mono_comp | apply mono_call | apply mono_callP | apply mono_callPX | apply mono_callI | apply mono_callIX | apply monoS_raise0 | apply mono_lam | apply mc_cntL | apply mono_callS | apply mono_slSc | apply mono_isi | apply mono_isi2 | apply mono_lrg1 | apply mono_sl | apply mono_mut | apply mono_mut0 | apply mono_cnt1 | apply mono_dget2 | apply mono_dict0 | apply mono_dict1 | apply mono_nil | apply mono_cons | apply mono_tru | apply mono_bl | apply mono_andB | apply mono_orB | apply mono_notB | apply mono_yes | apply mono_it | apply mono_rng1 | apply mono_rng2 | apply mono_rng3 | apply mono_zip2 | apply mono_zip3 | apply mono_enum | apply mono_str | apply mono_rev | apply mono_pn | apply mono_ps | apply m_add | apply m_sub | apply m_mul | apply m_mulR | apply m_fdiv | apply m_mod | apply m_pow | apply m_shl | apply m_and | apply m_xor | apply m_eq | apply m_eqO | apply m_ne | apply m_ord | apply m_in | apply m_is | apply m_ix | apply m_ixD | apply m_inD | apply m_iadd | apply mc_len | apply mc_int | apply mc_abs | apply mc_mm | apply mc_sum | apply mc_aa | apply mc_tuple | apply mc_list | apply mc_srt | apply mc_cnt | apply mc_idx | apply mc_dictP | apply mono_compK | apply mono_compD | apply mono_upd | apply mono_keysF | apply mono_mv | apply mc_mmK | apply mc_min2 | apply mm_append | apply mm_extend | apply mm_pop | apply mm_popAt)
def F__law_apart : FP := wpF 2 4 m__law_apart
theorem mf__law_apart : MonoF F__law_apart := monoF_wp mo__law_apart
def m__law_no_set : MS :=
  (sSeq (sAsg 1 (sLst (sCons (sC .none) (sCons (sTup sNil) (sCons (sLst (sCons (sTup (sCons (sTup (sCons (sC (.int 0)) sNil)) (sCons (sTup (sCons (sC (.int 1)) sNil)) sNil))) sNil)) (sCons (sBin s_mulR (sTup (sCons (sTup (sCons (sTup (sCons (sC (.int 0)) sNil)) (sCons (sTup (sCons (sC (.int 1)) sNil)) sNil))) sNil)) (sC (.int 5))) (sCons (sTup (sCons (sTup (sCons (sTup (sCons (sC (.int 0)) sNil)) (sCons (sTup (sCons (sC (.int 0)) sNil)) sNil))) sNil)) (sCons (sTup (sCons (sTup (sCons (sTup (sCons (sC (.int 0)) sNil)) sNil)) sNil)) (sCons (sTup (sCons (sTup (sCons (sTup (sCons (sC (.int 0)) sNil)) (sCons (sTup (sCons (sC (.int 99)) sNil)) sNil))) sNil)) (sCons (sC (.int 0)) sNil))))))))))
    (sSeq (sExpr (sMut 1 m_append (sCons (sTup (sCons (sTup (sCons (sTup (sCons (sC (.int 0)) (sCons (sC (.int 1)) sNil))) (sCons (sTup (sCons (sC (.int 2)) sNil)) sNil))) sNil)) sNil)))
    (sRet (sCallIX 0 2 F__law_any (sCons (sVar 1) sNil)))))
theorem mo__law_no_set : MonoS (m__law_no_set) := by
  unfold m__law_no_set
  repeat' (with_reducible first | exact mf__law_any | apply monoS_skip | apply monoS_seq | apply monoS_expr | apply monoS_ret | apply monoS_retN | apply monoS_brk | apply monoS_cnt | apply monoS_never | apply monoS_ite | apply monoS_asg | apply monoS_asgT | apply monoS_par | apply monoS_par3 | apply monoS_aug | apply monoS_for | apply monoS_while | apply monoS_putIx | apply mono_C | apply mono_var | apply mono_bor | apply mono_tup | apply mono_lst | apply mono_bin | apply mono_chain | apply mono_and | apply mono_or | apply mono_not | apply mono_neg | apply mono_if | apply mono_comp | apply mono_call | apply mono_callP | apply mono_callPX | apply mono_callI | apply mono_callIX | apply monoS_raise0 | apply mono_lam | apply mc_cntL | apply mono_callS | apply mono_slSc | apply mono_isi | apply mono_isi2 | apply mono_lrg1 | apply mono_sl | apply mono_mut | apply mono_mut0 | apply mono_cnt1 | apply mono_dget2 | apply mono_dict0 | apply mono_dict1 | apply mono_nil | apply mono_cons | apply mono_tru | apply mono_bl | apply mono_andB | apply mono_orB | apply mono_notB | apply mono_yes | apply mono_it | apply mono_rng1 | apply mono_rng2 | apply mono_rng3 | apply mono_zip2 | apply mono_zip3 | apply mono_enum | apply mono_str | apply mono_rev | apply mono_pn | apply mono_ps | apply m_add | apply m_sub | apply m_mul | apply m_mulR | apply m_fdiv | apply m_mod | apply m_pow | apply m_shl | apply m_and | apply m_xor | apply m_eq | apply m_eqO | apply m_ne | apply m_ord | apply m_in | apply m_is | apply m_ix | apply m_ixD | apply m_inD | apply m_iadd | apply mc_len | apply mc_int | apply mc_abs | apply mc_mm | apply mc_sum | apply mc_aa | apply mc_tuple | apply mc_list | apply mc_srt | apply mc_cnt | apply mc_idx | apply mc_dictP | apply mono_compK | apply mono_compD | apply mono_upd | apply mono_keysF | apply mono_mv | apply mc_mmK | apply mc_min2 | apply mm_append | apply mm_extend | apply mm_pop | apply mm_popAt)
def F__law_no_set : FP := wpI 1 2 m__law_no_set
theorem mf__law_no_set : MonoF F__law_no_set := monoF_wpI mo__law_no_set
def lm_law_1 : ME :=
  (sCallPX 3 F_results_of (sCons (sVar 9) (sCons (sVar 10) (sCons (sVar 11) sNil))))
theorem mo_lm_law_1 : Mono lm_law_1 := by
  unfold lm_law_1
  repeat' (with_reducible first | exact mf__law_hand | exact mf__law_draw | exact mf__law_set | exact mf__law_any | exact mf__law_cases | exact mf__law_results | exact mf_results_of | exact mf_code_of | exact mf__law_code | exact mf_apart_by | exact mf__law_apart | exact mf__law_no_coins | exact mf__law_no_set | apply monoS_skip | apply monoS_seq | apply monoS_expr | apply monoS_ret | apply monoS_retN | apply monoS_brk | apply monoS_cnt | apply monoS_never | apply monoS_ite | apply monoS_asg | apply monoS_asgT | apply monoS_par | apply monoS_par3 | apply monoS_aug | apply monoS_for | apply monoS_while | apply monoS_putIx | apply mono_C | apply mono_var | apply mono_bor | apply mono_tup | apply mono_lst | apply mono_bin | apply mono_chain | apply mono_and | apply mono_or | apply mono_not | apply mono_neg | apply mono_if | apply mono_comp | apply mono_call | apply mono_callP | apply mono_callPX | apply mono_callI | apply mono_callIX | apply monoS_raise0 | apply mono_lam | apply mc_cntL | apply mono_callS | apply mono_slSc | apply mono_isi | apply mono_isi2 | apply mono_lrg1 | apply mono_sl | apply mono_mut | apply mono_mut0 | apply mono_cnt1 | apply mono_dget2 | apply mono_dict0 | apply mono_dict1 | apply mono_nil | apply mono_cons | apply mono_tru | apply mono_bl | apply mono_andB | apply mono_orB | apply mono_notB | apply mono_yes | apply mono_it | apply mono_rng1 | apply mono_rng2 | apply mono_rng3 | apply mono_zip2 | apply mono_zip3 | apply mono_enum | apply mono_str | apply mono_rev | apply mono_pn | apply mono_ps | apply m_add | apply m_sub | apply m_mul | apply m_mulR | apply m_fdiv | apply m_mod | apply m_pow | apply m_shl | apply m_and | apply m_xor | apply m_eq | apply m_eqO | apply m_ne | apply m_ord | apply m_in | apply m_is | apply m_ix | apply m_ixD | apply m_inD | apply m_iadd | apply mc_len | apply mc_int | apply mc_abs | apply mc_mm | apply mc_sum | apply mc_aa | apply mc_tuple | apply mc_list | apply mc_srt | apply mc_cnt | apply mc_idx | apply mc_dictP | apply mono_compK | apply mono_compD | apply mono_upd | apply mono_keysF | apply mono_mv | apply mc_mmK | apply mc_min2 | apply mm_append | apply mm_extend | apply mm_pop | apply mm_popAt)
def lm_law_2 : ME :=
  (sCallPX 3 F_results_of (sCons (sVar 3) (sCons (sVar 10) (sCons (sVar 11) sNil))))
theorem mo_lm_law_2 : Mono lm_law_2 := by
  unfold lm_law_2
  repeat' (with_reducible first | exact mf__law_hand | exact mf__law_draw | exact mf__law_set | exact mf__law_any | exact mf__law_cases | exact mf__law_results | exact mf_results_of | exact mf_code_of | exact mf__law_code | exact mf_apart_by | exact mf__law_apart | exact mf__law_no_coins | exact mf__law_no_set | apply monoS_skip | apply monoS_seq | apply monoS_expr | apply monoS_ret | apply monoS_retN | apply monoS_brk | apply monoS_cnt | apply monoS_never | apply monoS_ite | apply monoS_asg | apply monoS_asgT | apply monoS_par | apply monoS_par3 | apply monoS_aug | apply monoS_for | apply monoS_while | apply monoS_putIx | apply mono_C | apply mono_var | apply mono_bor | apply mono_tup | apply mono_lst | apply mono_bin | apply mono_chain | apply mono_and | apply mono_or | apply mono_not | apply mono_neg | apply mono_if | apply mono_comp | apply mono_call | apply mono_callP | apply mono_callPX | apply mono_callI | apply mono_callIX | apply monoS_raise0 | apply mono_lam | apply mc_cntL | apply mono_callS | apply mono_slSc | apply mono_isi | apply mono_isi2 | apply mono_lrg1 | apply mono_sl | apply mono_mut | apply mono_mut0 | apply mono_cnt1 | apply mono_dget2 | apply mono_dict0 | apply mono_dict1 | apply mono_nil | apply mono_cons | apply mono_tru | apply mono_bl | apply mono_andB | apply mono_orB | apply mono_notB | apply mono_yes | apply mono_it | apply mono_rng1 | apply mono_rng2 | apply mono_rng3 | apply mono_zip2 | apply mono_zip3 | apply mono_enum | apply mono_str | apply mono_rev | apply mono_pn | apply mono_ps | apply m_add | apply m_sub | apply m_mul | apply m_mulR | apply m_fdiv | apply m_mod | apply m_pow | apply m_shl | apply m_and | apply m_xor | apply m_eq | apply m_eqO | apply m_ne | apply m_ord | apply m_in | apply m_is | apply m_ix | apply m_ixD | apply m_inD | apply m_iadd | apply mc_len | apply mc_int | apply mc_abs | apply mc_mm | apply mc_sum | apply mc_aa | apply mc_tuple | apply mc_list | apply mc_srt | apply mc_cnt | apply mc_idx | apply mc_dictP | apply mono_compK | apply mono_compD | apply mono_upd | apply mono_keysF | apply mono_mv | apply mc_mmK | apply mc_min2 | apply mm_append | apply mm_extend | apply mm_pop | apply mm_popAt)
def lm_law_3 : ME :=
  (sCallPX 3 F_results_of (sCons (sVar 3) (sCons (sVar 4) (sCons (sVar 11) sNil))))
theorem mo_lm_law_3 : Mono lm_law_3 := by
  unfold lm_law_3
  repeat' (with_reducible first | exact mf__law_hand | exact mf__law_draw | exact mf__law_set | exact mf__law_any | exact mf__law_cases | exact mf__law_results | exact mf_results_of | exact mf_code_of | exact mf__law_code | exact mf_apart_by | exact mf__law_apart | exact mf__law_no_coins | exact mf__law_no_set | apply monoS_skip | apply monoS_seq | apply monoS_expr | apply monoS_ret | apply monoS_retN | apply monoS_brk | apply monoS_cnt | apply monoS_never | apply monoS_ite | apply monoS_asg | apply monoS_asgT | apply monoS_par | apply monoS_par3 | apply monoS_aug | apply monoS_for | apply monoS_while | apply monoS_putIx | apply mono_C | apply mono_var | apply mono_bor | apply mono_tup | apply mono_lst | apply mono_bin | apply mono_chain | apply mono_and | apply mono_or | apply mono_not | apply mono_neg | apply mono_if | apply mono_comp | apply mono_call | apply mono_callP | apply mono_callPX | apply mono_callI | apply mono_callIX | apply monoS_raise0 | apply mono_lam | apply mc_cntL | apply mono_callS | apply mono_slSc | apply mono_isi | apply mono_isi2 | apply mono_lrg1 | apply mono_sl | apply mono_mut | apply mono_mut0 | apply mono_cnt1 | apply mono_dget2 | apply mono_dict0 | apply mono_dict1 | apply mono_nil | apply mono_cons | apply mono_tru | apply mono_bl | apply mono_andB | apply mono_orB | apply mono_notB | apply mono_yes | apply mono_it | apply mono_rng1 | apply mono_rng2 | apply mono_rng3 | apply mono_zip2 | apply mono_zip3 | apply mono_enum | apply mono_str | apply mono_rev | apply mono_pn | apply mono_ps | apply m_add | apply m_sub | apply m_mul | apply m_mulR | apply m_fdiv | apply m_mod | apply m_pow | apply m_shl | apply m_and | apply m_xor | apply m_eq | apply m_eqO | apply m_ne | apply m_ord | apply m_in | apply m_is | apply m_ix | apply m_ixD | apply m_inD | apply m_iadd | apply mc_len | apply mc_int | apply mc_abs | apply mc_mm | apply mc_sum | apply mc_aa | apply mc_tuple | apply mc_list | apply mc_srt | apply mc_cnt | apply mc_idx | apply mc_dictP | apply mono_compK | apply mono_compD | apply mono_upd | apply mono_keysF | apply mono_mv | apply mc_mmK | apply mc_min2 | apply mm_append | apply mm_extend | apply mm_pop | apply mm_popAt)
def lm_law_4 : ME :=
  (sCallPX 3 F_code_of (sCons (sVar 9) (sCons (sVar 10) (sCons (sVar 12) sNil))))
theorem mo_lm_law_4 : Mono lm_law_4 := by
  unfold lm_law_4
  repeat' (with_reducible first | exact mf__law_hand | exact mf__law_draw | exact mf__law_set | exact mf__law_any | exact mf__law_cases | exact mf__law_results | exact mf_results_of | exact mf_code_of | exact mf__law_code | exact mf_apart_by | exact mf__law_apart | exact mf__law_no_coins | exact mf__law_no_set | apply monoS_skip | apply monoS_seq | apply monoS_expr | apply monoS_ret | apply monoS_retN | apply monoS_brk | apply monoS_cnt | apply monoS_never | apply monoS_ite | apply monoS_asg | apply monoS_asgT | apply monoS_par | apply monoS_par3 | apply monoS_aug | apply monoS_for | apply monoS_while | apply monoS_putIx | apply mono_C | apply mono_var | apply mono_bor | apply mono_tup | apply mono_lst | apply mono_bin | apply mono_chain | apply mono_and | apply mono_or | apply mono_not | apply mono_neg | apply mono_if | apply mono_comp | apply mono_call | apply mono_callP | apply mono_callPX | apply mono_callI | apply mono_callIX | apply monoS_raise0 | apply mono_lam | apply mc_cntL | apply mono_callS | apply mono_slSc | apply mono_isi | apply mono_isi2 | apply mono_lrg1 | apply mono_sl | apply mono_mut | apply mono_mut0 | apply mono_cnt1 | apply mono_dget2 | apply mono_dict0 | apply mono_dict1 | apply mono_nil | apply mono_cons | apply mono_tru | apply mono_bl | apply mono_andB | apply mono_orB | apply mono_notB | apply mono_yes | apply mono_it | apply mono_rng1 | apply mono_rng2 | apply mono_rng3 | apply mono_zip2 | apply mono_zip3 | apply mono_enum | apply mono_str | apply mono_rev | apply mono_pn | apply mono_ps | apply m_add | apply m_sub | apply m_mul | apply m_mulR | apply m_fdiv | apply m_mod | apply m_pow | apply m_shl | apply m_and | apply m_xor | apply m_eq | apply m_eqO | apply m_ne | apply m_ord | apply m_in | apply m_is | apply m_ix | apply m_ixD | apply m_inD | apply m_iadd | apply mc_len | apply mc_int | apply mc_abs | apply mc_mm | apply mc_sum | apply mc_aa | apply mc_tuple | apply mc_list | apply mc_srt | apply mc_cnt | apply mc_idx | apply mc_dictP | apply mono_compK | apply mono_compD | apply mono_upd | apply mono_keysF | apply mono_mv | apply mc_mmK | apply mc_min2 | apply mm_append | apply mm_extend | apply mm_pop | apply mm_popAt)
def lm_law_5 : ME :=
  (sCallPX 3 F_code_of (sCons (sVar 3) (sCons (sVar 10) (sCons (sVar 12) sNil))))
theorem mo_lm_law_5 : Mono lm_law_5 := by
  unfold lm_law_5
  repeat' (with_reducible first | exact mf__law_hand | exact mf__law_draw | exact mf__law_set | exact mf__law_any | exact mf__law_cases | exact mf__law_results | exact mf_results_of | exact mf_code_of | exact mf__law_code | exact mf_apart_by | exact mf__law_apart | exact mf__law_no_coins | exact mf__law_no_set | apply monoS_skip | apply monoS_seq | apply monoS_expr | apply monoS_ret | apply monoS_retN | apply monoS_brk | apply monoS_cnt | apply monoS_never | apply monoS_ite | apply monoS_asg | apply monoS_asgT | apply monoS_par | apply monoS_par3 | apply monoS_aug | apply monoS_for | apply monoS_while | apply monoS_putIx | apply mono_C | apply mono_var | apply mono_bor | apply mono_tup | apply mono_lst | apply mono_bin | apply mono_chain | apply mono_and | apply mono_or | apply mono_not | apply mono_neg | apply mono_if | apply mono_comp | apply mono_call | apply mono_callP | apply mono_callPX | apply mono_callI | apply mono_callIX | apply monoS_raise0 | apply mono_lam | apply mc_cntL | apply mono_callS | apply mono_slSc | apply mono_isi | apply mono_isi2 | apply mono_lrg1 | apply mono_sl | apply mono_mut | apply mono_mut0 | apply mono_cnt1 | apply mono_dget2 | apply mono_dict0 | apply mono_dict1 | apply mono_nil | apply mono_cons | apply mono_tru | apply mono_bl | apply mono_andB | apply mono_orB | apply mono_notB | apply mono_yes | apply mono_it | apply mono_rng1 | apply mono_rng2 | apply mono_rng3 | apply mono_zip2 | apply mono_zip3 | apply mono_enum | apply mono_str | apply mono_rev | apply mono_pn | apply mono_ps | apply m_add | apply m_sub | apply m_mul | apply m_mulR | apply m_fdiv | apply m_mod | apply m_pow | apply m_shl | apply m_and | apply m_xor | apply m_eq | apply m_eqO | apply m_ne | apply m_ord | apply m_in | apply m_is | apply m_ix | apply m_ixD | apply m_inD | apply m_iadd | apply mc_len | apply mc_int | apply mc_abs | apply mc_mm | apply mc_sum | apply mc_aa | apply mc_tuple | apply mc_list | apply mc_srt | apply mc_cnt | apply mc_idx | apply mc_dictP | apply mono_compK | apply mono_compD | apply mono_upd | apply mono_keysF | apply mono_mv | apply mc_mmK | apply mc_min2 | apply mm_append | apply mm_extend | apply mm_pop | apply mm_popAt)
def lm_law_6 : ME :=
  (sCallPX 3 F_code_of (sCons (sVar 3) (sCons (sVar 4) (sCons (sVar 12) sNil))))
theorem mo_lm_law_6 : Mono lm_law_6 := by
  unfold lm_law_6
  repeat' (with_reducible first | exact mf__law_hand | exact mf__law_draw | exact mf__law_set | exact mf__law_any | exact mf__law_cases | exact mf__law_results | exact mf_results_of | exact mf_code_of | exact mf__law_code | exact mf_apart_by | exact mf__law_apart | exact mf__law_no_coins | exact mf__law_no_set | apply monoS_skip | apply monoS_seq | apply monoS_expr | apply monoS_ret | apply monoS_retN | apply monoS_brk | apply monoS_cnt | apply monoS_never | apply monoS_ite | apply monoS_asg | apply monoS_asgT | apply monoS_par | apply monoS_par3 | apply monoS_aug | apply monoS_for | apply monoS_while | apply monoS_putIx | apply mono_C | apply mono_var | apply mono_bor | apply mono_tup | apply mono_lst | apply mono_bin | apply mono_chain | apply mono_and | apply mono_or | apply mono_not | apply mono_neg | apply mono_if | apply mono_comp | apply mono_call | apply mono_callP | apply mono_callPX | apply mono_callI | apply mono_callIX | apply monoS_raise0 | apply mono_lam | apply mc_cntL | apply mono_callS | apply mono_slSc | apply mono_isi | apply mono_isi2 | apply mono_lrg1 | apply mono_sl | apply mono_mut | apply mono_mut0 | apply mono_cnt1 | apply mono_dget2 | apply mono_dict0 | apply mono_dict1 | apply mono_nil | apply mono_cons | apply mono_tru | apply mono_bl | apply mono_andB | apply mono_orB | apply mono_notB | apply mono_yes | apply mono_it | apply mono_rng1 | apply mono_rng2 | apply mono_rng3 | apply mono_zip2 | apply mono_zip3 | apply mono_enum | apply mono_str | apply mono_rev | apply mono_pn | apply mono_ps | apply m_add | apply m_sub | apply m_mul | apply m_mulR | apply m_fdiv | apply m_mod | apply m_pow | apply m_shl | apply m_and | apply m_xor | apply m_eq | apply m_eqO | apply m_ne | apply m_ord | apply m_in | apply m_is | apply m_ix | apply m_ixD | apply m_inD | apply m_iadd | apply mc_len | apply mc_int | apply mc_abs | apply mc_mm | apply mc_sum | apply mc_aa | apply mc_tuple | apply mc_list | apply mc_srt | apply mc_cnt | apply mc_idx | apply mc_dictP | apply mono_compK | apply mono_compD | apply mono_upd | apply mono_keysF | apply mono_mv | apply mc_mmK | apply mc_min2 | apply mm_append | apply mm_extend | apply mm_pop | apply mm_popAt)
def lm_law_7 : ME :=
  (sCallPX 4 F_apart_by (sCons (sVar 3) (sCons (sVar 10) (sCons (sVar 11) (sCons (sVar 11) sNil)))))
theorem mo_lm_law_7 : Mono lm_law_7 := by
  unfold lm_law_7
  repeat' (with_reducible first | exact mf__law_hand | exact mf__law_draw | exact mf__law_set | exact mf__law_any | exact mf__law_cases | exact mf__law_results | exact mf_results_of | exact mf_code_of | exact mf__law_code | exact mf_apart_by | exact mf__law_apart | exact mf__law_no_coins | exact mf__law_no_set | apply monoS_skip | apply monoS_seq | apply monoS_expr | apply monoS_ret | apply monoS_retN | apply monoS_brk | apply monoS_cnt | apply monoS_never | apply monoS_ite | apply monoS_asg | apply monoS_asgT | apply monoS_par | apply monoS_par3 | apply monoS_aug | apply monoS_for | apply monoS_while | apply monoS_putIx | apply mono_C | apply mono_var | apply mono_bor | apply mono_tup | apply mono_lst | apply mono_bin | apply mono_chain | apply mono_and | apply mono_or | apply mono_not | apply mono_neg | apply mono_if | apply mono_comp | apply mono_call | apply mono_callP | apply mono_callPX | apply mono_callI | apply mono_callIX | apply monoS_raise0 | apply mono_lam | apply mc_cntL | apply mono_callS | apply mono_slSc | apply mono_isi | apply mono_isi2 | apply mono_lrg1 | apply mono_sl | apply mono_mut | apply mono_mut0 | apply mono_cnt1 | apply mono_dget2 | apply mono_dict0 | apply mono_dict1 | apply mono_nil | apply mono_cons | apply mono_tru | apply mono_bl | apply mono_andB | apply mono_orB | apply mono_notB | apply mono_yes | apply mono_it | apply mono_rng1 | apply mono_rng2 | apply mono_rng3 | apply mono_zip2 | apply mono_zip3 | apply mono_enum | apply mono_str | apply mono_rev | apply mono_pn | apply mono_ps | apply m_add | apply m_sub | apply m_mul | apply m_mulR | apply m_fdiv | apply m_mod | apply m_pow | apply m_shl | apply m_and | apply m_xor | apply m_eq | apply m_eqO | apply m_ne | apply m_ord | apply m_in | apply m_is | apply m_ix | apply m_ixD | apply m_inD | apply m_iadd | apply mc_len | apply mc_int | apply mc_abs | apply mc_mm | apply mc_sum | apply mc_aa | apply mc_tuple | apply mc_list | apply mc_srt | apply mc_cnt | apply mc_idx | apply mc_dictP | apply mono_compK | apply mono_compD | apply mono_upd | apply mono_keysF | apply mono_mv | apply mc_mmK | apply mc_min2 | apply mm_append | apply mm_extend | apply mm_pop | apply mm_popAt)
def lm_law_8 : ME :=
  (sCallPX 4 F_apart_by (sCons (sVar 3) (sCons (sVar 4) (sCons (sVar 11) (sCons (sVar 6) sNil)))))
theorem mo_lm_law_8 : Mono lm_law_8 := by
  unfold lm_law_8
  repeat' (with_reducible first | exact mf__law_hand | exact mf__law_draw | exact mf__law_set | exact mf__law_any | exact mf__law_cases | exact mf__law_results | exact mf_results_of | exact mf_code_of | exact mf__law_code | exact mf_apart_by | exact mf__law_apart | exact mf__law_no_coins | exact mf__law_no_set | apply monoS_skip | apply monoS_seq | apply monoS_expr | apply monoS_ret | apply monoS_retN | apply monoS_brk | apply monoS_cnt | apply monoS_never | apply monoS_ite | apply monoS_asg | apply monoS_asgT | apply monoS_par | apply monoS_par3 | apply monoS_aug | apply monoS_for | apply monoS_while | apply monoS_putIx | apply mono_C | apply mono_var | apply mono_bor | apply mono_tup | apply mono_lst | apply mono_bin | apply mono_chain | apply mono_and | apply mono_or | apply mono_not | apply mono_neg | apply mono_if | apply mono_comp | apply mono_call | apply mono_callP | apply mono_callPX | apply mono_callI | apply mono_callIX | apply monoS_raise0 | apply mono_lam | apply mc_cntL | apply mono_callS | apply mono_slSc | apply mono_isi | apply mono_isi2 | apply mono_lrg1 | apply mono_sl | apply mono_mut | apply mono_mut0 | apply mono_cnt1 | apply mono_dget2 | apply mono_dict0 | apply mono_dict1 | apply mono_nil | apply mono_cons | apply mono_tru | apply mono_bl | apply mono_andB | apply mono_orB | apply mono_notB | apply mono_yes | apply mono_it | apply mono_rng1 | apply mono_rng2 | apply mono_rng3 | apply mono_zip2 | apply mono_zip3 | apply mono_enum | apply mono_str | apply mono_rev | apply mono_pn | apply mono_ps | apply m_add | apply m_sub | apply m_mul | apply m_mulR | apply m_fdiv | apply m_mod | apply m_pow | apply m_shl | apply m_and | apply m_xor | apply m_eq | apply m_eqO | apply m_ne | apply m_ord | apply m_in | apply m_is | apply m_ix | apply m_ixD | apply m_inD | apply m_iadd | apply mc_len | apply mc_int | apply mc_abs | apply mc_mm | apply mc_sum | apply mc_aa | apply mc_tuple | apply mc_list | apply mc_srt | apply mc_cnt | apply mc_idx | apply mc_dictP | apply mono_compK | apply mono_compD | apply mono_upd | apply mono_keysF | apply mono_mv | apply mc_mmK | apply mc_min2 | apply mm_append | apply mm_extend | apply mm_pop | apply mm_popAt)
def lm_law_9 : ME :=
  (sCallPX 4 F_apart_by (sCons (sVar 3) (sCons (sVar 4) (sCons (sVar 5) (sCons (sVar 11) sNil)))))
theorem mo_lm_law_9 : Mono lm_law_9 := by
  unfold lm_law_9
  repeat' (with_reducible first | exact mf__law_hand | exact mf__law_draw | exact mf__law_set | exact mf__law_any | exact mf__law_cases | exact mf__law_results | exact mf_results_of | exact mf_code_of | exact mf__law_code | exact mf_apart_by | exact mf__law_apart | exact mf__law_no_coins | exact mf__law_no_set | apply monoS_skip | apply monoS_seq | apply monoS_expr | apply monoS_ret | apply monoS_retN | apply monoS_brk | apply monoS_cnt | apply monoS_never | apply monoS_ite | apply monoS_asg | apply monoS_asgT | apply monoS_par | apply monoS_par3 | apply monoS_aug | apply monoS_for | apply monoS_while | apply monoS_putIx | apply mono_C | apply mono_var | apply mono_bor | apply mono_tup | apply mono_lst | apply mono_bin | apply mono_chain | apply mono_and | apply mono_or | apply mono_not | apply mono_neg | apply mono_if | apply mono_comp | apply mono_call | apply mono_callP | apply mono_callPX | apply mono_callI | apply mono_callIX | apply monoS_raise0 | apply mono_lam | apply mc_cntL | apply mono_callS | apply mono_slSc | apply mono_isi | apply mono_isi2 | apply mono_lrg1 | apply mono_sl | apply mono_mut | apply mono_mut0 | apply mono_cnt1 | apply mono_dget2 | apply mono_dict0 | apply mono_dict1 | apply mono_nil | apply mono_cons | apply mono_tru | apply mono_bl | apply mono_andB | apply mono_orB | apply mono_notB | apply mono_yes | apply mono_it | apply mono_rng1 | apply mono_rng2 | apply mono_rng3 | apply mono_zip2 | apply mono_zip3 | apply mono_enum | apply mono_str | apply mono_rev | apply mono_pn | apply mono_ps | apply m_add | apply m_sub | apply m_mul | apply m_mulR | apply m_fdiv | apply m_mod | apply m_pow | apply m_shl | apply m_and | apply m_xor | apply m_eq | apply m_eqO | apply m_ne | apply m_ord | apply m_in | apply m_is | apply m_ix | apply m_ixD | apply m_inD | apply m_iadd | apply mc_len | apply mc_int | apply mc_abs | apply mc_mm | apply mc_sum | apply mc_aa | apply mc_tuple | apply mc_list | apply mc_srt | apply mc_cnt | apply mc_idx | apply mc_dictP | apply mono_compK | apply mono_compD | apply mono_upd | apply mono_keysF | apply mono_mv | apply mc_mmK | apply mc_min2 | apply mm_append | apply mm_extend | apply mm_pop | apply mm_popAt)
def b_law_1 : MS :=
  (sSeq (sAsg 3 (sBin s_add (sC (.int 3)) (sCallIX 1 2 F__law_draw (sCons (sC (.int 11)) sNil))))
    (sSeq (sAsg 4 (sCallIX 1 3 F__law_set (sCons (sVar 3) (sCons (sC (.int 4)) sNil))))
    (sSeq (sAsgT (.tp (.cons (.nm 5) (.cons (.nm 6) .nil))) (sTup (sCons (sCallIX 1 2 F__law_any (sCons (sCallPX 2 F__law_cases (sCons (sVar 3) (sCons (sC (.str "unknown")) sNil))) sNil)) (sCons (sCallIX 1 2 F__law_any (sCons (sCallPX 2 F__law_cases (sCons (sVar 3) (sCons (sC (.str "unknown")) sNil))) sNil)) sNil))))
    (sSeq (sAsg 7 (sCallPX 2 F__law_results (sCons (sVar 4) (sCons (sVar 5) sNil))))
    (sSeq (sIte (sOrB (sBl (sBin s_ne (sCallPX 3 F_results_of (sCons (sVar 3) (sCons (sVar 4) (sCons (sVar 5) sNil)))) (sBor 7))) (sBl (sBin s_ne (sCallPX 3 F_code_of (sCons (sVar 3) (sCons (sVar 4) (sCons (sBin s_ixD (sBor 5) (sC (.int 1))) sNil)))) (sCallPX 2 F__law_code (sCons (sVar 4) (sCons (sBin s_ixD (sBor 5) (sC (.int 1))) sNil)))))) (sRet (sC (.bool false))) sSkip)
    (sSeq (sAsg 8 (sTup (sCons (sIf (sBl (sBin s_eq (sBin s_ixD (sBor 5) (sC (.int 0))) (sC (.str "heavier")))) (sC (.str "lighter")) (sC (.str "heavier"))) (sCons (sBin s_ixD (sBor 5) (sC (.int 1))) sNil))))
    (sSeq (sIte (sBl (sBin s_ne (sCallPX 3 F_results_of (sCons (sVar 3) (sCons (sCall s_tuple (sCons (sComp [14] (sIt (sVar 4)) (.nm 14) sYes (sRev (sBor 14))) sNil)) (sCons (sVar 8) sNil)))) (sBor 7))) (sRet (sC (.bool false))) sSkip)
    (sSeq (sIte (sBl (sBin s_ne (sCallPX 4 F_apart_by (sCons (sVar 3) (sCons (sVar 4) (sCons (sVar 5) (sCons (sVar 6) sNil))))) (sCallPX 2 F__law_apart (sCons (sVar 7) (sCons (sCallPX 2 F__law_results (sCons (sVar 4) (sCons (sVar 6) sNil))) sNil))))) (sRet (sC (.bool false))) sSkip)
    (sSeq (sAsgT (.tp (.cons (.nm 9) (.cons (.nm 10) .nil))) (sTup (sCons (sCallIX 1 1 F__law_no_coins sNil) (sCons (sCallIX 1 1 F__law_no_set sNil) sNil))))
    (sSeq (sAsg 11 (sCallIX 1 2 F__law_any (sCons (sLst (sCons (sC .none) (sCons (sTup sNil) (sCons (sTup (sCons (sC (.str "heavier")) sNil)) (sCons (sTup (sCons (sC (.str "heavier")) (sCons (sVar 3) sNil))) (sCons (sTup (sCons (sC (.str "even")) (sCons (sC (.int 0)) sNil))) (sCons (sLst (sCons (sC (.str "heavier")) (sCons (sC (.int 0)) sNil))) sNil))))))) sNil)))
    (sSeq (sAsg 12 (sCallIX 1 2 F__law_any (sCons (sLst (sCons (sC .none) (sCons (sNeg (sC (.int 1))) (sCons (sVar 3) (sCons (sC (.bool true)) (sCons (sC (.str "0")) sNil)))))) sNil)))
    (sSeq (sAsg 13 (sLst (sCons (sLam "let" (wfL wl__law_word) lm_law_1) sNil)))
    (sSeq (sExpr (sMut 13 m_append (sCons (sLam "let" (wfL wl__law_word) lm_law_2) sNil)))
    (sSeq (sExpr (sMut 13 m_append (sCons (sLam "let" (wfL wl__law_word) lm_law_3) sNil)))
    (sSeq (sExpr (sMut 13 m_append (sCons (sLam "let" (wfL wl__law_word) lm_law_4) sNil)))
    (sSeq (sExpr (sMut 13 m_append (sCons (sLam "let" (wfL wl__law_word) lm_law_5) sNil)))
    (sSeq (sExpr (sMut 13 m_append (sCons (sLam "let" (wfL wl__law_word) lm_law_6) sNil)))
    (sSeq (sExpr (sMut 13 m_append (sCons (sLam "let" (wfL wl__law_word) lm_law_7) sNil)))
    (sSeq (sExpr (sMut 13 m_append (sCons (sLam "let" (wfL wl__law_word) lm_law_8) sNil)))
    (sSeq (sExpr (sMut 13 m_append (sCons (sLam "let" (wfL wl__law_word) lm_law_9) sNil)))
    (sIte (sBl (sBin s_ne (sBor 13) (sLst (sCons (sC (.str "coins")) (sCons (sC (.str "set")) (sCons (sC (.str "case")) (sCons (sC (.str "coins")) (sCons (sC (.str "set")) (sCons (sC (.str "coin")) (sCons (sC (.str "set")) (sCons (sC (.str "case")) (sCons (sC (.str "case")) sNil)))))))))))) (sRet (sC (.bool false))) sSkip)))))))))))))))))))))
theorem mo_b_law_1 : MonoS (b_law_1) := by
  unfold b_law_1
  repeat' (with_reducible first | exact mo_lm_law_1 | exact mo_lm_law_2 | exact mo_lm_law_3 | exact mo_lm_law_4 | exact mo_lm_law_5 | exact mo_lm_law_6 | exact mo_lm_law_7 | exact mo_lm_law_8 | exact mo_lm_law_9 | exact mf__law_hand | exact mf__law_draw | exact mf__law_set | exact mf__law_any | exact mf__law_cases | exact mf__law_results | exact mf_results_of | exact mf_code_of | exact mf__law_code | exact mf_apart_by | exact mf__law_apart | exact mf__law_no_coins | exact mf__law_no_set | apply monoS_skip | apply monoS_seq | apply monoS_expr | apply monoS_ret | apply monoS_retN | apply monoS_brk | apply monoS_cnt | apply monoS_never | apply monoS_ite | apply monoS_asg | apply monoS_asgT | apply monoS_par | apply monoS_par3 | apply monoS_aug | apply monoS_for | apply monoS_while | apply monoS_putIx | apply mono_C | apply mono_var | apply mono_bor | apply mono_tup | apply mono_lst | apply mono_bin | apply mono_chain | apply mono_and | apply mono_or | apply mono_not | apply mono_neg | apply mono_if | apply mono_comp | apply mono_call | apply mono_callP | apply mono_callPX | apply mono_callI | apply mono_callIX | apply monoS_raise0 | apply mono_lam | apply mc_cntL | apply mono_callS | apply mono_slSc | apply mono_isi | apply mono_isi2 | apply mono_lrg1 | apply mono_sl | apply mono_mut | apply mono_mut0 | apply mono_cnt1 | apply mono_dget2 | apply mono_dict0 | apply mono_dict1 | apply mono_nil | apply mono_cons | apply mono_tru | apply mono_bl | apply mono_andB | apply mono_orB | apply mono_notB | apply mono_yes | apply mono_it | apply mono_rng1 | apply mono_rng2 | apply mono_rng3 | apply mono_zip2 | apply mono_zip3 | apply mono_enum | apply mono_str | apply mono_rev | apply mono_pn | apply mono_ps | apply m_add | apply m_sub | apply m_mul | apply m_mulR | apply m_fdiv | apply m_mod | apply m_pow | apply m_shl | apply m_and | apply m_xor | apply m_eq | apply m_eqO | apply m_ne | apply m_ord | apply m_in | apply m_is | apply m_ix | apply m_ixD | apply m_inD | apply m_iadd | apply mc_len | apply mc_int | apply mc_abs | apply mc_mm | apply mc_sum | apply mc_aa | apply mc_tuple | apply mc_list | apply mc_srt | apply mc_cnt | apply mc_idx | apply mc_dictP | apply mono_compK | apply mono_compD | apply mono_upd | apply mono_keysF | apply mono_mv | apply mc_mmK | apply mc_min2 | apply mm_append | apply mm_extend | apply mm_pop | apply mm_popAt)
def m_law : MS :=
  (sSeq (sAsg 1 (sCallS 0 F__law_hand))
    (sSeq (sFor (sRng1 (sC (.int 5))) (.nm 2) b_law_1)
    (sRet (sC (.bool true)))))
theorem mo_law : MonoS (m_law) := by
  unfold m_law
  repeat' (with_reducible first | exact mf__law_hand | exact mf__law_draw | exact mf__law_set | exact mf__law_any | exact mf__law_cases | exact mf__law_results | exact mf_results_of | exact mf_code_of | exact mf__law_code | exact mf_apart_by | exact mf__law_apart | exact mf__law_no_coins | exact mf__law_no_set | exact mo_lm_law_1 | exact mo_lm_law_2 | exact mo_lm_law_3 | exact mo_lm_law_4 | exact mo_lm_law_5 | exact mo_lm_law_6 | exact mo_lm_law_7 | exact mo_lm_law_8 | exact mo_lm_law_9 | exact (mo_b_law_1) | apply monoS_skip | apply monoS_seq | apply monoS_expr | apply monoS_ret | apply monoS_retN | apply monoS_brk | apply monoS_cnt | apply monoS_never | apply monoS_ite | apply monoS_asg | apply monoS_asgT | apply monoS_par | apply monoS_par3 | apply monoS_aug | apply monoS_for | apply monoS_while | apply monoS_putIx | apply mono_C | apply mono_var | apply mono_bor | apply mono_tup | apply mono_lst | apply mono_bin | apply mono_chain | apply mono_and | apply mono_or | apply mono_not | apply mono_neg | apply mono_if | apply mono_comp | apply mono_call | apply mono_callP | apply mono_callPX | apply mono_callI | apply mono_callIX | apply monoS_raise0 | apply mono_lam | apply mc_cntL | apply mono_callS | apply mono_slSc | apply mono_isi | apply mono_isi2 | apply mono_lrg1 | apply mono_sl | apply mono_mut | apply mono_mut0 | apply mono_cnt1 | apply mono_dget2 | apply mono_dict0 | apply mono_dict1 | apply mono_nil | apply mono_cons | apply mono_tru | apply mono_bl | apply mono_andB | apply mono_orB | apply mono_notB | apply mono_yes | apply mono_it | apply mono_rng1 | apply mono_rng2 | apply mono_rng3 | apply mono_zip2 | apply mono_zip3 | apply mono_enum | apply mono_str | apply mono_rev | apply mono_pn | apply mono_ps | apply m_add | apply m_sub | apply m_mul | apply m_mulR | apply m_fdiv | apply m_mod | apply m_pow | apply m_shl | apply m_and | apply m_xor | apply m_eq | apply m_eqO | apply m_ne | apply m_ord | apply m_in | apply m_is | apply m_ix | apply m_ixD | apply m_inD | apply m_iadd | apply mc_len | apply mc_int | apply mc_abs | apply mc_mm | apply mc_sum | apply mc_aa | apply mc_tuple | apply mc_list | apply mc_srt | apply mc_cnt | apply mc_idx | apply mc_dictP | apply mono_compK | apply mono_compD | apply mono_upd | apply mono_keysF | apply mono_mv | apply mc_mmK | apply mc_min2 | apply mm_append | apply mm_extend | apply mm_pop | apply mm_popAt)
def F_law : List Int → (Rs → Prop) → Prop := wpScX 15 m_law
theorem mf_law : ∀ ns (k k' : Rs → Prop), (∀ r, k r → k' r) → F_law ns k → F_law ns k' := monoScX mo_law
end W_k11

set_option Elab.async false
set_option linter.all false
set_option maxRecDepth 100000
set_option maxHeartbeats 4000000
namespace W_k11
open PySem PySem.Spec PyProof.Rows L2 VL
local macro_rules | `(tactic| walk_at "vl") => `(tactic| try simp only [wpF, wpI, wpSc, cur, sSeq, sIte, sRet, sRetN, sAsg, sExpr, sSkip, put, sTru, sBl, sAndB, sOrB, sNotB, sAnd, sOr, sNot, sNeg, sIf, sC, sVar, sBor, sNil, sCons, sTup, sLst, sBin, sChain, sCall, sCallP, sCallI, sCallPX, sCallIX, sRaise0, sLam, sIsi, sIsi2, sAug, sAsgT, sPar, sPar3, sPutIx, sMut, sMut0, sFor, sIt, sRng1, sRng2, sZip2, sZip3, sEnum, sComp, sLRg1, sSl, sPn, sPs, sCnt1, sBrk, sCnt, res, val, vals, ress, nb, tru, List.map_cons, List.map_nil, List.replicate_succ, List.replicate_zero, List.replicate_one, List.cons_append, List.nil_append, List.append_nil, List.length_cons, List.length_nil, List.getElem?_cons_zero, List.getElem?_cons_succ, List.set_cons_zero, List.set_cons_succ, Option.some.injEq, exists_eq_left', exists_eq_left, exists_and_left, exists_eq', true_and, and_true, Nat.reduceSub, Nat.reduceAdd, List.cons.injEq, PyData.int.injEq, PyData.bool.injEq, PyData.list.injEq, PyData.tuple.injEq, PyData.dict.injEq, Rs.vl.injEq, Rs.fr.injEq, if_true, if_false, Bool.false_eq_true, Bool.not_eq_true, Bool.not_true, Bool.not_false, isT, ite_dec, Sl.ow.injEq, Sl.sh.injEq, Sl.sc.injEq, Tg.put, TgL.put, TgL.len, exists_const, q_add, q_addT, q_addL, q_iadd, q_sub, q_mul, q_mulT, q_mulR, q_fdiv, q_mod, q_pow, q_shl, q_eqI, q_eqB, q_neI, q_neB, q_lt, q_le, q_gt, q_ge, q_ixL, q_ixT, q_isN, q_isnN, q_lenL, q_lenT, q_lenD, q_int, q_intB, q_abs, q_tupL, q_tupT, q_listL, q_listT, q_min2, q_max2, q_putL, q_putDI, at0, at1, at2, at3, at4, put5_0, put5_1, put5_2, put5_3, put5_4, q_slT, q_slL, cut_1, wipeE, backE, List.getD_cons_zero, List.getD_cons_succ, sYes, sSlSc, sCompK, sCompD, sUpd, sMv, sKeysF, sRev, q_revL, q_revT, sDict0, sDict1, VL.keyOf, VL.m_append, VL.m_popAt, VL.m_extend, VL.m_pop, shp_none, List.flatten_cons, List.flatten_nil])
section
variable {Q : Rs → Option D → Prop} {X : Ex → Option D → Prop}
/-! ### comprehensions -/
theorem compW_fm {α : Type} {vs : List Nat} {t : Tg} {mt : MB} {me : ME} {ρ : VL.Env} {k : List D → VL.Env → Prop} (e : α → D) (f : α → Option D) : ∀ (its : List α) (acc : List D), (∀ a ∈ its, StepOk vs t mt me ρ (e a) (f a)) → k (acc ++ its.filterMap f) ρ → compW vs ρ t mt me (its.map e) acc ρ k
  | [], acc, _, q => by simpa [compW] using q
  | d :: its, acc, h, q => by
    rw [List.map_cons]
    unfold compW
    refine h d List.mem_cons_self (fun e' ρ' => compW vs ρ t mt me (its.map e) (acc ++ [e']) ρ' k) (fun ρ' => compW vs ρ t mt me (its.map e) acc ρ' k) ?_
    have ih := fun acc => compW_fm (k := k) e f its acc fun d hd => h d (List.mem_cons_of_mem _ hd)
    cases e' : f d with
    | none =>
      refine ih acc ?_
      simpa [List.filterMap_cons, e'] using q
    | some x =>
      refine ih _ ?_
      simpa [List.filterMap_cons, e', List.append_assoc] using q
theorem aa_any_none {xs : List D} {k : Rs → Prop} (h : ∀ x ∈ xs, x = .bool false) (q : k (.vl (.bool false))) : s_aa false [.list xs] k := by
  refine ⟨xs.map fun _ => false, ?_, ?_⟩
  · rw [List.map_map]
    have : xs.map (fun _ => PyData.bool false) = xs := by
      induction xs with
      | nil => rfl
      | cons x xs ih => rw [List.map_cons, ih fun y hy => h y (List.mem_cons_of_mem _ hy), h x List.mem_cons_self]
    exact this.symm
  · have : (xs.map fun _ => false).any id = false := by simp
    rw [if_neg (by decide), this]
    exact q
theorem fm_some {α β : Type} (e : α → β) (rs : List α) : (rs.filterMap fun p => some (e p)) = rs.map e := by
  induction rs with
  | nil => rfl
  | cons p rs ih => simp [List.filterMap_cons]
theorem okv1 {i : Nat} {ρ : VL.Env} (h : ∀ d, ρ[i]? ≠ some (.ow d)) : okv [i] ρ = true := by
  unfold okv
  rw [List.all_cons, List.all_nil, Bool.and_true]
  split
  · rename_i e
    exact absurd e (h _)
  · rfl
theorem okv2 {i j : Nat} {ρ : VL.Env} (h : ∀ d, ρ[i]? ≠ some (.ow d)) (h' : ∀ d, ρ[j]? ≠ some (.ow d)) : okv [i, j] ρ = true := by
  have a := okv1 h
  have b := okv1 h'
  unfold okv at *
  rw [List.all_cons, List.all_nil, Bool.and_true] at a b
  rw [List.all_cons, List.all_cons, List.all_nil, Bool.and_true, a, b]
  rfl
/-- one turn of a comprehension, from ρ to ρ' -/
def StepTo (vs : List Nat) (ρ0 : VL.Env) (t : Tg) (mt : MB) (me : ME) (ρ : VL.Env) (d : D) (o : Option D) (ρ' : VL.Env) : Prop := ∀ (k1 : D → VL.Env → Prop) (k2 : VL.Env → Prop), (match o with | some e => k1 e ρ' | none => k2 ρ') →
  Tg.put t d (wipeE vs ρ) fun ρ1 => mt ρ1 (fun b ρ2 => if b = true then me ρ2 (fun r ρ3 => ∃ e, val r = some e ∧ k1 e (backE vs ρ0 ρ3)) (fun _ _ => False) else k2 (backE vs ρ0 ρ2)) (fun _ _ => False)
theorem compW_inv {α : Type} {vs : List Nat} {ρ0 : VL.Env} {t : Tg} {mt : MB} {me : ME} {k : List D → VL.Env → Prop} (I : VL.Env → Prop) (e : α → D) (f : α → Option D) : ∀ (its : List α) (acc : List D) (ρ : VL.Env), I ρ → (∀ a ∈ its, ∀ ρ, I ρ → ∃ ρ', I ρ' ∧ StepTo vs ρ0 t mt me ρ (e a) (f a) ρ') → (∀ ρ, I ρ → k (acc ++ its.filterMap f) ρ) → compW vs ρ0 t mt me (its.map e) acc ρ k
  | [], acc, ρ, hi, _, q => by simpa [compW] using q ρ hi
  | d :: its, acc, ρ, hi, h, q => by
    rw [List.map_cons]
    unfold compW
    obtain ⟨ρ', hi', st⟩ := h d List.mem_cons_self ρ hi
    refine st (fun e' ρ' => compW vs ρ0 t mt me (its.map e) (acc ++ [e']) ρ' k) (fun ρ' => compW vs ρ0 t mt me (its.map e) acc ρ' k) ?_
    have ih := fun acc => compW_inv (k := k) I e f its acc ρ' hi' fun d hd => h d (List.mem_cons_of_mem _ hd)
    cases e' : f d with
    | none =>
      refine ih acc ?_
      simpa [List.filterMap_cons, e'] using q
    | some x =>
      refine ih _ ?_
      simpa [List.filterMap_cons, e', List.append_assoc] using q
theorem aa_T {α : Type} {its : List α} {k : Rs → Prop} (q : k (.vl (.bool true))) : s_aa true [.list (its.map fun _ => .bool true)] k := aa_all (fun x hx => by obtain ⟨_, _, rfl⟩ := List.mem_map.mp hx; rfl) q
theorem fm_filter {α : Type} (e : α → D) (f : α → Bool) (rs : List α) : (rs.filterMap fun p => if f p = true then some (e p) else none) = (rs.filter f).map e := by
  induction rs with
  | nil => rfl
  | cons p rs ih =>
    cases h : f p
    · simpa [List.filterMap_cons, List.filter_cons, h] using ih
    · simpa [List.filterMap_cons, List.filter_cons, h] using ih

theorem aa_allB {α : Type} {xs : List α} {f : α → Bool} {k : Rs → Prop} (q : k (.vl (.bool (xs.all f)))) : s_aa true [.list (xs.map fun x => .bool (f x))] k := by
  refine ⟨xs.map f, by rw [List.map_map]; rfl, ?_⟩
  rw [if_pos rfl, List.all_map]
  exact q
theorem aa_anyB {α : Type} {xs : List α} {f : α → Bool} {k : Rs → Prop} (q : k (.vl (.bool (xs.any f)))) : s_aa false [.list (xs.map fun x => .bool (f x))] k := by
  refine ⟨xs.map f, by rw [List.map_map]; rfl, ?_⟩
  rw [if_neg (by decide), List.any_map]
  exact q

/-! ### basics -/
def isI : D → Bool
  | .int _ => true
  | _ => false
def inI (lo hi : Int) : D → Bool
  | .int i => decide (lo ≤ i) && decide (i ≤ hi)
  | _ => false
def szT (lo hi : Int) : D → Bool
  | .tuple ds => decide (lo ≤ ds.length) && decide ((ds.length : Int) ≤ hi)
  | _ => false
theorem ifB {a b : Bool} {A : Bool → Prop} (h : A (a && b)) : (if a = true then A b else A false) := by
  cases a <;> simpa using h
theorem ifD {p : Prop} [Decidable p] {b : Bool} {A : Bool → Prop} (h : A (decide p && b)) : (if p then A b else A false) := by
  by_cases hp : p <;> simpa [hp] using h
theorem is_integer_g (d : D) (q : Q (.vl (.bool (isI d))) none) : F_is_integer [d] Q X := by
  unfold F_is_integer m_is_integer
  walk_at "vl"
  cases d <;> exact q
theorem is_within_g (d : D) (lo hi : Int) (q : Q (.vl (.bool (inI lo hi d))) none) : F_is_within [d, .int lo, .int hi] Q X := by
  unfold F_is_within m_is_within
  walk_at "vl"
  refine is_integer_g d ?_
  walk_at "vl"
  cases d with
  | int i =>
    refine ifT rfl ?_
    walk_at "vl"
    exact ifD (A := fun b => Q (.vl (.bool b)) none) q
  | _ => exact q
theorem is_within_i {i lo hi : Int} (h1 : lo ≤ i) (h2 : i ≤ hi) (q : Q (.vl (.bool true)) none) : F_is_within [.int i, .int lo, .int hi] Q X := by
  have e : inI lo hi (.int i) = true := by simp [inI, h1, h2]
  refine is_within_g _ _ _ ?_
  rw [e]
  exact q
theorem is_sized_g (d : D) (lo hi : Int) (q : Q (.vl (.bool (szT lo hi d))) none) : F_is_sized [d, .int lo, .int hi] Q X := by
  unfold F_is_sized m_is_sized
  walk_at "vl"
  cases d with
  | tuple ds =>
    refine ifT rfl ?_
    walk_at "vl"
    exact ifD (A := fun b => Q (.vl (.bool b)) none) q
  | _ => exact q
theorem is_sized_i {ds : List D} {lo hi : Int} (h1 : lo ≤ ds.length) (h2 : (ds.length : Int) ≤ hi) (q : Q (.vl (.bool true)) none) : F_is_sized [.tuple ds, .int lo, .int hi] Q X := by
  have e : szT lo hi (.tuple ds) = true := by simp [szT, h1, h2]
  refine is_sized_g _ _ _ ?_
  rw [e]
  exact q

/-! ### draws -/
theorem draw_i {many : Int} {d : D} (hd : HandOk d) (hm : 0 < many ∧ many < 1000000000) (q : ∀ j d', 0 ≤ j → j < many → HandOk d' → Q (.vl (.int j)) (some d')) : F__law_draw [d, .int many] Q X :=
  draw_specC (c1 := 69621) (c0 := 40692) (c2 := 31) (c3 := 2147483629) (c4 := 7919) (c5 := 48271) (c6 := 2147483647) (c7 := 1009) (c8 := 69621) (c9 := 2147483647) (c10 := 2003) (c11 := 40014) (c12 := 2147483563) (c13 := 16)
    (by omega) (by omega) (by omega) (by omega) (by omega) (by omega) (by omega) (by omega) (by omega) (by omega) (by omega) hd hm q

theorem any_l {ds : List D} {d : D} (hd : HandOk d) (hm : 0 < ds.length ∧ ds.length < 1000000000) (q : ∀ y d', y ∈ ds → HandOk d' → Q (.vl y) (some d')) : F__law_any [d, .list ds] Q X := by
  unfold F__law_any m__law_any
  refine ⟨_, _, rfl, rfl, ?_⟩
  walk_at "vl"
  refine draw_i hd (by omega) fun j d' h0 h1 hd' => ?_
  walk_at "vl"
  obtain ⟨n, rfl⟩ := Int.eq_ofNat_of_zero_le h0
  have hn : n < ds.length := by omega
  exact ⟨ds[n], atI_int n rfl (by simp [hn]), q _ _ (by simp) hd'⟩


/-! ### the law's own equality -/
theorem plnA_of {ds : List D} (h : ∀ d ∈ ds, pln d = true) : plnA ds = true := by
  induction ds with
  | nil => rfl
  | cons d ds ih => simp only [plnA, Bool.and_eq_true]; exact ⟨h d List.mem_cons_self, ih fun x hx => h x (List.mem_cons_of_mem _ hx)⟩
theorem depthA_of {ds : List D} {n : Nat} (h : ∀ d ∈ ds, d.depth ≤ n) : PyData.depthAll ds ≤ n := by
  induction ds with
  | nil => simp [PyData.depthAll]
  | cons d ds ih =>
    simp only [PyData.depthAll]
    have := h d List.mem_cons_self
    have := ih fun x hx => h x (List.mem_cons_of_mem _ hx)
    omega
theorem pln_tI {ns : List Int} (h : ns.length ≤ 1000) : pln (.tuple (ns.map .int)) = true := by
  simp only [pln, List.length_map, h, decide_true, Bool.true_and]
  exact plnA_of fun d hd => by obtain ⟨i, _, rfl⟩ := List.mem_map.mp hd; rfl
theorem depth_tI {ns : List Int} : (PyData.tuple (ns.map .int)).depth ≤ 1 := by
  simp only [PyData.depth]
  have := depthA_of (ds := ns.map PyData.int) (n := 0) fun d hd => by obtain ⟨i, _, rfl⟩ := List.mem_map.mp hd; simp [PyData.depth]
  omega


/-! ### tuples of numbers -/
abbrev tI (ns : List Int) : D := .tuple (ns.map .int)
theorem shp_ints (ns : List Int) : shp (tI ns) = true := by
  have h1 : ∀ ns : List Int, PyData.canLayAll0 (ns.map PyData.int) = true := fun ns => by
    induction ns with
    | nil => simp [PyData.canLayAll0]
    | cons n ns ih => simp [PyData.canLayAll0, PyData.canLay0, ih]
  have h2 : PyData.depthAll (ns.map PyData.int) = 0 := PySem.W.depth_ints ns
  simp [tI, shp, SeqAt.shaped, PyData.canLay0, PyData.depth, h1, h2]
theorem any_ints (ns : List Int) (i : Int) : ((ns.map PyData.int).any fun z => PyData.eqv z (.int i)) = decide (i ∈ ns) := by
  induction ns with
  | nil => simp
  | cons n ns ih =>
    have e : (n == i) = decide (i = n) := by rw [Bool.beq_eq_decide_eq]; exact decide_eq_decide.mpr eq_comm
    simp [eqv_int, ih, e]
theorem zip_ints : ∀ (xs ys : List Int), zip2D (xs.map .int) (ys.map .int) = (List.zip xs ys).map fun p => .tuple [.int p.1, .int p.2]
  | [], _ => rfl
  | _ :: _, [] => rfl
  | x :: xs, y :: ys => by
    have := zip_ints xs ys
    unfold zip2D at *
    simp [this]
theorem zip_up : ∀ {bs : List Int} {b c : Int}, bs.Pairwise (· < ·) → (b, c) ∈ List.zip bs (bs.drop 1) → b < c
  | [], _, _, _, h => by simp at h
  | [x], _, _, _, h => by simp at h
  | x :: y :: r, b, c, hp, h => by
    rw [List.drop_one, List.tail_cons, List.zip_cons_cons, List.mem_cons] at h
    rcases h with h | h
    · cases h
      exact (List.pairwise_cons.mp hp).1 _ List.mem_cons_self
    · exact zip_up (List.pairwise_cons.mp hp).2 (by simpa using h)
theorem at_ints {bs : List Int} {j : Nat} {b : Int} (e : bs[j]? = some b) : atI (bs.map PyData.int) (j : Int) = some (.int b) := atI_int j rfl (by rw [List.getElem?_map, e]; rfl)
theorem cmul_s {i j : Int} (h : -(2 ^ 64) < i) (h' : i < 2 ^ 64) : CMul i j := .inl ⟨h, h'⟩
theorem rg_ints (lo : Int) (n : Nat) : rg lo n = ((List.range n).map fun i : Nat => lo + (i : Int)).map PyData.int := by unfold rg; rw [List.map_map]; rfl
theorem inD_ints {neg : Bool} {i : Int} {ns : List Int} {k : Rs → Prop} (q : k (.vl (.bool (neg ^^ decide (i ∈ ns))))) : s_inD neg (.int i) (tI ns) k := by
  refine ⟨shp_int, shp_ints ns, ?_⟩
  show k (.vl (.bool (neg ^^ ((ns.map PyData.int).any fun z => PyData.eqv z (.int i)))))
  rw [any_ints]
  exact q

/-! ### sorting numbers -/
def sortI (ks : List Int) : List Int := ks.mergeSort (fun a b => decide (a ≤ b))
theorem srt_ints (ks : List Int) : srt (ks.map PyData.int) = (sortI ks).map PyData.int := by
  unfold srt sortI
  rw [List.map_mergeSort]
  intro a _ b _
  have := congrFun (congrFun (PySem.W.dataLe_int (β := Int) id) a) b
  exact this.symm
theorem srtOk_ints (ks : List Int) : PySem.W.SrtOk (ks.map PyData.int) := by
  refine ⟨fun d hd d' hd' => ?_, .inr fun d hd => ?_⟩
  · obtain ⟨i, _, rfl⟩ := List.mem_map.mp hd
    obtain ⟨j, _, rfl⟩ := List.mem_map.mp hd'
    simp [PySem.W.alike]
  · obtain ⟨i, _, rfl⟩ := List.mem_map.mp hd
    exact ⟨fun z => (nomatch z), fun xs z => (nomatch z)⟩
theorem sortI_perm (ks : List Int) : (sortI ks).Perm ks := List.mergeSort_perm _ _
theorem sortI_le (ks : List Int) : (sortI ks).Pairwise (· ≤ ·) := by
  have := List.pairwise_mergeSort (le := fun a b : Int => decide (a ≤ b)) (fun a b c h1 h2 => by simp at *; omega) (fun a b => by simp; omega) ks
  exact this.imp fun h => by simpa using h
theorem srt_i {ds : List Int} {k : Rs → Prop} (q : k (.fr (.list ((sortI ds).map .int)))) : s_srt [.list (ds.map .int)] k := by
  refine ⟨_, rfl, srtOk_ints _, ?_, ?_, by rw [srt_ints]; exact q⟩
  · have := shp_ints ds
    simpa [shp, SeqAt.shaped, PyData.canLay0, PyData.depth] using this
  · rw [PySem.W.depth_ints]; omega
theorem mem_sortI {ds : List Int} {x : Int} : x ∈ sortI ds ↔ x ∈ ds := (sortI_perm ds).mem_iff
theorem sortI_len (ds : List Int) : (sortI ds).length = ds.length := (sortI_perm ds).length_eq
theorem sortI_lt {ds : List Int} (h : ds.Nodup) : (sortI ds).Pairwise (· < ·) := (sortI_le ds).imp₂ (fun h1 h2 => by omega) ((sortI_perm ds).nodup_iff.mpr h)

/-! ### the order of rows of numbers -/
def ltI : List Int → List Int → Bool
  | [], [] => false
  | [], _ :: _ => true
  | _ :: _, [] => false
  | x :: xs, y :: ys => decide (x < y) || (decide (x = y) && ltI xs ys)
def ins (a : List Int) : List (List Int) → List (List Int)
  | [] => [a]
  | b :: r => if ltI b a then b :: ins a r else a :: b :: r
def isort : List (List Int) → List (List Int)
  | [] => []
  | a :: r => ins a (isort r)
theorem lt_lt : ∀ xs ys : List Int, decide (xs < ys) = ltI xs ys
  | [], [] => by simp [ltI]
  | [], y :: ys => by simp [ltI]
  | x :: xs, [] => by simp [ltI]
  | x :: xs, y :: ys => by
    have ih := lt_lt xs ys
    have e : (x :: xs < y :: ys) ↔ (x < y ∨ x = y ∧ xs < ys) := List.cons_lt_cons_iff
    rw [Bool.eq_iff_iff, decide_eq_true_iff, e]
    simp only [ltI, ← ih, Bool.or_eq_true, Bool.and_eq_true, decide_eq_true_eq]
theorem lt_tot : ∀ {a b : List Int}, ltI a b = false → ltI b a = false → a = b
  | [], [], _, _ => rfl
  | [], _ :: _, h, _ => by simp [ltI] at h
  | _ :: _, [], _, h => by simp [ltI] at h
  | x :: xs, y :: ys, h1, h2 => by
    simp only [ltI, Bool.or_eq_false_iff, Bool.and_eq_false_iff, decide_eq_false_iff_not] at h1 h2
    have e : x = y := by omega
    subst e
    have g1 : ltI xs ys = false := by
      rcases h1.2 with h | h
      · exact absurd rfl h
      · exact h
    have g2 : ltI ys xs = false := by
      rcases h2.2 with h | h
      · exact absurd rfl h
      · exact h
    rw [lt_tot g1 g2]
theorem le_trI : ∀ {a b c : List Int}, ltI b a = false → ltI c b = false → ltI c a = false
  | [], _, [], _, _ => rfl
  | _ :: _, _, [], h1, h2 => by
    rename_i b
    cases b with
    | nil => simp [ltI] at h1
    | cons y ys => simp [ltI] at h2
  | [], _, _ :: _, _, _ => rfl
  | x :: xs, [], z :: zs, h1, h2 => by simp [ltI] at h1
  | x :: xs, y :: ys, z :: zs, h1, h2 => by
    have ih := le_trI (a := xs) (b := ys) (c := zs)
    simp only [ltI, Bool.or_eq_false_iff, Bool.and_eq_false_iff, decide_eq_false_iff_not] at h1 h2 ⊢
    refine ⟨by omega, ?_⟩
    by_cases h : z = x
    · right
      have e1 : y = x := by omega
      have e2 : z = y := by omega
      rcases h1.2 with g | g
      · exact absurd e1 g
      · rcases h2.2 with g' | g'
        · exact absurd e2 g'
        · exact ih g g'
    · exact .inl h
theorem lt_as : ∀ {a b : List Int}, ltI a b = true → ltI b a = false
  | [], [], h => by simp [ltI] at h
  | [], _ :: _, _ => rfl
  | _ :: _, [], h => by simp [ltI] at h
  | x :: xs, y :: ys, h => by
    have ih := lt_as (a := xs) (b := ys)
    simp only [ltI, Bool.or_eq_true, Bool.and_eq_true, decide_eq_true_eq, Bool.or_eq_false_iff, Bool.and_eq_false_iff, decide_eq_false_iff_not] at h ⊢
    rcases h with h | ⟨h, h2⟩
    · exact ⟨by omega, .inl (by omega)⟩
    · exact ⟨by omega, .inr (ih h2)⟩
theorem ins_perm (a : List Int) : ∀ r : List (List Int), (ins a r).Perm (a :: r)
  | [] => List.Perm.refl _
  | b :: r => by
    unfold ins
    split
    · exact ((ins_perm a r).cons b).trans (List.Perm.swap a b r)
    · exact List.Perm.refl _
theorem isort_perm : ∀ r : List (List Int), (isort r).Perm r
  | [] => List.Perm.refl _
  | a :: r => (ins_perm a (isort r)).trans ((isort_perm r).cons a)
theorem ins_srt (a : List Int) : ∀ {r : List (List Int)}, r.Pairwise (fun x y => ltI y x = false) → (ins a r).Pairwise fun x y => ltI y x = false
  | [], _ => by simp [ins]
  | b :: r, h => by
    have h' := List.pairwise_cons.mp h
    unfold ins
    split
    · rename_i hb
      refine List.pairwise_cons.mpr ⟨fun y hy => ?_, ins_srt a h'.2⟩
      rcases List.mem_cons.mp ((ins_perm a r).mem_iff.mp hy) with rfl | hy
      · exact lt_as hb
      · exact h'.1 y hy
    · rename_i hb
      have hb : ltI b a = false := by simpa using hb
      refine List.pairwise_cons.mpr ⟨fun y hy => ?_, h⟩
      rcases List.mem_cons.mp hy with rfl | hy
      · exact hb
      · exact le_trI hb (h'.1 y hy)
theorem isort_srt : ∀ r : List (List Int), (isort r).Pairwise fun x y => ltI y x = false
  | [] => by simp [isort]
  | a :: r => ins_srt a (isort_srt r)
theorem perm_eq : ∀ {xs ys : List (List Int)}, xs.Perm ys → xs.Pairwise (fun x y => ltI y x = false) → ys.Pairwise (fun x y => ltI y x = false) → xs = ys
  | [], ys, h, _, _ => (List.nil_perm.mp h).symm
  | x :: xs, [], h, _, _ => absurd h.length_eq (by simp)
  | x :: xs, y :: ys, h, hx, hy => by
    have hx' := List.pairwise_cons.mp hx
    have hy' := List.pairwise_cons.mp hy
    have e : x = y := by
      rcases List.mem_cons.mp (h.mem_iff.mp List.mem_cons_self) with e | h1
      · exact e
      · rcases List.mem_cons.mp (h.mem_iff.mpr List.mem_cons_self) with e | h2
        · exact e.symm
        · exact lt_tot (hy'.1 x h1) (hx'.1 y h2)
    subst e
    rw [perm_eq (List.Perm.cons_inv h) hx'.2 hy'.2]
theorem srt_tIs (xs : List (List Int)) : srt (xs.map tI) = (isort xs).map tI := by
  have e : srt (xs.map tI) = (xs.mergeSort fun a b => !ltI b a).map tI := by
    unfold srt
    rw [List.map_mergeSort]
    intro a _ b _
    show _ = (!PySem.W.dataLt (tI b) (tI a))
    rw [show PySem.W.dataLt (tI b) (tI a) = PySem.W.rowLt (b.map .int) (a.map .int) from rfl, PySem.W.dataLt_ints, lt_lt]
  rw [e]
  congr 1
  refine perm_eq ((List.mergeSort_perm _ _).trans (isort_perm xs).symm) ?_ (isort_srt xs)
  have := List.pairwise_mergeSort (le := fun a b : List Int => !ltI b a) (fun a b c h1 h2 => by simp at *; exact le_trI h1 h2) (fun a b => by
    cases h : ltI b a with
    | false => simp
    | true => simp [lt_as h]) xs
  exact this.imp fun h => by simpa using h
theorem lay_ints (ns : List Int) : PyData.canLayAll0 (ns.map PyData.int) = true := by
  induction ns with
  | nil => simp [PyData.canLayAll0]
  | cons n ns ih => simp [PyData.canLayAll0, PyData.canLay0, ih]
theorem lay_tIs (xs : List (List Int)) : PyData.canLayAll0 (xs.map tI) = true := by
  induction xs with
  | nil => simp [PyData.canLayAll0]
  | cons p ps ih => simp [PyData.canLayAll0, PyData.canLay0, lay_ints, ih]
theorem alikeAll_I : ∀ xs ys : List Int, PySem.W.alikeAll (xs.map .int) (ys.map .int) = true
  | [], ys => by cases ys <;> simp [PySem.W.alikeAll]
  | x :: xs, [] => by simp [PySem.W.alikeAll]
  | x :: xs, y :: ys => by simp [PySem.W.alikeAll, PySem.W.alike, alikeAll_I xs ys]
theorem srt_T {xs : List (List Int)} {k : Rs → Prop} (q : k (.fr (.list ((isort xs).map tI)))) : s_srt [.list (xs.map tI)] k := by
  have hd : PyData.depthAll (xs.map tI) ≤ 1 := depthA_of fun d hd => by obtain ⟨p, _, rfl⟩ := List.mem_map.mp hd; exact depth_tI
  refine ⟨_, rfl, ⟨fun d hd d' hd' => ?_, .inl fun d hd => ?_⟩, ?_, by omega, by rw [srt_tIs]; exact q⟩
  · obtain ⟨p, _, rfl⟩ := List.mem_map.mp hd
    obtain ⟨p', _, rfl⟩ := List.mem_map.mp hd'
    simp [PySem.W.alike, alikeAll_I]
  · obtain ⟨p, _, rfl⟩ := List.mem_map.mp hd
    exact ⟨_, rfl⟩
  · have h3 : (PyData.list (xs.map tI)).depth ≤ 64 := by simp only [PyData.depth]; omega
    have h4 : (PyData.list (xs.map tI)).canLay0 = true := by simp only [PyData.canLay0]; exact lay_tIs xs
    unfold shp SeqAt.shaped
    rw [h4, decide_eq_true h3]
    rfl
theorem eqvA_ints : ∀ xs ys : List Int, PyData.eqvAll (xs.map .int) (ys.map .int) = decide (xs = ys)
  | [], [] => by simp [PyData.eqvAll]
  | [], _ :: _ => by simp [PyData.eqvAll]
  | _ :: _, [] => by simp [PyData.eqvAll]
  | x :: xs, y :: ys => by
    have ih := eqvA_ints xs ys
    simp only [List.map_cons, PyData.eqvAll, ih, eqv_int]
    by_cases h1 : x = y <;> by_cases h2 : xs = ys <;> simp [h1, h2]
theorem eqv_tI (xs ys : List Int) : PyData.eqv (tI xs) (tI ys) = decide (xs = ys) := by
  simp only [PyData.eqv]
  exact eqvA_ints xs ys
theorem ord_ints : ∀ xs ys : List Int, (ordA (xs.map .int) (ys.map .int) == .lt) = ltI xs ys
  | [], [] => rfl
  | [], _ :: _ => rfl
  | _ :: _, [] => rfl
  | x :: xs, y :: ys => by
    have ih := ord_ints xs ys
    simp only [List.map_cons, ordA, eqv_int, ltI]
    by_cases h : x = y
    · subst h; simp [ih]
    · rw [if_neg (by simpa using h)]
      have : (ordD (.int x) (.int y) == .lt) = decide (x < y) := opB_int (op := .Lt) rfl x y
      rw [this]
      simp [h]
theorem cmb_ints : ∀ xs ys : List Int, cmbA (xs.map .int) (ys.map .int) = true
  | [], _ => by simp [cmbA]
  | _ :: _, [] => by simp [cmbA]
  | x :: xs, y :: ys => by simp [cmbA, cmb, cmb_ints xs ys]
theorem lt_T {xs ys : List Int} {k : Rs → Prop} (q : k (.vl (.bool (ltI xs ys)))) : s_ord .Lt (tI xs) (tI ys) k := by
  refine ⟨?_, shp_ints xs, shp_ints ys, ?_⟩
  · simp only [cmb]; exact cmb_ints xs ys
  · have : opB .Lt (ordD (tI xs) (tI ys)) = ltI xs ys := by
      simp only [ordD]
      exact ord_ints xs ys
    rw [this]
    exact q
theorem eq_T {xs ys : List Int} {k : Rs → Prop} (q : k (.vl (.bool (decide (xs = ys))))) : s_eq (tI xs) (tI ys) k := by
  refine ⟨shp_ints xs, shp_ints ys, ?_⟩
  rw [eqv_tI]
  exact q

/-! ### lots -/
def LF : Nat → List (List Int)
  | 0 => [[]]
  | n + 1 => LF n ++ (LF n).map (· ++ [(n : Int)])
theorem LF_len : ∀ n, (LF n).length = 2 ^ n
  | 0 => rfl
  | n + 1 => by
    have := LF_len n
    simp only [LF, List.length_append, List.length_map, this, Nat.pow_succ]
    omega
theorem LF_in : ∀ (n : Nat), ∀ l ∈ LF n, l.length ≤ n ∧ (∀ x ∈ l, 0 ≤ x ∧ x < n) ∧ l.Pairwise (· < ·)
  | 0, l, h => by
    rw [LF, List.mem_singleton] at h
    subst h
    simp
  | n + 1, l, h => by
    rw [LF, List.mem_append] at h
    rcases h with h | h
    · obtain ⟨h1, h2, h3⟩ := LF_in n l h
      exact ⟨by omega, fun x hx => by have := h2 x hx; omega, h3⟩
    · obtain ⟨m, hm, rfl⟩ := List.mem_map.mp h
      obtain ⟨h1, h2, h3⟩ := LF_in n m hm
      refine ⟨by simp; omega, fun x hx => ?_, ?_⟩
      · rcases List.mem_append.mp hx with hx | hx
        · have := h2 x hx; omega
        · rw [List.mem_singleton] at hx; omega
      · refine List.pairwise_append.mpr ⟨h3, by simp, fun a ha b hb => ?_⟩
        rw [List.mem_singleton] at hb
        have := h2 a ha
        omega
theorem in_LF : ∀ (n : Nat) (l : List Int), (∀ x ∈ l, 0 ≤ x ∧ x < n) → l.Pairwise (· < ·) → l ∈ LF n
  | 0, l, h, _ => by
    cases l with
    | nil => simp [LF]
    | cons a r => have := h a List.mem_cons_self; omega
  | n + 1, l, h, hp => by
    rw [LF, List.mem_append]
    rcases List.eq_nil_or_concat l with rfl | ⟨m, a, rfl⟩
    · exact .inl (in_LF n [] (fun _ z => by simp at z) hp)
    · rw [List.concat_eq_append] at h hp ⊢
      obtain ⟨p1, p2, p3⟩ := List.pairwise_append.mp hp
      have ha := h a (by simp)
      by_cases e : a = n
      · subst e
        refine .inr (List.mem_map.mpr ⟨m, in_LF n m (fun x hx => ?_) p1, rfl⟩)
        have := p3 x hx n (by simp)
        have := h x (by simp [hx])
        omega
      · refine .inl (in_LF n _ (fun x hx => ?_) hp)
        have := h x hx
        refine ⟨this.1, ?_⟩
        rcases List.mem_append.mp hx with hx | hx
        · have := p3 x hx a (by simp); omega
        · rw [List.mem_singleton] at hx; omega
theorem rg_cons {j : Nat} {n : Nat} : rg (j : Int) (n + 1) = .int j :: rg ((j + 1 : Nat) : Int) n := by
  unfold rg
  rw [List.range_succ_eq_map, List.map_cons, List.map_map]
  simp only [List.cons.injEq]
  refine ⟨by simp, List.map_congr_left fun i _ => ?_⟩
  show PyData.int (↑j + ((i + 1 : Nat) : Int)) = PyData.int (((j + 1 : Nat) : Int) + (i : Int))
  congr 1
  omega
theorem pow8 {i : Nat} (h : i ≤ 8) : 2 ^ i ≤ 256 := Nat.le_trans (Nat.pow_le_pow_right (by omega) h) (by decide)
theorem LF_map (i : Nat) : (LF i).map tI ++ (LF i).map (fun l => tI (l ++ [(i : Int)])) = (LF (i + 1)).map tI := by
  rw [LF, List.map_append, List.map_map]
  rfl
/-! ### weighings -/
def intsOf : List D → List Int
  | [] => []
  | .int i :: ds => i :: intsOf ds
  | _ :: ds => intsOf ds
theorem ints_of : ∀ {ds : List D}, ds.all isI = true → ds = (intsOf ds).map .int
  | [], _ => rfl
  | d :: ds, h => by
    rw [List.all_cons, Bool.and_eq_true] at h
    have ih := ints_of h.2
    cases d with
    | int i => rw [intsOf, List.map_cons, ← ih]
    | _ => exact absurd h.1 (by simp [isI])
theorem intsOf_map : ∀ ns : List Int, intsOf (ns.map .int) = ns
  | [] => rfl
  | n :: ns => by rw [List.map_cons, intsOf, intsOf_map ns]
theorem inI_isI {lo hi : Int} {d : D} (h : inI lo hi d = true) : isI d = true := by cases d <;> simp_all [inI, isI]
def rowOf : D → List Int
  | .tuple ds => intsOf ds
  | _ => []
def rowB : D → Bool
  | .tuple ds => ds.all isI
  | _ => false
def asc (l : List Int) : Bool := (l.zip (l.drop 1)).all fun p => decide (p.1 < p.2)
def lotD (n : Int) : D → Bool
  | .tuple ds => ds.all (inI 0 (n - 1)) && asc (intsOf ds)
  | _ => false
def SmT (d : D) : Prop := ∀ ds, d = .tuple ds → ds.length ≤ 1000
theorem is_lot_g {d : D} (n : Int) (hs : SmT d) (q : Q (.vl (.bool (lotD n d))) none) : F_is_lot [d, .int n] Q X := by
  unfold F_is_lot m_is_lot wpF
  refine ⟨rfl, ?_⟩
  refine seq_i fun N hN => ?_
  walk_at "vl"
  cases d with
  | tuple ds =>
    have hl := hs ds rfl
    have e0 : lotD n (.tuple ds) = (ds.all (inI 0 (n - 1)) && asc (intsOf ds)) := rfl
    rw [e0] at q
    refine ifF rfl ?_
    walk_at "vl"
    refine ⟨_, rfl, rfl, by simp [sizeLine_eq]; omega, compW_map (fun d => .bool (inI 0 (n - 1) d)) (fun d hd k1 k2 hk => ?_) ?_⟩
    · walk_at "vl"
      refine is_within_g _ _ _ ?_
      walk_at "vl"
      exact hk
    · refine aa_allB ?_
      walk_at "vl"
      cases e2 : ds.all (inI 0 (n - 1)) with
      | false =>
        rw [e2] at q
        exact ifT rfl q
      | true =>
        rw [e2, Bool.true_and] at q
        refine ifF rfl ?_
        refine hN _ ?_
        walk_at "vl"
        have e3 := ints_of (ds := ds) (List.all_eq_true.mpr fun x hx => inI_isI (List.all_eq_true.mp e2 x hx))
        generalize intsOf ds = ns at *
        subst e3
        have hl' : ns.length ≤ 1000 := by simpa using hl
        refine ⟨_, _, rfl, rfl, by rw [zip2_len]; simp [sizeLine_eq]; omega, ?_⟩
        rw [← List.map_drop, zip_ints]
        refine compW_fm (fun p : Int × Int => .tuple [.int p.1, .int p.2]) (fun p => some (.bool (decide (p.1 < p.2)))) _ [] (fun p hp k1 k2 hk => ?_) ?_
        · walk_at "vl"
          exact hk
        · rw [List.nil_append, fm_some]
          exact aa_allB ⟨True.intro, q⟩
  | _ => exact ifT rfl q
theorem asc_pw : ∀ {l : List Int}, asc l = true → l.Pairwise (· < ·)
  | [], _ => List.Pairwise.nil
  | [x], _ => List.pairwise_singleton ..
  | x :: y :: r, h => by
    have h' : ((x, y) :: (y :: r).zip r).all (fun p => decide (p.1 < p.2)) = true := h
    rw [List.all_cons, Bool.and_eq_true] at h'
    have ih : (y :: r).Pairwise (· < ·) := asc_pw (l := y :: r) (by show ((y :: r).zip ((y :: r).drop 1)).all _ = true; exact h'.2)
    refine List.pairwise_cons.mpr ⟨fun z hz => ?_, ih⟩
    have hxy : x < y := by simpa using h'.1
    rcases List.mem_cons.mp hz with rfl | hz
    · exact hxy
    · have := (List.pairwise_cons.mp ih).1 z hz; omega
theorem pw_asc : ∀ {l : List Int}, l.Pairwise (· < ·) → asc l = true
  | [], _ => rfl
  | [x], _ => rfl
  | x :: y :: r, h => by
    have ih := pw_asc (List.pairwise_cons.mp h).2
    show ((x, y) :: (y :: r).zip r).all (fun p => decide (p.1 < p.2)) = true
    rw [List.all_cons, Bool.and_eq_true]
    exact ⟨by simpa using (List.pairwise_cons.mp h).1 y List.mem_cons_self, ih⟩
theorem lotD_ok {n : Int} {l : List Int} (h : ∀ x ∈ l, 0 ≤ x ∧ x < n) (hp : l.Pairwise (· < ·)) : lotD n (tI l) = true := by
  show ((l.map PyData.int).all (inI 0 (n - 1)) && asc (intsOf (l.map PyData.int))) = true
  rw [intsOf_map, pw_asc hp, Bool.and_true, List.all_eq_true]
  intro d hd
  obtain ⟨x, hx, rfl⟩ := List.mem_map.mp hd
  have := h x hx
  simp [inI]
  omega
mutual
def smD : D → Bool
  | .tuple ds => decide (ds.length ≤ 1000) && smA ds
  | _ => true
def smA : List D → Bool
  | [] => true
  | d :: ds => smD d && smA ds
end
theorem smA_mem : ∀ {ds : List D}, smA ds = true → ∀ d ∈ ds, smD d = true
  | [], _, _, h => nomatch h
  | x :: xs, h, d, hd => by
    rw [smA, Bool.and_eq_true] at h
    rcases List.mem_cons.mp hd with rfl | hd
    · exact h.1
    · exact smA_mem h.2 d hd
theorem smD_T {d : D} (h : smD d = true) : SmT d := fun ds e => by
  subst e
  rw [smD, Bool.and_eq_true] at h
  exact of_decide_eq_true h.1
theorem smD_at {ds : List D} (h : smD (.tuple ds) = true) : ∀ d ∈ ds, smD d = true := by
  rw [smD, Bool.and_eq_true] at h
  exact smA_mem h.2

/-! ### texts -/
theorem eqv_str (x y : Str) : PyData.eqv (.str x) (.str y) = (x == y) := by simp [PyData.eqv]
theorem shp_s {x : Str} (h : PyData.strOk x = true := by decide +kernel) : shp (.str x) = true := by simp [shp, SeqAt.shaped, PyData.canLay0, PyData.depth, h]
theorem eq_S {x y : Str} {k : Rs → Prop} (q : k (.vl (.bool (x == y)))) (h1 : PyData.strOk x = true := by decide +kernel) (h2 : PyData.strOk y = true := by decide +kernel) : s_eq (.str x) (.str y) k := ⟨shp_s h1, shp_s h2, by rw [eqv_str]; exact q⟩
theorem ne_S {x y : Str} {k : Rs → Prop} (q : k (.vl (.bool (!(x == y))))) (h1 : PyData.strOk x = true := by decide +kernel) (h2 : PyData.strOk y = true := by decide +kernel) : s_ne (.str x) (.str y) k := ⟨shp_s h1, shp_s h2, by rw [eqv_str]; exact q⟩
/-! ### cases of a coin -/
abbrev heavyS : Str := "heavier"
abbrev lightS : Str := "lighter"
def wS (h : Bool) : Str := if h then heavyS else lightS
theorem wS_ok (h : Bool) : PyData.strOk (wS h) = true := by cases h <;> decide +kernel
theorem wS_heavy (h : Bool) : (wS h == heavyS) = h := by cases h <;> decide +kernel
abbrev dCs (c : Bool × Int) : D := .tuple [.str (wS c.1), .int c.2]
def caseD (n : Int) : D → Bool
  | .tuple [.str w, c] => (w == heavyS || w == lightS) && inI 0 (n - 1) c
  | _ => false
theorem inD_two {neg : Bool} {w : Str} {k : Rs → Prop} (hw : PyData.strOk w = true) (q : k (.vl (.bool (neg ^^ (w == heavyS || w == lightS))))) : s_inD neg (.str w) (.tuple [.str heavyS, .str lightS]) k := by
  have e : ((([PyData.str heavyS, PyData.str lightS] : List D)).any fun z => PyData.eqv z (.str w)) = (w == heavyS || w == lightS) := by
    simp only [List.any_cons, List.any_nil, Bool.or_false, eqv_str]
    rw [show (heavyS == w) = (w == heavyS) from by rw [Bool.eq_iff_iff]; simp only [beq_iff_eq]; exact eq_comm, show (lightS == w) = (w == lightS) from by rw [Bool.eq_iff_iff]; simp only [beq_iff_eq]; exact eq_comm]
  refine ⟨shp_s hw, by decide +kernel, ?_⟩
  show k (.vl (.bool (neg ^^ ((([PyData.str heavyS, PyData.str lightS] : List D)).any fun z => PyData.eqv z (.str w)))))
  rw [e]
  exact q
def CasT (d : D) : Prop := ∀ w c, d = .tuple [.str w, c] → PyData.strOk w = true
theorem is_case_g {d : D} (n : Int) (hs : CasT d) (q : Q (.vl (.bool (caseD n d))) none) : F_is_case [.int n, d] Q X := by
  unfold F_is_case m_is_case wpF
  refine ⟨rfl, ?_⟩
  refine seq_i fun N hN => ?_
  walk_at "vl"
  refine is_sized_g _ _ _ ?_
  walk_at "vl"
  cases d with
  | tuple ds =>
    match ds, hs, q with
    | [], _, q => exact ifT (by simp [szT]) q
    | [_], _, q => exact ifT (by simp [szT]) (by simpa [caseD] using q)
    | _ :: _ :: _ :: _, _, q => exact ifT (by simp [szT]; omega) (by simpa [caseD] using q)
    | [x, c], hs, q =>
      refine ifF (by simp [szT]) ?_
      walk_at "vl"
      cases x with
      | str w =>
        have hw := hs w c rfl
        refine ifF rfl ?_
        refine ⟨by omega, inD_two hw ?_⟩
        walk_at "vl"
        cases e : (w == heavyS || w == lightS) with
        | false =>
          refine ifT rfl ?_
          have e0 : caseD n (.tuple [.str w, c]) = ((w == heavyS || w == lightS) && inI 0 (n - 1) c) := rfl
          rw [e0, e] at q
          exact q
        | true =>
          refine ifF rfl ?_
          refine hN _ ?_
          walk_at "vl"
          refine is_within_g _ _ _ ?_
          have e0 : caseD n (.tuple [.str w, c]) = ((w == heavyS || w == lightS) && inI 0 (n - 1) c) := rfl
          rw [e0, e, Bool.true_and] at q
          exact ⟨True.intro, q⟩
      | _ => exact ifT rfl q
  | _ => exact ifT (by simp [szT]) q
theorem caseD_ok {n : Int} {c : Bool × Int} (h0 : 0 ≤ c.2) (h1 : c.2 < n) : caseD n (dCs c) = true := by
  obtain ⟨h, c⟩ := c
  have e : (wS h == heavyS || wS h == lightS) = true := by cases h <;> decide +kernel
  show ((wS h == heavyS || wS h == lightS) && inI 0 (n - 1) (.int c)) = true
  rw [e]
  simp [inI] at *
  omega
theorem cas_ok (c : Bool × Int) : CasT (dCs c) := fun w d e => by cases e; exact wS_ok _
/-! ### weighings -/
abbrev LP := List Int × List Int
abbrev dP2 (p : LP) : D := .tuple [tI p.1, tI p.2]
def condW (a b : List Int) : Bool := decide (a.length = b.length) && decide (0 < b.length) && !(a.any fun x => decide (x ∈ b))
def wgD (n : Int) : D → Bool
  | .tuple [x, y] => (lotD n x && lotD n y) && condW (rowOf x) (rowOf y)
  | _ => false
def SmP (d : D) : Prop := ∀ x y, d = .tuple [x, y] → SmT x ∧ SmT y
theorem smD_P {d : D} (h : smD d = true) : SmP d := fun x y e => by
  subst e
  exact ⟨smD_T (smD_at h x (by simp)), smD_T (smD_at h y (by simp))⟩
theorem SmT_tI {l : List Int} (h : l.length ≤ 1000) : SmT (tI l) := fun ds e => by cases e; simpa using h
theorem lotD_row {n : Int} {d : D} (h : lotD n d = true) : d = tI (rowOf d) := by
  cases d with
  | tuple ds =>
    have e0 : lotD n (.tuple ds) = (ds.all (inI 0 (n - 1)) && asc (intsOf ds)) := rfl
    rw [e0, Bool.and_eq_true] at h
    show PyData.tuple ds = .tuple ((intsOf ds).map .int)
    rw [← ints_of (List.all_eq_true.mpr fun x hx => inI_isI (List.all_eq_true.mp h.1 x hx))]
  | _ => exact absurd h (by simp [lotD])
theorem is_weighing_g {d : D} (n : Int) (hs : SmP d) (q : Q (.vl (.bool (wgD n d))) none) : F_is_weighing [.int n, .bool false, d] Q X := by
  unfold F_is_weighing m_is_weighing wpF
  refine ⟨rfl, ?_⟩
  refine seq_i fun N hN => ?_
  walk_at "vl"
  rw [Int.add_zero]
  refine hN _ ?_
  walk_at "vl"
  refine is_sized_g _ _ _ ?_
  walk_at "vl"
  cases d with
  | tuple ds =>
    match ds, hs, q with
    | [], _, q => exact ifT (by simp [szT]) q
    | [_], _, q => exact ifT (by simp [szT]) (by simpa [wgD] using q)
    | _ :: _ :: _ :: _, _, q => exact ifT (by simp [szT]; omega) (by simpa [wgD] using q)
    | [x, y], hs, q =>
      obtain ⟨hx, hy⟩ := hs x y rfl
      refine ifF (by simp [szT]) ?_
      walk_at "vl"
      refine ⟨_, rfl, rfl, by simp [sizeLine_eq], compW_map (fun d => .bool (lotD n d)) (fun d hd k1 k2 hk => ?_) ?_⟩
      · walk_at "vl"
        refine is_lot_g n ?_ ?_
        · rcases List.mem_cons.mp hd with rfl | hd
          · exact hx
          · rw [List.mem_singleton] at hd; subst hd; exact hy
        · walk_at "vl"
          exact hk
      · refine aa_allB (xs := [x, y]) (f := lotD n) ?_
        walk_at "vl"
        have e0 : wgD n (.tuple [x, y]) = ((lotD n x && lotD n y) && condW (rowOf x) (rowOf y)) := rfl
        rw [e0] at q
        have e1 : ([x, y].all (lotD n)) = (lotD n x && lotD n y) := by simp
        rw [e1]
        cases e2 : (lotD n x && lotD n y) with
        | false =>
          rw [e2] at q
          exact ifT rfl q
        | true =>
          rw [e2, Bool.true_and] at q
          rw [Bool.and_eq_true] at e2
          have ex := lotD_row e2.1
          have ey := lotD_row e2.2
          generalize rowOf x = a at *
          generalize rowOf y = b at *
          subst ex ey
          have la : a.length ≤ 1000 := by simpa using hx _ rfl
          have lb : b.length ≤ 1000 := by simpa using hy _ rfl
          refine ifF rfl ?_
          walk_at "vl"
          rw [List.length_map, List.length_map]
          have ec : condW a b = (decide (a.length = b.length) && decide (0 < b.length) && !(a.any fun x => decide (x ∈ b))) := rfl
          rw [ec] at q
          by_cases h1 : a.length = b.length
          · rw [if_pos (by omega)]
            by_cases h2 : 0 < b.length
            · rw [if_pos (by omega)]
              rw [decide_eq_true h1, decide_eq_true h2, Bool.true_and, Bool.true_and] at q
              refine ⟨_, rfl, rfl, by simp [sizeLine_eq]; omega, ?_⟩
              refine compW_fm PyData.int (fun x => some (.bool (decide (x ∈ b)))) _ [] (fun x hx k1 k2 hk => ?_) ?_
              · walk_at "vl"
                refine inD_ints ?_
                walk_at "vl"
                rw [Bool.false_xor]
                exact hk
              · rw [List.nil_append, fm_some]
                refine aa_anyB ?_
                walk_at "vl"
                exact q
            · rw [if_neg (by omega)]
              rw [decide_eq_false h2, Bool.and_false, Bool.false_and] at q
              exact q
          · rw [if_neg (by omega)]
            rw [decide_eq_false h1, Bool.false_and, Bool.false_and] at q
            exact q
  | _ => exact ifT (by simp [szT]) q
/-! ### sets -/
abbrev dS (ws : List LP) : D := .tuple (ws.map dP2)
def setD (n : Int) : D → Bool
  | .tuple ds => (decide (1 ≤ (ds.length : Int)) && decide ((ds.length : Int) ≤ 4)) && ds.all (wgD n)
  | _ => false
def SmS (d : D) : Prop := ∀ ds, d = .tuple ds → ∀ x ∈ ds, SmP x
theorem smD_S {d : D} (h : smD d = true) : SmS d := fun ds e x hx => by
  subst e
  exact smD_P (smD_at h x hx)
theorem is_set_g {d : D} (n : Int) (hs : SmS d) (q : Q (.vl (.bool (setD n d))) none) : F_is_set [.int n, d] Q X := by
  unfold F_is_set m_is_set wpF
  refine ⟨rfl, ?_⟩
  walk_at "vl"
  refine is_sized_g _ _ _ ?_
  walk_at "vl"
  cases d with
  | tuple ds =>
    have e0 : setD n (.tuple ds) = ((decide (1 ≤ (ds.length : Int)) && decide ((ds.length : Int) ≤ 4)) && ds.all (wgD n)) := rfl
    rw [e0] at q
    show if (decide (1 ≤ (ds.length : Int)) && decide ((ds.length : Int) ≤ 4)) = true then _ else _
    cases e1 : (decide (1 ≤ (ds.length : Int)) && decide ((ds.length : Int) ≤ 4)) with
    | false =>
      rw [e1] at q
      exact ifF rfl q
    | true =>
      rw [e1, Bool.true_and] at q
      refine ifT rfl ?_
      simp only [Bool.and_eq_true, decide_eq_true_eq] at e1
      walk_at "vl"
      refine ⟨_, rfl, rfl, by simp [sizeLine_eq]; omega, compW_map (fun d => .bool (wgD n d)) (fun d hd k1 k2 hk => ?_) ?_⟩
      · walk_at "vl"
        refine is_weighing_g n (hs _ rfl d hd) ?_
        walk_at "vl"
        exact hk
      · refine aa_allB ?_
        exact ⟨True.intro, q⟩
  | _ => exact ifF rfl q
structure WOk (n : Int) (p : LP) : Prop where
  lo : p.1.length = p.2.length
  ne : 0 < p.2.length
  sm : p.1.length ≤ 1000
  i1 : ∀ x ∈ p.1, 0 ≤ x ∧ x < n
  i2 : ∀ x ∈ p.2, 0 ≤ x ∧ x < n
  a1 : p.1.Pairwise (· < ·)
  a2 : p.2.Pairwise (· < ·)
  di : ∀ x ∈ p.1, x ∉ p.2
theorem WOk.wg {n : Int} {p : LP} (h : WOk n p) : wgD n (dP2 p) = true := by
  obtain ⟨a, b⟩ := p
  show ((lotD n (tI a) && lotD n (tI b)) && condW (rowOf (tI a)) (rowOf (tI b))) = true
  rw [lotD_ok h.i1 h.a1, lotD_ok h.i2 h.a2, show rowOf (tI a) = a from intsOf_map a, show rowOf (tI b) = b from intsOf_map b]
  have e : (a.any fun x => decide (x ∈ b)) = false := by
    rw [List.any_eq_false]
    intro x hx
    have := h.di x hx
    simpa using this
  have h1 := h.lo
  have h2 := h.ne
  simp only [condW, e, Bool.not_false, Bool.and_true, Bool.true_and, Bool.and_eq_true, decide_eq_true_eq]
  exact ⟨h1, h2⟩
theorem WOk.swap {n : Int} {p : LP} (h : WOk n p) : WOk n (p.2, p.1) := ⟨h.lo.symm, by have := h.lo; have := h.ne; show 0 < p.1.length; omega, by have := h.lo; have := h.sm; show p.2.length ≤ 1000; omega, h.i2, h.i1, h.a2, h.a1, fun x hx hy => h.di x hy hx⟩
theorem WOk.smp {n : Int} {p : LP} (h : WOk n p) : SmP (dP2 p) := fun x y e => by
  cases e
  exact ⟨SmT_tI h.sm, SmT_tI (by have := h.lo; have := h.sm; omega)⟩
def SOk (n : Int) (ws : List LP) : Prop := (1 ≤ ws.length ∧ ws.length ≤ 4) ∧ ∀ p ∈ ws, WOk n p
theorem SOk.set {n : Int} {ws : List LP} (h : SOk n ws) : setD n (dS ws) = true := by
  show ((decide (1 ≤ ((ws.map dP2).length : Int)) && decide (((ws.map dP2).length : Int) ≤ 4)) && (ws.map dP2).all (wgD n)) = true
  simp only [List.length_map, Bool.and_eq_true, decide_eq_true_eq, List.all_eq_true, List.mem_map]
  refine ⟨⟨by have := h.1.1; omega, by have := h.1.2; omega⟩, ?_⟩
  rintro d ⟨p, hp, rfl⟩
  exact (h.2 p hp).wg
theorem SOk.sms {n : Int} {ws : List LP} (h : SOk n ws) : SmS (dS ws) := fun ds e x hx => by
  cases e
  obtain ⟨p, hp, rfl⟩ := List.mem_map.mp hx
  exact (h.2 p hp).smp
/-! ### checks -/
theorem check_coins_g {d : D} (q1 : inI 3 13 d = true → Q (.vl .none) none) (q2 : inI 3 13 d = false → X ⟨"NoCoins", []⟩ none) : F_check_coins [d] Q X := by
  unfold F_check_coins m_check_coins wpF
  refine ⟨rfl, ?_⟩
  walk_at "vl"
  refine is_within_g _ _ _ ?_
  walk_at "vl"
  cases e : inI 3 13 d with
  | true => exact ifF rfl (q1 e)
  | false => exact ifT rfl (q2 e)
theorem check_set_i {n : Int} {d : D} (hn : 3 ≤ n ∧ n ≤ 13) (hs : SmS d) (q1 : setD n d = true → Q (.vl .none) none) (q2 : setD n d = false → X ⟨"NoSet", []⟩ none) : F_check_set [.int n, d] Q X := by
  unfold F_check_set m_check_set wpF
  refine ⟨rfl, ?_⟩
  refine seq_i fun N hN => ?_
  walk_at "vl"
  refine check_coins_g (fun _ => ?_) (fun e => ?_)
  · refine hN _ ?_
    walk_at "vl"
    refine is_set_g n hs ?_
    walk_at "vl"
    cases e : setD n d with
    | true => exact ifF rfl (q1 e)
    | false => exact ifT rfl (q2 e)
  · simp [inI] at e; omega
theorem check_set_n {d d' : D} (h : inI 3 13 d = false) (q : X ⟨"NoCoins", []⟩ none) : F_check_set [d, d'] Q X := by
  unfold F_check_set m_check_set wpF
  refine ⟨rfl, ?_⟩
  refine seq_i fun N hN => ?_
  walk_at "vl"
  refine check_coins_g (fun e => ?_) (fun _ => q)
  rw [h] at e; cases e

/-! ### results, codes -/
def resS (c : Bool × Int) (p : LP) : Str := if c.2 ∉ p.1 ∧ c.2 ∉ p.2 then "even" else if decide (c.2 ∈ p.1) = c.1 then "near" else "far"
theorem resS_ok (c : Bool × Int) (p : LP) : PyData.strOk (resS c p) = true := by
  unfold resS
  split
  · decide +kernel
  · split <;> decide +kernel
theorem raw_result_i {c : Bool × Int} {p : LP} (q : Q (.vl (.str (resS c p))) none) : F_raw_result [dCs c, tI p.1, tI p.2] Q X := by
  obtain ⟨h, c⟩ := c
  obtain ⟨a, b⟩ := p
  unfold F_raw_result m_raw_result wpF
  refine ⟨rfl, ?_⟩
  refine seq_i fun N hN => ?_
  walk_at "vl"
  refine hN _ (seq_i fun N hN => ?_)
  walk_at "vl"
  refine inD_ints ?_
  walk_at "vl"
  rw [Bool.true_xor]
  have fin : (c ∈ a ∨ c ∈ b) → N [.sh (dCs (h, c)), .sh (tI a), .sh (tI b), .sh (.str (wS h)), .sh (.int c)] := fun hm => by
    refine hN _ ?_
    walk_at "vl"
    refine inD_ints ?_
    walk_at "vl"
    rw [Bool.false_xor]
    refine eq_S ?_ (wS_ok h)
    walk_at "vl"
    rw [show (wS h == heavyS) = h from wS_heavy h]
    have e : resS (h, c) (a, b) = if decide (c ∈ a) = h then Str.ofString "near" else Str.ofString "far" := by
      unfold resS
      rw [if_neg (fun z => hm.elim z.1 z.2)]
    rw [e] at q
    by_cases e2 : decide (c ∈ a) = h
    · rw [if_pos e2] at q
      exact ifT (by simp [e2]) q
    · rw [if_neg e2] at q
      exact ifF (by simpa using e2) q
  by_cases h1 : c ∈ a
  · rw [decide_eq_true h1]
    exact ifF rfl (fin (.inl h1))
  · rw [decide_eq_false h1]
    refine ifT rfl ?_
    refine inD_ints ?_
    walk_at "vl"
    rw [Bool.true_xor]
    by_cases h2 : c ∈ b
    · rw [decide_eq_true h2]
      exact ifF rfl (fin (.inr h2))
    · rw [decide_eq_false h2]
      have e : resS (h, c) (a, b) = "even" := by
        unfold resS
        rw [if_pos ⟨h1, h2⟩]
      rw [e] at q
      exact ifT rfl q
abbrev dR (ws : List LP) (c : Bool × Int) : D := .tuple (ws.map fun p => .str (resS c p))
theorem raw_results_i {c : Bool × Int} {ws : List LP} (hl : ws.length ≤ 4) (q : Q (.vl (dR ws c)) none) : F_raw_results [dS ws, dCs c] Q X := by
  unfold F_raw_results m_raw_results wpF
  refine ⟨rfl, ?_⟩
  walk_at "vl"
  refine ⟨_, rfl, rfl, by simp [sizeLine_eq]; omega, ?_⟩
  refine compW_fm dP2 (fun p => some (.str (resS c p))) _ [] (fun p hp k1 k2 hk => ?_) ?_
  · walk_at "vl"
    refine raw_result_i ?_
    walk_at "vl"
    exact hk
  · rw [List.nil_append, fm_some]
    walk_at "vl"
    exact q
theorem results_of_i {n : Int} {c : Bool × Int} {ws : List LP} (hn : 3 ≤ n ∧ n ≤ 13) (hs : SOk n ws) (hc : 0 ≤ c.2 ∧ c.2 < n) (q : Q (.vl (dR ws c)) none) : F_results_of [.int n, dS ws, dCs c] Q X := by
  unfold F_results_of m_results_of wpF
  refine ⟨rfl, ?_⟩
  refine seq_i fun N hN => ?_
  walk_at "vl"
  refine check_set_i hn hs.sms (fun _ => ?_) (fun e => by rw [hs.set] at e; cases e)
  refine hN _ (seq_i fun N hN => ?_)
  walk_at "vl"
  refine is_case_g n (cas_ok c) ?_
  rw [caseD_ok hc.1 hc.2]
  walk_at "vl"
  refine hN _ ?_
  walk_at "vl"
  refine raw_results_i hs.1.2 ?_
  exact ⟨True.intro, q⟩
def code (p : LP) (c : Int) : Int := (if c ∈ p.1 then 1 else 0) - (if c ∈ p.2 then 1 else 0)
abbrev dK (ws : List LP) (c : Int) : D := tI (ws.map fun p => code p c)
theorem int_b {b : Bool} : (if b = true then (1 : Int) else 0) = if b then 1 else 0 := rfl
theorem raw_code_i {c : Int} {ws : List LP} (hl : ws.length ≤ 4) (q : Q (.vl (dK ws c)) none) : F_raw_code [dS ws, .int c] Q X := by
  unfold F_raw_code m_raw_code wpF
  refine ⟨rfl, ?_⟩
  walk_at "vl"
  refine ⟨_, rfl, rfl, by simp [sizeLine_eq]; omega, ?_⟩
  refine compW_fm dP2 (fun p => some (.int (code p c))) _ [] (fun p hp k1 k2 hk => ?_) ?_
  · obtain ⟨a, b⟩ := p
    walk_at "vl"
    refine inD_ints ?_
    walk_at "vl"
    refine inD_ints ?_
    walk_at "vl"
    have e : code (a, b) c = (if (false ^^ decide (c ∈ a)) = true then 1 else 0) - (if (false ^^ decide (c ∈ b)) = true then 1 else 0) := by simp [code]
    rw [e] at hk
    exact hk
  · rw [List.nil_append, fm_some]
    walk_at "vl"
    have e : dK ws c = .tuple (ws.map fun p => .int (code p c)) := by unfold dK tI; rw [List.map_map]; rfl
    rw [e] at q
    exact q
theorem code_of_i {n c : Int} {ws : List LP} (hn : 3 ≤ n ∧ n ≤ 13) (hs : SOk n ws) (hc : 0 ≤ c ∧ c < n) (q : Q (.vl (dK ws c)) none) : F_code_of [.int n, dS ws, .int c] Q X := by
  unfold F_code_of m_code_of wpF
  refine ⟨rfl, ?_⟩
  refine seq_i fun N hN => ?_
  walk_at "vl"
  refine check_set_i hn hs.sms (fun _ => ?_) (fun e => by rw [hs.set] at e; cases e)
  refine hN _ (seq_i fun N hN => ?_)
  walk_at "vl"
  refine is_within_i hc.1 (by omega) ?_
  walk_at "vl"
  refine hN _ ?_
  walk_at "vl"
  refine raw_code_i hs.1.2 ?_
  exact ⟨True.intro, q⟩
theorem zip_ff {α : Type} (f g : α → D) : ∀ l : List α, zip2D (l.map f) (l.map g) = l.map fun p => .tuple [f p, g p]
  | [] => rfl
  | x :: xs => by
    have := zip_ff f g xs
    unfold zip2D at *
    simp [this]
def apart (ws : List LP) (c c' : Bool × Int) : Int := ((ws.filter fun p => !(resS c p == resS c' p)).length : Int)
theorem raw_apart_i {c c' : Bool × Int} {ws : List LP} (hl : ws.length ≤ 4) (q : Q (.vl (.int (apart ws c c'))) none) : F_raw_apart [dS ws, dCs c, dCs c'] Q X := by
  unfold F_raw_apart m_raw_apart wpF
  refine ⟨rfl, ?_⟩
  walk_at "vl"
  refine raw_results_i hl ?_
  walk_at "vl"
  refine raw_results_i hl ?_
  walk_at "vl"
  refine ⟨_, _, rfl, rfl, by rw [zip2_len]; simp [sizeLine_eq]; omega, ?_⟩
  rw [zip_ff]
  refine compW_fm (fun p => .tuple [.str (resS c p), .str (resS c' p)]) (fun p => if (!(resS c p == resS c' p)) = true then some (.int 1) else none) _ [] (fun p hp k1 k2 hk => ?_) ?_
  · walk_at "vl"
    refine ne_S ?_ (resS_ok _ _) (resS_ok _ _)
    walk_at "vl"
    cases e : (!(resS c p == resS c' p)) with
    | true => rw [e] at hk; exact ifT rfl hk
    | false => rw [e] at hk; exact ifF rfl hk
  · rw [List.nil_append, fm_filter]
    walk_at "vl"
    rw [List.length_map]
    exact q
theorem apart_by_i {n : Int} {c c' : Bool × Int} {ws : List LP} (hn : 3 ≤ n ∧ n ≤ 13) (hs : SOk n ws) (hc : 0 ≤ c.2 ∧ c.2 < n) (hc' : 0 ≤ c'.2 ∧ c'.2 < n) (q : Q (.vl (.int (apart ws c c'))) none) : F_apart_by [.int n, dS ws, dCs c, dCs c'] Q X := by
  unfold F_apart_by m_apart_by wpF
  refine ⟨rfl, ?_⟩
  refine seq_i fun N hN => ?_
  walk_at "vl"
  refine check_set_i hn hs.sms (fun _ => ?_) (fun e => by rw [hs.set] at e; cases e)
  refine hN _ (seq_i fun N hN => ?_)
  walk_at "vl"
  refine ⟨by omega, ?_⟩
  simp only [b_apart_by_1]
  refine ⟨_, rfl, ?_⟩
  simp only [forW]
  walk_at "vl"
  refine is_case_g n (cas_ok c) ?_
  rw [caseD_ok hc.1 hc.2]
  walk_at "vl"
  refine is_case_g n (cas_ok c') ?_
  rw [caseD_ok hc'.1 hc'.2]
  walk_at "vl"
  refine hN _ ?_
  walk_at "vl"
  refine raw_apart_i hs.1.2 ?_
  exact ⟨True.intro, q⟩

/-! ### the law's own -/
theorem lawresult_i {c : Bool × Int} {p : LP} (hl : p.1.length + p.2.length ≤ 2000) (q : Q (.vl (.str (resS c p))) none) : F__law_result [dCs c, dP2 p] Q X := by
  obtain ⟨h, c⟩ := c
  obtain ⟨a, b⟩ := p
  have hl : a.length + b.length ≤ 2000 := hl
  unfold F__law_result m__law_result wpF
  refine ⟨rfl, ?_⟩
  refine seq_i fun N hN => ?_
  walk_at "vl"
  refine hN _ (seq_i fun N hN => ?_)
  walk_at "vl"
  refine ⟨by simp [sizeLine_eq]; omega, ?_⟩
  rw [← List.map_append]
  refine inD_ints ?_
  walk_at "vl"
  rw [Bool.true_xor]
  by_cases hm : c ∈ a ++ b
  · rw [decide_eq_true hm]
    refine ifF rfl ?_
    refine hN _ ?_
    walk_at "vl"
    refine inD_ints ?_
    walk_at "vl"
    rw [Bool.false_xor]
    refine eq_S ?_ (wS_ok h)
    walk_at "vl"
    rw [show (wS h == heavyS) = h from wS_heavy h]
    have e : resS (h, c) (a, b) = if decide (c ∈ a) = h then Str.ofString "near" else Str.ofString "far" := by
      unfold resS
      rw [if_neg (fun z => (List.mem_append.mp hm).elim z.1 z.2)]
    rw [e] at q
    by_cases e2 : decide (c ∈ a) = h
    · rw [if_pos e2] at q
      exact ifT (by simp [e2]) q
    · rw [if_neg e2] at q
      exact ifF (by simpa using e2) q
  · rw [decide_eq_false hm]
    have e : resS (h, c) (a, b) = "even" := by
      unfold resS
      rw [if_pos ⟨fun z => hm (List.mem_append.mpr (.inl z)), fun z => hm (List.mem_append.mpr (.inr z))⟩]
    rw [e] at q
    exact ifT rfl q
theorem lawresults_i {c : Bool × Int} {ws : List LP} (hl : ws.length ≤ 4) (hw : ∀ p ∈ ws, p.1.length + p.2.length ≤ 2000) (q : Q (.vl (dR ws c)) none) : F__law_results [dS ws, dCs c] Q X := by
  unfold F__law_results m__law_results wpF
  refine ⟨rfl, ?_⟩
  walk_at "vl"
  refine ⟨_, rfl, rfl, by simp [sizeLine_eq]; omega, ?_⟩
  refine compW_fm dP2 (fun p => some (.str (resS c p))) _ [] (fun p hp k1 k2 hk => ?_) ?_
  · walk_at "vl"
    refine lawresult_i (hw p hp) ?_
    walk_at "vl"
    exact hk
  · rw [List.nil_append, fm_some]
    walk_at "vl"
    exact q
theorem lawcode_i {c : Int} {ws : List LP} (hl : ws.length ≤ 4) (q : Q (.vl (dK ws c)) none) : F__law_code [dS ws, .int c] Q X := by
  unfold F__law_code m__law_code wpF
  refine ⟨rfl, ?_⟩
  walk_at "vl"
  refine ⟨_, rfl, rfl, by simp [sizeLine_eq]; omega, ?_⟩
  refine compW_fm dP2 (fun p => some (.int (code p c))) _ [] (fun p hp k1 k2 hk => ?_) ?_
  · obtain ⟨a, b⟩ := p
    walk_at "vl"
    refine inD_ints ?_
    walk_at "vl"
    refine inD_ints ?_
    walk_at "vl"
    have e : code (a, b) c = (if (false ^^ decide (c ∈ a)) = true then 1 else 0) - (if (false ^^ decide (c ∈ b)) = true then 1 else 0) := by simp [code]
    rw [e] at hk
    exact hk
  · rw [List.nil_append, fm_some]
    walk_at "vl"
    have e : dK ws c = .tuple (ws.map fun p => .int (code p c)) := by unfold dK tI; rw [List.map_map]; rfl
    rw [e] at q
    exact q
theorem lawapart_i {c c' : Bool × Int} {ws : List LP} (hl : ws.length ≤ 4) (q : Q (.vl (.int (apart ws c c'))) none) : F__law_apart [dR ws c, dR ws c'] Q X := by
  unfold F__law_apart m__law_apart wpF
  refine ⟨rfl, ?_⟩
  walk_at "vl"
  refine ⟨_, _, rfl, rfl, by rw [zip2_len]; simp [sizeLine_eq]; omega, ?_⟩
  rw [zip_ff]
  refine compW_fm (fun p => .tuple [.str (resS c p), .str (resS c' p)]) (fun p => if (!(resS c p == resS c' p)) = true then some (.int 1) else none) _ [] (fun p hp k1 k2 hk => ?_) ?_
  · walk_at "vl"
    refine ne_S ?_ (resS_ok _ _) (resS_ok _ _)
    walk_at "vl"
    cases e : (!(resS c p == resS c' p)) with
    | true => rw [e] at hk; exact ifT rfl hk
    | false => rw [e] at hk; exact ifF rfl hk
  · rw [List.nil_append, fm_filter]
    walk_at "vl"
    rw [List.length_map]
    exact q
/-- all cases of n coins -/
def casesL (n : Nat) : List (Bool × Int) := ((List.range n).map fun i : Nat => (true, (i : Int))) ++ (List.range n).map fun i : Nat => (false, (i : Int))
theorem casesL_mem {n : Nat} {c : Bool × Int} (h : c ∈ casesL n) : 0 ≤ c.2 ∧ c.2 < n := by
  rcases List.mem_append.mp h with h | h <;> obtain ⟨i, hi, rfl⟩ := List.mem_map.mp h <;> have := List.mem_range.mp hi <;> constructor <;> simp <;> omega
theorem rg0 (n : Nat) : rg 0 n = (List.range n).map fun i : Nat => PyData.int i := by
  unfold rg
  exact List.map_congr_left fun i _ => by simp
theorem lawcases_i {n : Nat} (hn : n ≤ 100) (q : Q (.vl (.list ((casesL n).map dCs))) none) : F__law_cases [.int n, .str "unknown"] Q X := by
  unfold F__law_cases m__law_cases wpF
  refine ⟨rfl, ?_⟩
  refine seq_i fun N hN => ?_
  walk_at "vl"
  refine eq_S ?_
  walk_at "vl"
  refine ifT (by decide +kernel) ⟨by omega, ?_⟩
  refine hN _ (seq_i fun N hN => ?_)
  walk_at "vl"
  refine ⟨by omega, hN _ (seq_i fun N hN => ?_)⟩
  walk_at "vl"
  refine ⟨_, rfl, ?_⟩
  have e0 : (n : Int).toNat = n := by omega
  have step : ∀ (h : Bool) (acc : List (Bool × Int)) (s2 s4 : Sl) (kk : Ks), acc.length ≤ 1000 → (∀ d, s2 ≠ .ow d) →
      kk.nx [.sh (.int n), .sh (.str "unknown"), s2, .ow (.list ((acc ++ (List.range n).map fun i : Nat => (h, (i : Int))).map dCs)), .sh (.str (wS h)), .no] →
      b__law_cases_1 [.sh (.int n), .sh (.str "unknown"), s2, .ow (.list (acc.map dCs)), .sh (.str (wS h)), .no] kk := by
    intro h acc s2 s4 kk ha h2 q
    unfold b__law_cases_1
    walk_at "vl"
    refine ⟨by omega, by omega, rfl, by simp [rg_len, sizeLine_eq]; omega, ?_⟩
    rw [e0, rg0]
    refine compW_fm (fun i : Nat => PyData.int i) (fun i => some (dCs (h, (i : Int)))) _ [] (fun i hi k1 k2 hk => ?_) ?_
    · walk_at "vl"
      exact ⟨by omega, hk⟩
    · rw [List.nil_append, fm_some]
      walk_at "vl"
      refine ⟨by simp [sizeLine_eq]; omega, ?_⟩
      rw [List.map_append, List.map_map] at q
      exact q
  simp only [forW]
  refine step true [] _ .no _ (by simp) (fun _ z => nomatch z) ?_
  refine step false _ _ .no _ (by simp; omega) (fun _ z => nomatch z) ?_
  refine hN _ ?_
  walk_at "vl"
  exact q
/-! ### weighings drawn -/
theorem atI_get {xs : List Int} {j : Int} (h0 : 0 ≤ j) (h1 : j < xs.length) : ∃ x, xs[j.toNat]? = some x := ⟨xs[j.toNat]'(by omega), List.getElem?_eq_getElem _⟩
theorem eraseIdx_map (f : Int → D) (l : List Int) (j : Nat) : (l.map f).eraseIdx j = (l.eraseIdx j).map f := by
  rw [List.eraseIdx_eq_take_drop_succ, List.eraseIdx_eq_take_drop_succ, List.map_append, List.map_take, List.map_drop]
theorem pops_w {s1 s3 s4 : Sl} {ρ0 : VL.Env} (h5 : ρ0[5]? = some .no) {k : List D → VL.Env → Prop} : ∀ (m i : Nat) (got left : List Int) (hand : D), HandOk hand → m ≤ left.length → left.length < 1000000000 →
    (∀ (more left' : List Int) (hand' : D), HandOk hand' → more.length = m → (more ++ left').Perm left → k ((got ++ more).map .int) [.ow hand', s1, .ow (.list (left'.map .int)), s3, s4, .no]) →
    compW [5] ρ0 (.nm 5) sYes (sMut 2 m_popAt (sCons (sCallIX 0 2 F__law_draw (sCons (sCall s_len (sCons (sBor 2) sNil)) sNil)) sNil)) (rg (i : Int) m) (got.map .int) [.ow hand, s1, .ow (.list (left.map .int)), s3, s4, .no] k
  | 0, i, got, left, hand, hh, hm, hl, q => by
    have := q [] left hand hh rfl (List.Perm.refl _)
    simpa [rg, compW] using this
  | m + 1, i, got, left, hand, hh, hm, hl, q => by
    rw [rg_cons]
    unfold compW
    walk_at "vl"
    refine draw_i hh (by simp; omega) fun j hand' h0 h1 hh' => ?_
    rw [List.length_map] at h1
    obtain ⟨x, ex⟩ := atI_get h0 h1
    walk_at "vl"
    refine ⟨h0, by omega, .int x, by rw [List.getElem?_map, ex]; rfl, ?_⟩
    have hlt : j.toNat < left.length := by omega
    have e5 : List.getD ρ0 5 Sl.no = .no := by rw [List.getD_eq_getElem?_getD, h5]; rfl
    rw [e5, eraseIdx_map]
    have pm : (x :: left.eraseIdx j.toNat).Perm left := by
      rw [List.eraseIdx_eq_take_drop_succ]
      have e2 : left = left.take j.toNat ++ x :: left.drop (j.toNat + 1) := by
        conv => lhs; rw [← List.take_append_drop j.toNat left, List.drop_eq_getElem_cons hlt]
        rw [show left[j.toNat] = x from by rw [List.getElem?_eq_getElem hlt] at ex; exact Option.some.inj ex]
      conv => rhs; rw [e2]
      exact (List.perm_middle).symm
    have := pops_w h5 m (i + 1) (got ++ [x]) (left.eraseIdx j.toNat) hand' hh' (by rw [List.length_eraseIdx_of_lt hlt]; omega) (by rw [List.length_eraseIdx_of_lt hlt]; omega) (k := k) (s1 := s1) (s3 := s3) (s4 := s4)
      (fun more left' hand2 hh2 hm2 hp2 => by
        rw [List.append_assoc]
        refine q (x :: more) left' hand2 hh2 (by simp [hm2]) ?_
        exact (List.Perm.cons x hp2).trans pm)
    rw [List.map_append] at this
    exact this
theorem cutL_to {ds : List D} (m : Nat) : VL.cutD ds none (some (m : Int)) = ds.take m := by
  unfold VL.cutD
  have : HT.sIx ds.length ds.length (some (m : Int)) = min m ds.length := HT.sIx_nat ds.length ds.length m
  rw [this, HT.sIx_none]
  simp
theorem cutL_from {ds : List D} (m : Nat) : VL.cutD ds (some (m : Int)) none = ds.drop m := by
  unfold VL.cutD
  have : HT.sIx ds.length 0 (some (m : Int)) = min m ds.length := HT.sIx_nat ds.length 0 m
  rw [this, HT.sIx_none, List.take_of_length_le (by simp)]
  by_cases h : m ≤ ds.length
  · rw [Nat.min_eq_left h]
  · rw [Nat.min_eq_right (by omega), List.drop_of_length_le (by omega), List.drop_of_length_le (by omega)]
def rgI (n : Nat) : List Int := (List.range n).map fun i : Nat => (i : Int)
theorem rgI_map (n : Nat) : rg 0 n = (rgI n).map .int := by rw [rg0]; unfold rgI; rw [List.map_map]; rfl
theorem rgI_nd (n : Nat) : (rgI n).Nodup := by
  unfold rgI
  exact List.Pairwise.map _ (fun a b h => by intro e; exact h (by omega)) List.nodup_range
theorem rgI_mem {n : Nat} {x : Int} (h : x ∈ rgI n) : 0 ≤ x ∧ x < n := by
  obtain ⟨i, hi, rfl⟩ := List.mem_map.mp h
  have := List.mem_range.mp hi
  omega
theorem rgI_len (n : Nat) : (rgI n).length = n := by simp [rgI]
/-- what is taken out of all coins makes a weighing -/
theorem took_ok {n m : Nat} {more left' : List Int} (hm : 1 ≤ m) (hn : n ≤ 1000) (hl : more.length = 2 * m) (hp : (more ++ left').Perm (rgI n)) : WOk n (sortI (more.take m), sortI (more.drop m)) := by
  have nd : (more ++ left').Nodup := hp.nodup_iff.mpr (rgI_nd n)
  have nm : more.Nodup := (List.nodup_append.mp nd).1
  have ms : ∀ x ∈ more, 0 ≤ x ∧ x < n := fun x hx => rgI_mem (hp.mem_iff.mp (List.mem_append.mpr (.inl hx)))
  have n2 : more.length ≤ n := by
    have := hp.length_eq
    rw [List.length_append, rgI_len] at this
    omega
  have e : more.take m ++ more.drop m = more := List.take_append_drop m more
  have nd2 : (more.take m ++ more.drop m).Nodup := by rw [e]; exact nm
  obtain ⟨d1, d2, d3⟩ := List.nodup_append.mp nd2
  refine ⟨by simp [sortI_len]; omega, by simp [sortI_len]; omega, by simp [sortI_len]; omega, fun x hx => ms x (List.mem_of_mem_take (mem_sortI.mp hx)), fun x hx => ms x (List.mem_of_mem_drop (mem_sortI.mp hx)), sortI_lt d1, sortI_lt d2, fun x h1 h2 => ?_⟩
  exact d3 x (mem_sortI.mp h1) x (mem_sortI.mp h2) rfl
theorem lawweighing_i {n : Nat} {hand : D} (hn : 3 ≤ n ∧ n ≤ 13) (hh : HandOk hand) (q : ∀ p hand', WOk n p → HandOk hand' → Q (.vl (dP2 p)) (some hand')) : F__law_weighing [hand, .int n] Q X := by
  unfold F__law_weighing m__law_weighing
  refine ⟨_, _, rfl, rfl, ?_⟩
  refine seq_i fun N hN => ?_
  walk_at "vl"
  refine ⟨by omega, by omega, ?_⟩
  rw [show (n : Int).toNat = n by omega, rgI_map]
  refine hN _ (seq_i fun N hN => ?_)
  walk_at "vl"
  refine .inl ⟨by omega, by decide, ?_⟩
  refine draw_i hh (by omega) fun j hand' h0 h1 hh' => ?_
  obtain ⟨m0, rfl⟩ := Int.eq_ofNat_of_zero_le h0
  have hm : m0 < n / 2 := by omega
  clear h0 h1 hh
  walk_at "vl"
  refine hN _ (seq_i fun N hN => ?_)
  walk_at "vl"
  refine ⟨.inl (cmul_s (by omega) (by omega)), by omega, by omega, rfl, by rw [rg_len, sizeLine_eq]; omega, ?_⟩
  rw [show (2 * (1 + (m0 : Int))).toNat = 2 * (1 + m0) by omega]
  refine pops_w (by rfl) (2 * (1 + m0)) 0 [] (rgI n) hand' hh' (by rw [rgI_len]; omega) (by rw [rgI_len]; omega) fun more left' hand2 hh2 hl hp => ?_
  rw [List.nil_append]
  have ok := took_ok (m := 1 + m0) (by omega) (by omega) hl hp
  refine hN _ ?_
  walk_at "vl"
  have em : (1 + (m0 : Int)) = ((1 + m0 : Nat) : Int) := by omega
  rw [em, cutL_to, cutL_from, ← List.map_take, ← List.map_drop]
  refine srt_i ?_
  walk_at "vl"
  refine srt_i ?_
  walk_at "vl"
  exact ⟨by omega, q _ _ ok hh2⟩
/-- a set is drawn -/
theorem set_w {n : Nat} (hn : 3 ≤ n ∧ n ≤ 13) {s2 : Sl} {ρ0 : VL.Env} (h3 : ρ0[3]? = some .no) {k : List D → VL.Env → Prop} : ∀ (m i : Nat) (got : List LP) (hand : D), HandOk hand →
    (∀ (more : List LP) (hand' : D), HandOk hand' → more.length = m → (∀ p ∈ more, WOk n p) → k ((got ++ more).map dP2) [.ow hand', .sh (.int n), s2, .no]) →
    compW [3] ρ0 (.nm 3) sYes (sCallIX 0 2 F__law_weighing (sCons (sVar 1) sNil)) (rg (i : Int) m) (got.map dP2) [.ow hand, .sh (.int n), s2, .no] k
  | 0, i, got, hand, hh, q => by
    have := q [] hand hh rfl (fun _ z => nomatch z)
    simpa [rg, compW] using this
  | m + 1, i, got, hand, hh, q => by
    rw [rg_cons]
    unfold compW
    walk_at "vl"
    refine lawweighing_i hn hh fun p hand' hp hh' => ?_
    walk_at "vl"
    have e3 : List.getD ρ0 3 Sl.no = .no := by rw [List.getD_eq_getElem?_getD, h3]; rfl
    rw [e3]
    have := set_w hn h3 m (i + 1) (got ++ [p]) hand' hh' (k := k) (s2 := s2) (fun more hand2 hh2 hm2 hw2 => by
      rw [List.append_assoc]
      exact q (p :: more) hand2 hh2 (by simp [hm2]) fun x hx => by
        rcases List.mem_cons.mp hx with rfl | hx
        · exact hp
        · exact hw2 x hx)
    rw [List.map_append] at this
    exact this
theorem lawset_i {n : Nat} {hand : D} (hn : 3 ≤ n ∧ n ≤ 13) (hh : HandOk hand) (q : ∀ ws hand', SOk n ws → HandOk hand' → Q (.vl (dS ws)) (some hand')) : F__law_set [hand, .int n, .int 4] Q X := by
  unfold F__law_set m__law_set
  refine ⟨_, _, rfl, rfl, ?_⟩
  walk_at "vl"
  refine draw_i hh (by omega) fun j hand' h0 h1 hh' => ?_
  obtain ⟨m0, rfl⟩ := Int.eq_ofNat_of_zero_le h0
  walk_at "vl"
  refine ⟨by omega, by omega, rfl, by rw [rg_len, sizeLine_eq]; omega, ?_⟩
  rw [show (1 + (m0 : Int)).toNat = 1 + m0 by omega]
  refine set_w hn (by rfl) (1 + m0) 0 [] hand' hh' fun more hand2 hh2 hl hw => ?_
  walk_at "vl"
  exact q more hand2 ⟨⟨by omega, by omega⟩, hw⟩ hh2
/-- no number of coins -/
theorem nocoins_i {hand : D} (hh : HandOk hand) (q : ∀ d hand', inI 3 13 d = false → HandOk hand' → Q (.vl d) (some hand')) : F__law_no_coins [hand] Q X := by
  unfold F__law_no_coins m__law_no_coins
  refine ⟨_, _, rfl, rfl, ?_⟩
  walk_at "vl"
  refine ⟨by omega, any_l hh (by simp) fun y hand' hy hh' => ?_⟩
  walk_at "vl"
  refine q y hand' ?_ hh'
  simp only [List.mem_cons, List.not_mem_nil, or_false] at hy
  rcases hy with rfl | rfl | rfl | rfl | rfl <;> simp [inI]
/-- no set of weighings -/
theorem noset_i {n : Nat} {hand : D} (hn : 3 ≤ n ∧ n ≤ 13) (hh : HandOk hand) (q : ∀ d hand', setD n d = false → SmS d → HandOk hand' → Q (.vl d) (some hand')) : F__law_no_set [hand] Q X := by
  unfold F__law_no_set m__law_no_set
  refine ⟨_, _, rfl, rfl, ?_⟩
  refine seq_i fun N hN => ?_
  walk_at "vl"
  (repeat (with_reducible refine ⟨by first | omega | (simp; done) | decide, ?_⟩))
  refine hN _ (seq_i fun N hN => ?_)
  walk_at "vl"
  (repeat (with_reducible refine ⟨by first | omega | (simp; done) | decide, ?_⟩))
  refine hN _ ?_
  walk_at "vl"
  refine any_l hh (by simp) fun y hand' hy hh' => ?_
  have hy' := hy
  simp only [List.mem_cons, List.not_mem_nil, or_false, List.cons_append, List.nil_append, Int.reduceToNat, List.replicate_succ, List.replicate_zero, List.flatten_cons, List.flatten_nil, List.append_nil] at hy
  have h0 : inI 0 ((n : Int) - 1) (.int 0) = true := by simp [inI]; omega
  have h1 : inI 0 ((n : Int) - 1) (.int 1) = true := by simp [inI]; omega
  have h9 : inI 0 ((n : Int) - 1) (.int 99) = false := by simp [inI]; omega
  walk_at "vl"
  refine q y hand' ?_ ?_ hh'
  · rcases hy with rfl | rfl | rfl | rfl | rfl | rfl | rfl | rfl | rfl <;> simp [setD, wgD, lotD, condW, rowOf, intsOf, asc, h0, h1, h9]
  · rcases hy with rfl | rfl | rfl | rfl | rfl | rfl | rfl | rfl | rfl <;> exact smD_S (by simp [smD, smA])

/-! ### what is refused -/
theorem results_of_n {d d' d2 : D} (h : inI 3 13 d = false) (q : X ⟨"NoCoins", []⟩ none) : F_results_of [d, d', d2] Q X := by
  unfold F_results_of m_results_of wpF
  refine ⟨rfl, ?_⟩
  refine seq_i fun N hN => ?_
  walk_at "vl"
  exact check_set_n h q
theorem results_of_s {n : Int} {d d2 : D} (hn : 3 ≤ n ∧ n ≤ 13) (h : setD n d = false) (hs : SmS d) (q : X ⟨"NoSet", []⟩ none) : F_results_of [.int n, d, d2] Q X := by
  unfold F_results_of m_results_of wpF
  refine ⟨rfl, ?_⟩
  refine seq_i fun N hN => ?_
  walk_at "vl"
  exact check_set_i hn hs (fun e => by rw [h] at e; cases e) fun _ => q
theorem results_of_c {n : Int} {ws : List LP} {d : D} (hn : 3 ≤ n ∧ n ≤ 13) (hs : SOk n ws) (h : caseD n d = false) (hc : CasT d) (q : X ⟨"NoCase", []⟩ none) : F_results_of [.int n, dS ws, d] Q X := by
  unfold F_results_of m_results_of wpF
  refine ⟨rfl, ?_⟩
  refine seq_i fun N hN => ?_
  walk_at "vl"
  refine check_set_i hn hs.sms (fun _ => ?_) (fun e => by rw [hs.set] at e; cases e)
  refine hN _ (seq_i fun N hN => ?_)
  walk_at "vl"
  refine is_case_g n hc ?_
  rw [h]
  walk_at "vl"
  exact q
theorem code_of_n {d d' d2 : D} (h : inI 3 13 d = false) (q : X ⟨"NoCoins", []⟩ none) : F_code_of [d, d', d2] Q X := by
  unfold F_code_of m_code_of wpF
  refine ⟨rfl, ?_⟩
  refine seq_i fun N hN => ?_
  walk_at "vl"
  exact check_set_n h q
theorem code_of_s {n : Int} {d d2 : D} (hn : 3 ≤ n ∧ n ≤ 13) (h : setD n d = false) (hs : SmS d) (q : X ⟨"NoSet", []⟩ none) : F_code_of [.int n, d, d2] Q X := by
  unfold F_code_of m_code_of wpF
  refine ⟨rfl, ?_⟩
  refine seq_i fun N hN => ?_
  walk_at "vl"
  exact check_set_i hn hs (fun e => by rw [h] at e; cases e) fun _ => q
theorem code_of_c {n : Int} {ws : List LP} {d : D} (hn : 3 ≤ n ∧ n ≤ 13) (hs : SOk n ws) (h : inI 0 (n - 1) d = false) (q : X ⟨"NoCoin", []⟩ none) : F_code_of [.int n, dS ws, d] Q X := by
  unfold F_code_of m_code_of wpF
  refine ⟨rfl, ?_⟩
  refine seq_i fun N hN => ?_
  walk_at "vl"
  refine check_set_i hn hs.sms (fun _ => ?_) (fun e => by rw [hs.set] at e; cases e)
  refine hN _ (seq_i fun N hN => ?_)
  walk_at "vl"
  refine is_within_g _ _ _ ?_
  rw [h]
  walk_at "vl"
  exact q
theorem apart_by_s {n : Int} {d d2 d3 : D} (hn : 3 ≤ n ∧ n ≤ 13) (h : setD n d = false) (hs : SmS d) (q : X ⟨"NoSet", []⟩ none) : F_apart_by [.int n, d, d2, d3] Q X := by
  unfold F_apart_by m_apart_by wpF
  refine ⟨rfl, ?_⟩
  refine seq_i fun N hN => ?_
  walk_at "vl"
  exact check_set_i hn hs (fun e => by rw [h] at e; cases e) fun _ => q
theorem apart_by_1 {n : Int} {ws : List LP} {d d2 : D} (hn : 3 ≤ n ∧ n ≤ 13) (hs : SOk n ws) (h : caseD n d = false) (hc : CasT d) (q : X ⟨"NoCase", []⟩ none) : F_apart_by [.int n, dS ws, d, d2] Q X := by
  unfold F_apart_by m_apart_by wpF
  refine ⟨rfl, ?_⟩
  refine seq_i fun N hN => ?_
  walk_at "vl"
  refine check_set_i hn hs.sms (fun _ => ?_) (fun e => by rw [hs.set] at e; cases e)
  refine hN _ (seq_i fun N hN => ?_)
  walk_at "vl"
  refine ⟨by omega, ?_⟩
  simp only [b_apart_by_1]
  refine ⟨_, rfl, ?_⟩
  simp only [forW]
  walk_at "vl"
  refine is_case_g n hc ?_
  rw [h]
  walk_at "vl"
  exact q
theorem apart_by_2 {n : Int} {ws : List LP} {c : Bool × Int} {d : D} (hn : 3 ≤ n ∧ n ≤ 13) (hs : SOk n ws) (hcc : 0 ≤ c.2 ∧ c.2 < n) (h : caseD n d = false) (hc : CasT d) (q : X ⟨"NoCase", []⟩ none) : F_apart_by [.int n, dS ws, dCs c, d] Q X := by
  unfold F_apart_by m_apart_by wpF
  refine ⟨rfl, ?_⟩
  refine seq_i fun N hN => ?_
  walk_at "vl"
  refine check_set_i hn hs.sms (fun _ => ?_) (fun e => by rw [hs.set] at e; cases e)
  refine hN _ (seq_i fun N hN => ?_)
  walk_at "vl"
  refine ⟨by omega, ?_⟩
  simp only [b_apart_by_1]
  refine ⟨_, rfl, ?_⟩
  simp only [forW]
  walk_at "vl"
  refine is_case_g n (cas_ok c) ?_
  rw [caseD_ok hcc.1 hcc.2]
  walk_at "vl"
  refine is_case_g n hc ?_
  rw [h]
  walk_at "vl"
  exact q
theorem rev_SOk {n : Int} {ws : List LP} (h : SOk n ws) : SOk n (ws.map fun p => (p.2, p.1)) := ⟨by simpa using h.1, fun p hp => by
  obtain ⟨p', hp', rfl⟩ := List.mem_map.mp hp
  exact (h.2 p' hp').swap⟩
theorem rev_res {n : Int} {ws : List LP} {c : Bool × Int} (h : SOk n ws) : dR (ws.map fun p => (p.2, p.1)) (!c.1, c.2) = dR ws c := by
  unfold dR
  rw [List.map_map]
  congr 1
  refine List.map_congr_left fun p hp => ?_
  have di := (h.2 p hp).di
  obtain ⟨a, b⟩ := p
  obtain ⟨w, c⟩ := c
  show PyData.str (resS (!w, c) (b, a)) = PyData.str (resS (w, c) (a, b))
  congr 1
  have d1 : c ∈ a → c ∉ b := di c
  unfold resS
  by_cases h1 : c ∈ a <;> by_cases h2 : c ∈ b <;> simp [h1, h2]
  exact absurd h2 (d1 h1)
theorem gd_R {ws : List LP} {c : Bool × Int} : gd (dR ws c) = true := by
  rw [gd]
  exact gdA_of fun d hd => by obtain ⟨p, _, rfl⟩ := List.mem_map.mp hd; exact resS_ok c p
theorem dep_R {ws : List LP} {c : Bool × Int} : (dR ws c).depth ≤ 64 := by
  exact Nat.le_trans (dep_tup (ds := ws.map fun p => PyData.str (resS c p)) (n := 0) fun d hd => by obtain ⟨p, _, rfl⟩ := List.mem_map.mp hd; simp [PyData.depth]) (by omega)
theorem gd_tI {l : List Int} : gd (tI l) = true := by
  rw [gd]
  exact gdA_of fun d hd => by obtain ⟨p, _, rfl⟩ := List.mem_map.mp hd; rfl
theorem dep_tI {l : List Int} : (tI l).depth ≤ 64 := by
  exact Nat.le_trans (dep_tup (ds := l.map PyData.int) (n := 0) fun d hd => by obtain ⟨p, _, rfl⟩ := List.mem_map.mp hd; simp [PyData.depth]) (by omega)

/-! ### the law -/
theorem turn {ns : List Int} {hand : D} {s2 s3 s4 s5 s6 s7 s8 s9 s10 s11 s12 s13 s14 : Sl} {k : Ks} (hh : HandOk hand) (h14 : ∀ d, s14 ≠ .ow d)
    (q : ∀ hand' s3 s4 s5 s6 s7 s8 s9 s10 s11 s12 s13, HandOk hand' → k.nx [.sc ns, .ow hand', s2, s3, s4, s5, s6, s7, s8, s9, s10, s11, s12, s13, s14]) :
    b_law_1 [.sc ns, .ow hand, s2, s3, s4, s5, s6, s7, s8, s9, s10, s11, s12, s13, s14] k := by
  unfold b_law_1
  refine seq_i fun N hN => ?_
  walk_at "vl"
  refine draw_i hh (by omega) fun j hand1 h0 h1 hh1 => ?_
  obtain ⟨n0, rfl⟩ := Int.eq_ofNat_of_zero_le h0
  obtain ⟨n, rfl⟩ : ∃ n : Nat, n = 3 + n0 := ⟨_, rfl⟩
  have hn : 3 ≤ 3 + n0 ∧ 3 + n0 ≤ 13 := by omega
  have en : (3 : Int) + (n0 : Int) = ((3 + n0 : Nat) : Int) := by omega
  walk_at "vl"
  rw [en]
  generalize 3 + n0 = n at hn
  clear h0 h1 en hh
  have hnI : (3 : Int) ≤ n ∧ (n : Int) ≤ 13 := by omega
  refine hN _ (seq_i fun N hN => ?_)
  walk_at "vl"
  refine lawset_i hn hh1 fun ws hand2 hs hh2 => ?_
  walk_at "vl"
  refine hN _ (seq_i fun N hN => ?_)
  walk_at "vl"
  refine lawcases_i (by omega) ?_
  walk_at "vl"
  have hcl : 0 < ((casesL n).map dCs).length ∧ ((casesL n).map dCs).length < 1000000000 := by simp [casesL]; omega
  refine any_l hh2 hcl fun y hand3 hy hh3 => ?_
  obtain ⟨c, hc, rfl⟩ := List.mem_map.mp hy
  have hc := casesL_mem hc
  walk_at "vl"
  refine lawcases_i (by omega) ?_
  walk_at "vl"
  refine any_l hh3 hcl fun y hand4 hy hh4 => ?_
  obtain ⟨c', hc', rfl⟩ := List.mem_map.mp hy
  have hc' := casesL_mem hc'
  walk_at "vl"
  (repeat (with_reducible refine ⟨by first | omega | (simp; done) | decide, ?_⟩))
  clear hcl hh2 hh3
  have hw : ∀ p ∈ ws, p.1.length + p.2.length ≤ 2000 := fun p hp => by have := (hs.2 p hp).sm; have := (hs.2 p hp).lo; omega
  refine hN _ (seq_i fun N hN => ?_)
  walk_at "vl"
  refine lawresults_i hs.1.2 hw ?_
  walk_at "vl"
  refine hN _ (seq_i fun N hN => ?_)
  walk_at "vl"
  refine results_of_i hnI hs hc ?_
  walk_at "vl"
  refine ne_self gd_R dep_R ?_
  walk_at "vl"
  refine code_of_i hnI hs hc ?_
  walk_at "vl"
  refine lawcode_i hs.1.2 ?_
  walk_at "vl"
  refine ne_self gd_tI dep_tI ?_
  walk_at "vl"
  refine hN _ (seq_i fun N hN => ?_)
  walk_at "vl"
  refine eq_S ?_ (wS_ok c.1)
  walk_at "vl"
  have tu : N [.sc ns, .ow hand4, s2, .sh (.int n), .sh (dS ws), .sh (dCs c), .sh (dCs c'), .sh (dR ws c), .sh (dCs (!c.1, c.2)), s9, s10, s11, s12, s13, s14] → (if (wS c.1 == heavyS) = true then 2 ≤ 1000 ∧ N [.sc ns, .ow hand4, s2, .sh (.int n), .sh (dS ws), .sh (dCs c), .sh (dCs c'), .sh (dR ws c), .sh (.tuple [.str lightS, .int c.2]), s9, s10, s11, s12, s13, s14]
      else 2 ≤ 1000 ∧ N [.sc ns, .ow hand4, s2, .sh (.int n), .sh (dS ws), .sh (dCs c), .sh (dCs c'), .sh (dR ws c), .sh (.tuple [.str heavyS, .int c.2]), s9, s10, s11, s12, s13, s14]) := by
    obtain ⟨h, c⟩ := c
    rw [wS_heavy h]
    cases h
    · intro z; exact ⟨by omega, z⟩
    · intro z; exact ⟨by omega, z⟩
  refine tu ?_
  clear tu
  refine hN _ (seq_i fun N hN => ?_)
  walk_at "vl"
  refine ⟨_, rfl, okv1 (by simpa using h14), by simp [sizeLine_eq]; have := hs.1.2; omega, ?_⟩
  refine compW_fm dP2 (fun p => some (dP2 (p.2, p.1))) _ [] (fun p hp k1 k2 hk => ?_) ?_
  · walk_at "vl"
    exact hk
  rw [List.nil_append, fm_some]
  walk_at "vl"
  have er : (ws.map fun p => dP2 (p.2, p.1)) = (ws.map fun p => (p.2, p.1)).map dP2 := by rw [List.map_map]; rfl
  rw [er]
  refine results_of_i hnI (rev_SOk hs) (c := (!c.1, c.2)) hc ?_
  rw [rev_res hs]
  walk_at "vl"
  refine ne_self gd_R dep_R ?_
  walk_at "vl"
  refine hN _ (seq_i fun N hN => ?_)
  walk_at "vl"
  refine apart_by_i hnI hs hc hc' ?_
  walk_at "vl"
  refine lawresults_i hs.1.2 hw ?_
  walk_at "vl"
  refine lawapart_i hs.1.2 ?_
  walk_at "vl"
  rw [if_neg (by simp)]
  refine hN _ (seq_i fun N hN => ?_)
  walk_at "vl"
  refine nocoins_i hh4 fun bad hand5 hbad hh5 => ?_
  walk_at "vl"
  refine noset_i hn hh5 fun off hand6 hoff hsoff hh6 => ?_
  walk_at "vl"
  (repeat (with_reducible refine ⟨by first | omega | (simp; done) | decide, ?_⟩))
  refine hN _ (seq_i fun N hN => ?_)
  walk_at "vl"
  (repeat (with_reducible refine ⟨by first | omega | (simp; done) | decide, ?_⟩))
  refine any_l hh6 (by simp) fun last hand7 hy hh7 => ?_
  have hlast : caseD n last = false ∧ CasT last := by
    simp only [List.mem_cons, List.not_mem_nil, or_false] at hy
    rcases hy with rfl | rfl | rfl | rfl | rfl | rfl
    · exact ⟨rfl, fun w c e => by cases e⟩
    · exact ⟨rfl, fun w c e => by cases e⟩
    · exact ⟨rfl, fun w c e => by cases e⟩
    · refine ⟨?_, fun w c e => by cases e; decide +kernel⟩
      have e0 : caseD n (.tuple [.str heavyS, .int n]) = ((heavyS == heavyS || heavyS == lightS) && inI 0 ((n : Int) - 1) (.int n)) := rfl
      rw [e0]
      have : inI 0 ((n : Int) - 1) (.int n) = false := by simp [inI]; omega
      rw [this, Bool.and_false]
    · refine ⟨?_, fun w c e => by cases e; decide +kernel⟩
      have e0 : caseD n (.tuple [.str (Str.ofString "even"), .int 0]) = ((Str.ofString "even" == heavyS || Str.ofString "even" == lightS) && inI 0 ((n : Int) - 1) (.int 0)) := rfl
      rw [e0, show (Str.ofString "even" == heavyS || Str.ofString "even" == lightS) = false by decide +kernel, Bool.false_and]
    · exact ⟨rfl, fun w c e => by cases e⟩
  clear hy
  walk_at "vl"
  refine hN _ (seq_i fun N hN => ?_)
  walk_at "vl"
  (repeat (with_reducible refine ⟨by first | omega | (simp; done) | decide, ?_⟩))
  refine any_l hh7 (by simp) fun odd hand8 hy hh8 => ?_
  have hodd : inI 0 ((n : Int) - 1) odd = false := by
    simp only [List.mem_cons, List.not_mem_nil, or_false] at hy
    rcases hy with rfl | rfl | rfl | rfl | rfl <;> simp [inI]
    omega
  clear hy
  walk_at "vl"
  refine hN _ (seq_i fun N hN => ?_)
  simp only [lm_law_1]
  walk_at "vl"
  refine results_of_n hbad ⟨_, rfl, ?_⟩
  (repeat (with_reducible refine ⟨by first | omega | (simp; done) | decide, ?_⟩))
  refine hN _ (seq_i fun N hN => ?_)
  simp only [lm_law_2]
  walk_at "vl"
  refine results_of_s hnI hoff hsoff ⟨_, rfl, ?_⟩
  (repeat (with_reducible refine ⟨by first | omega | (simp; done) | decide, ?_⟩))
  refine hN _ (seq_i fun N hN => ?_)
  simp only [lm_law_3]
  walk_at "vl"
  refine results_of_c hnI hs hlast.1 hlast.2 ⟨_, rfl, ?_⟩
  (repeat (with_reducible refine ⟨by first | omega | (simp; done) | decide, ?_⟩))
  refine hN _ (seq_i fun N hN => ?_)
  simp only [lm_law_4]
  walk_at "vl"
  refine code_of_n hbad ⟨_, rfl, ?_⟩
  (repeat (with_reducible refine ⟨by first | omega | (simp; done) | decide, ?_⟩))
  refine hN _ (seq_i fun N hN => ?_)
  simp only [lm_law_5]
  walk_at "vl"
  refine code_of_s hnI hoff hsoff ⟨_, rfl, ?_⟩
  (repeat (with_reducible refine ⟨by first | omega | (simp; done) | decide, ?_⟩))
  refine hN _ (seq_i fun N hN => ?_)
  simp only [lm_law_6]
  walk_at "vl"
  refine code_of_c hnI hs hodd ⟨_, rfl, ?_⟩
  (repeat (with_reducible refine ⟨by first | omega | (simp; done) | decide, ?_⟩))
  refine hN _ (seq_i fun N hN => ?_)
  simp only [lm_law_7]
  walk_at "vl"
  refine apart_by_s hnI hoff hsoff ⟨_, rfl, ?_⟩
  (repeat (with_reducible refine ⟨by first | omega | (simp; done) | decide, ?_⟩))
  refine hN _ (seq_i fun N hN => ?_)
  simp only [lm_law_8]
  walk_at "vl"
  refine apart_by_1 hnI hs hlast.1 hlast.2 ⟨_, rfl, ?_⟩
  (repeat (with_reducible refine ⟨by first | omega | (simp; done) | decide, ?_⟩))
  refine hN _ (seq_i fun N hN => ?_)
  simp only [lm_law_9]
  walk_at "vl"
  refine apart_by_2 hnI hs hc hlast.1 hlast.2 ⟨_, rfl, ?_⟩
  (repeat (with_reducible refine ⟨by first | omega | (simp; done) | decide, ?_⟩))
  refine hN _ ?_
  walk_at "vl"
  (repeat (with_reducible refine ⟨by first | omega | (simp; done) | decide, ?_⟩))
  refine ne_self (by decide +kernel) (by simp [PyData.depth, PyData.depthAll]) ?_
  walk_at "vl"
  exact q _ _ _ _ _ _ _ _ _ _ _ _ hh8
theorem turns {ns : List Int} {k : Ks} {s14 : Sl} (h14 : ∀ d, s14 ≠ .ow d) : ∀ (r : List D) (hand : D) (s2 s3 s4 s5 s6 s7 s8 s9 s10 s11 s12 s13 : Sl), HandOk hand → (∀ hand' s2 s3 s4 s5 s6 s7 s8 s9 s10 s11 s12 s13, k.nx [.sc ns, .ow hand', s2, s3, s4, s5, s6, s7, s8, s9, s10, s11, s12, s13, s14]) →
    forW (.nm 2) b_law_1 r [.sc ns, .ow hand, s2, s3, s4, s5, s6, s7, s8, s9, s10, s11, s12, s13, s14] k
  | [], _, _, _, _, _, _, _, _, _, _, _, _, _, _, q => q _ _ _ _ _ _ _ _ _ _ _ _ _
  | d :: r, hand, s2, s3, s4, s5, s6, s7, s8, s9, s10, s11, s12, s13, hh, q => by
    show b_law_1 [.sc ns, .ow hand, .sh d, s3, s4, s5, s6, s7, s8, s9, s10, s11, s12, s13, s14] ⟨fun ρ2 => forW (.nm 2) b_law_1 r ρ2 k, k.rt, k.nx, fun ρ2 => forW (.nm 2) b_law_1 r ρ2 k, k.ex⟩
    exact turn hh h14 (fun hand' s3 s4 s5 s6 s7 s8 s9 s10 s11 s12 s13 hh' => turns h14 r hand' _ s3 s4 s5 s6 s7 s8 s9 s10 s11 s12 s13 hh' q)
end
theorem law_true : ∀ ns : List Int, ns.length ≤ 63 → F_law ns (fun r => r = .vl (.bool true)) := by
  intro ns hl
  unfold F_law m_law wpScX
  refine seq_i fun N hN => ?_
  walk_at "vl"
  refine ⟨_, rfl, hand_specX (k0 := 61) (k1 := 7) (by omega) fun d hd => ?_⟩
  walk_at "vl"
  refine hN _ (seq_i fun N hN => ?_)
  walk_at "vl"
  (repeat (with_reducible refine ⟨by first | omega | (simp; done) | decide, ?_⟩))
  refine turns (s14 := .no) (fun _ z => nomatch z) _ d .no .no .no .no .no .no .no .no .no .no .no .no hd ?_
  intros
  refine hN _ ?_
  walk_at "vl"

end W_k11

set_option Elab.async false
set_option linter.all false
set_option maxRecDepth 100000
set_option maxHeartbeats 4000000
namespace W_k11
open PySem PySem.Spec PyProof.Rows L2 VL
def top (i : Nat) : Stmt := PySem.Challenge.pw_weighhouse_k11_whole_results_and_codes_o.main.body.getD i (.Pass ⟨0, 0, 0, 0⟩)

def Tt (pp_law : Addr) : List (Addr × Str) := [(pp_law, ("law" ++ ".<locals>.") ++ "<lambda>")]
structure Prog (K : PySem.W.Frag) (mg : Str → Option Value) (base : Heap) (cc_law pp_law : Addr) : Prop where
  z_abs : mg "abs" = none
  z_all : mg "all" = none
  z_any : mg "any" = none
  z_bool : mg "bool" = none
  z_int : mg "int" = none
  z_isinstance : mg "isinstance" = none
  z_len : mg "len" = none
  z_list : mg "list" = none
  z_range : mg "range" = none
  z_sorted : mg "sorted" = none
  z_str : mg "str" = none
  z_tuple : mg "tuple" = none
  z_zip : mg "zip" = none
  x_NoCase : ExcM K mg "NoCase"
  x_NoCoin : ExcM K mg "NoCoin"
  x_NoCoins : ExcM K mg "NoCoins"
  x_NoSet : ExcM K mg "NoSet"
  g_LEAST_COINS : GlobM K mg "LEAST_COINS" (.int 3)
  g_MOST_COINS : GlobM K mg "MOST_COINS" (.int 13)
  g_HEAVIER : GlobM K mg "HEAVIER" (.str "heavier")
  g_LIGHTER : GlobM K mg "LIGHTER" (.str "lighter")
  g_MOST_SET : GlobM K mg "MOST_SET" (.int 4)
  f_is_integer : FunM K mg "is_integer" (top 1) ["thing"]
  f_is_within : FunM K mg "is_within" (top 2) ["thing", "low", "high"]
  f_is_sized : FunM K mg "is_sized" (top 3) ["thing", "low", "high"]
  f_is_lot : FunM K mg "is_lot" (top 4) ["thing", "many"]
  f_check_coins : FunM K mg "check_coins" (top 25) ["n"]
  f_is_case : FunM K mg "is_case" (top 26) ["n", "thing"]
  f_is_weighing : FunM K mg "is_weighing" (top 27) ["n", "is_spare", "thing"]
  f_raw_result : FunM K mg "raw_result" (top 28) ["case", "near", "far"]
  f_is_set : FunM K mg "is_set" (top 31) ["n", "thing"]
  f_check_set : FunM K mg "check_set" (top 32) ["n", "set_of"]
  f_raw_results : FunM K mg "raw_results" (top 33) ["set_of", "case"]
  f_results_of : FunM K mg "results_of" (top 34) ["n", "set_of", "case"]
  f_raw_code : FunM K mg "raw_code" (top 35) ["set_of", "coin"]
  f_code_of : FunM K mg "code_of" (top 36) ["n", "set_of", "coin"]
  f_raw_apart : FunM K mg "raw_apart" (top 37) ["set_of", "one", "other"]
  f_apart_by : FunM K mg "apart_by" (top 38) ["n", "set_of", "one", "other"]
  f__law_hand : FunM K mg "_law_hand" (top 40) ["script"]
  f__law_draw : FunM K mg "_law_draw" (top 41) ["hand", "many"]
  f__law_any : FunM K mg "_law_any" (top 42) ["hand", "some"]
  f__law_cases : FunM K mg "_law_cases" (top 43) ["n", "kind"]
  f__law_result : FunM K mg "_law_result" (top 44) ["case", "weighing"]
  f__law_weighing : FunM K mg "_law_weighing" (top 45) ["hand", "n"]
  f__law_no_coins : FunM K mg "_law_no_coins" (top 46) ["hand"]
  f__law_set : FunM K mg "_law_set" (top 47) ["hand", "n", "most"]
  f__law_results : FunM K mg "_law_results" (top 48) ["set_of", "case"]
  f__law_code : FunM K mg "_law_code" (top 49) ["set_of", "coin"]
  f__law_apart : FunM K mg "_law_apart" (top 50) ["one", "other"]
  f__law_no_set : FunM K mg "_law_no_set" (top 51) ["hand"]
  c_law : FunC K mg "law" (top 53) ["script"] cc_law
  tb_law : LamX.TabB base mg cc_law pp_law
  ndP : ((Tt pp_law).map (·.1)).Nodup
  t__law_word : FunT K mg "_law_word" (top 52) ["call"]
  k_NoCase : IsC mg "NoCase"
  k_NoCoin : IsC mg "NoCoin"
  k_NoCoins : IsC mg "NoCoins"
  k_NoSet : IsC mg "NoSet"
  k_TooMany : IsC mg "TooMany"
  k_WeighError : IsC mg "WeighError"
  k_NoCodes : IsC mg "NoCodes"
  k_NoCount : IsC mg "NoCount"
  k_NoFlag : IsC mg "NoFlag"
  k_NoKind : IsC mg "NoKind"
  k_NoPlan : IsC mg "NoPlan"
  k_NoRecord : IsC mg "NoRecord"
  k_NoResults : IsC mg "NoResults"
  k_NoWeighing : IsC mg "NoWeighing"
  e_NoCase_TooMany : ExmM K mg "NoCase" "TooMany" false
  e_NoCase_WeighError : ExmM K mg "NoCase" "WeighError" true
  e_NoCoin_TooMany : ExmM K mg "NoCoin" "TooMany" false
  e_NoCoin_WeighError : ExmM K mg "NoCoin" "WeighError" true
  e_NoCoins_TooMany : ExmM K mg "NoCoins" "TooMany" false
  e_NoCoins_WeighError : ExmM K mg "NoCoins" "WeighError" true
  e_NoSet_TooMany : ExmM K mg "NoSet" "TooMany" false
  e_NoSet_WeighError : ExmM K mg "NoSet" "WeighError" true
  i_NoCase_NoCase : KitM K mg "NoCase" "NoCase" true
  i_NoCase_NoCodes : KitM K mg "NoCase" "NoCodes" false
  i_NoCase_NoCoin : KitM K mg "NoCase" "NoCoin" false
  i_NoCase_NoCoins : KitM K mg "NoCase" "NoCoins" false
  i_NoCase_NoCount : KitM K mg "NoCase" "NoCount" false
  i_NoCase_NoFlag : KitM K mg "NoCase" "NoFlag" false
  i_NoCase_NoKind : KitM K mg "NoCase" "NoKind" false
  i_NoCase_NoPlan : KitM K mg "NoCase" "NoPlan" false
  i_NoCase_NoRecord : KitM K mg "NoCase" "NoRecord" false
  i_NoCase_NoResults : KitM K mg "NoCase" "NoResults" false
  i_NoCase_NoSet : KitM K mg "NoCase" "NoSet" false
  i_NoCase_NoWeighing : KitM K mg "NoCase" "NoWeighing" false
  i_NoCoin_NoCase : KitM K mg "NoCoin" "NoCase" false
  i_NoCoin_NoCodes : KitM K mg "NoCoin" "NoCodes" false
  i_NoCoin_NoCoin : KitM K mg "NoCoin" "NoCoin" true
  i_NoCoin_NoCoins : KitM K mg "NoCoin" "NoCoins" false
  i_NoCoin_NoCount : KitM K mg "NoCoin" "NoCount" false
  i_NoCoin_NoFlag : KitM K mg "NoCoin" "NoFlag" false
  i_NoCoin_NoKind : KitM K mg "NoCoin" "NoKind" false
  i_NoCoin_NoPlan : KitM K mg "NoCoin" "NoPlan" false
  i_NoCoin_NoRecord : KitM K mg "NoCoin" "NoRecord" false
  i_NoCoin_NoResults : KitM K mg "NoCoin" "NoResults" false
  i_NoCoin_NoSet : KitM K mg "NoCoin" "NoSet" false
  i_NoCoin_NoWeighing : KitM K mg "NoCoin" "NoWeighing" false
  i_NoCoins_NoCase : KitM K mg "NoCoins" "NoCase" false
  i_NoCoins_NoCodes : KitM K mg "NoCoins" "NoCodes" false
  i_NoCoins_NoCoin : KitM K mg "NoCoins" "NoCoin" false
  i_NoCoins_NoCoins : KitM K mg "NoCoins" "NoCoins" true
  i_NoCoins_NoCount : KitM K mg "NoCoins" "NoCount" false
  i_NoCoins_NoFlag : KitM K mg "NoCoins" "NoFlag" false
  i_NoCoins_NoKind : KitM K mg "NoCoins" "NoKind" false
  i_NoCoins_NoPlan : KitM K mg "NoCoins" "NoPlan" false
  i_NoCoins_NoRecord : KitM K mg "NoCoins" "NoRecord" false
  i_NoCoins_NoResults : KitM K mg "NoCoins" "NoResults" false
  i_NoCoins_NoSet : KitM K mg "NoCoins" "NoSet" false
  i_NoCoins_NoWeighing : KitM K mg "NoCoins" "NoWeighing" false
  i_NoSet_NoCase : KitM K mg "NoSet" "NoCase" false
  i_NoSet_NoCodes : KitM K mg "NoSet" "NoCodes" false
  i_NoSet_NoCoin : KitM K mg "NoSet" "NoCoin" false
  i_NoSet_NoCoins : KitM K mg "NoSet" "NoCoins" false
  i_NoSet_NoCount : KitM K mg "NoSet" "NoCount" false
  i_NoSet_NoFlag : KitM K mg "NoSet" "NoFlag" false
  i_NoSet_NoKind : KitM K mg "NoSet" "NoKind" false
  i_NoSet_NoPlan : KitM K mg "NoSet" "NoPlan" false
  i_NoSet_NoRecord : KitM K mg "NoSet" "NoRecord" false
  i_NoSet_NoResults : KitM K mg "NoSet" "NoResults" false
  i_NoSet_NoSet : KitM K mg "NoSet" "NoSet" true
  i_NoSet_NoWeighing : KitM K mg "NoSet" "NoWeighing" false
section
variable {P : Program} {w : World} {K : PySem.W.Frag} {mg : Str → Option Value} {base : Heap} {cc_law pp_law : Addr}
abbrev s__law_word : Stmt := top 52
abbrev N__law_word : List Str := ["call", "word", "flags", "names", "e"]
theorem sc__law_word : FnScope N__law_word ["call"] (defScope s__law_word) := ⟨rfl, rfl, rfl, by decide +kernel, rfl, by decide +kernel, by decide +kernel⟩
noncomputable def cl__law_word (K : PySem.W.Frag) (mg : Str → Option Value) : List (Value × ATS) := [(.ref (adr mg "TooMany"), fun _ _ _ _ _ _ => False), (.ref (adr mg "WeighError"), ts0 K mg fun a cls => ms__law_word a (iscK K mg cls) (iscB K cls "ValueError"))]
theorem gv__law_word {X : Cx} {cc_law pp_law : Addr} (Z : Prog X.K X.mg X.base cc_law pp_law) {j : Nat} (hr : Room j X.A) (hj : 1 ≤ j) {q : Str} (g : Addr) (cdv : Value) : LamX.GivesTo X N__law_word "_law_word" (defScope s__law_word) g cdv (defBody s__law_word) "call" q (TTw "let" (wdN X.K (cl__law_word X.K X.mg) 5 4 1)) := by
  have nd := sc__law_word.nd
  have hu : ∀ s : Shared, (X.A.deeper (envOfC "_law_word" (defScope s__law_word) s.heap.objs.size g cdv)).units + 65 < cLine := fun s => un_in (k := 0) (hr.mono hj) _
  exact word_givesN (i := 4) (j := 1) (fun f => ⟨by simp [L2.start], by decide⟩) nd rfl (fun f => rfl) (fun s H => rfl) (fun s H => ps_asg pe_str (pg_name nd rfl (Or.inl rfl))) (fun s H => ps_ret (pe_var rfl (Or.inl rfl))) (fun s H => (.cons ⟨rfl, by decide, .inl Z.k_TooMany.at⟩ (fun _ _ _ _ _ _ _ => ss_dead) (.cons ⟨rfl, by decide, .inl Z.k_WeighError.at⟩ (fun z ob cl dd pn hz hf => suite_ts0 hz fun hz c hc0 => (sss_cons
    (ss_asg (i := 2) nd rfl (by first | exact Or.inl rfl | exact Or.inr rfl) (Or.inl hc0) (se_lst (sa_cons (se_isE (i := 4) hz hf rfl (Or.inl rfl) rfl Z.z_isinstance rfl) (sa_cons (se_isE (i := 4) hz hf rfl (Or.inl rfl) rfl Z.z_isinstance rfl) (sa_cons (se_isE (i := 4) hz hf rfl (Or.inl rfl) rfl Z.z_isinstance rfl) (sa_cons (se_isE (i := 4) hz hf rfl (Or.inl rfl) rfl Z.z_isinstance rfl) sa_nil)))))) (sss_cons
    (ss_asg (i := 2) nd rfl (by first | exact Or.inl rfl | exact Or.inr rfl) (Or.inl hc0) (se_add (se_bor (i := 2) rfl (by first | exact Or.inl rfl | exact Or.inr (Or.inl rfl) | exact Or.inr (Or.inr rfl))) (se_lst (sa_cons (se_isE (i := 4) hz hf rfl (Or.inl rfl) rfl Z.z_isinstance rfl) (sa_cons (se_isE (i := 4) hz hf rfl (Or.inl rfl) rfl Z.z_isinstance rfl) (sa_cons (se_isE (i := 4) hz hf rfl (Or.inl rfl) rfl Z.z_isinstance rfl) (sa_cons (se_isE (i := 4) hz hf rfl (Or.inl rfl) rfl Z.z_isinstance rfl) sa_nil))))))) (sss_cons
    (ss_asg (i := 2) nd rfl (by first | exact Or.inl rfl | exact Or.inr rfl) (Or.inl hc0) (se_add (se_bor (i := 2) rfl (by first | exact Or.inl rfl | exact Or.inr (Or.inl rfl) | exact Or.inr (Or.inr rfl))) (se_lst (sa_cons (se_isE (i := 4) hz hf rfl (Or.inl rfl) rfl Z.z_isinstance rfl) (sa_cons (se_isE (i := 4) hz hf rfl (Or.inl rfl) rfl Z.z_isinstance rfl) (sa_cons (se_isE (i := 4) hz hf rfl (Or.inl rfl) rfl Z.z_isinstance rfl) sa_nil)))))) (sss_cons
    (ss_expr (se_mut (i := 2) PySem.F.slot_list_append PySem.F.type_list_append mt_append ms_append mm_append rfl (by first | exact Or.inl rfl | exact Or.inr (Or.inl rfl) | exact Or.inr (Or.inr rfl)) (sa_cons (se_isE (i := 4) hz hf rfl (Or.inl rfl) rfl Z.z_isinstance rfl) sa_nil))) (sss_cons
    (ss_asg (i := 3) nd rfl (by first | exact Or.inl rfl | exact Or.inr rfl) (Or.inl hc0) (se_lst (sa_cons se_str (sa_cons se_str (sa_cons se_str (sa_cons se_str (sa_cons se_str (sa_cons se_str (sa_cons se_str (sa_cons se_str (sa_cons se_str (sa_cons se_str sa_nil)))))))))))) (sss_cons
    (ss_asg (i := 3) nd rfl (by first | exact Or.inl rfl | exact Or.inr rfl) (Or.inl hc0) (se_add (se_bor (i := 3) rfl (by first | exact Or.inl rfl | exact Or.inr (Or.inl rfl) | exact Or.inr (Or.inr rfl))) (se_lst (sa_cons se_str (sa_cons se_str sa_nil))))) (sss_one
    (ss_asg (i := 1) nd rfl (by first | exact Or.inl rfl | exact Or.inr rfl) (Or.inl hc0) (se_if (st_eqU (hu s) (se_cntL (hu s) (se_bor (i := 2) rfl (by first | exact Or.inl rfl | exact Or.inr (Or.inl rfl) | exact Or.inr (Or.inr rfl))) (sa_cons se_bool sa_nil)) se_int) (se_ixU (hu s) (se_bor (i := 3) rfl (by first | exact Or.inl rfl | exact Or.inr (Or.inl rfl) | exact Or.inr (Or.inr rfl))) (se_idxU (hu s) (se_bor (i := 2) rfl (by first | exact Or.inl rfl | exact Or.inr (Or.inl rfl) | exact Or.inr (Or.inr rfl))) (sa_cons se_bool sa_nil))) se_str)))))))))) .nil)))
theorem wd__law_word {cc_law pp_law : Addr} {Tt : List (Addr × Str)} (Z : Prog K mg base cc_law pp_law) : WdOk K mg Tt (wfL wl__law_word) (wdN K (cl__law_word K mg) 5 4 1) :=
  wdOk_lst (by decide) (by decide) (mh := fun a cls => ms__law_word a (iscK K mg cls) (iscB K cls "ValueError"))
    (List.forall_mem_cons.mpr ⟨fun cls hc => ⟨trivial, .inr ⟨Z.e_NoCase_TooMany.at hc Z.k_TooMany.at, .inl ⟨Z.e_NoCase_WeighError.at hc Z.k_WeighError.at, rfl⟩⟩⟩, (List.forall_mem_cons.mpr ⟨fun cls hc => ⟨trivial, .inr ⟨Z.e_NoCoin_TooMany.at hc Z.k_TooMany.at, .inl ⟨Z.e_NoCoin_WeighError.at hc Z.k_WeighError.at, rfl⟩⟩⟩, (List.forall_mem_cons.mpr ⟨fun cls hc => ⟨trivial, .inr ⟨Z.e_NoCoins_TooMany.at hc Z.k_TooMany.at, .inl ⟨Z.e_NoCoins_WeighError.at hc Z.k_WeighError.at, rfl⟩⟩⟩, (List.forall_mem_cons.mpr ⟨fun cls hc => ⟨trivial, .inr ⟨Z.e_NoSet_TooMany.at hc Z.k_TooMany.at, .inl ⟨Z.e_NoSet_WeighError.at hc Z.k_WeighError.at, rfl⟩⟩⟩, (fun _ h => nomatch h)⟩)⟩)⟩)⟩)
    (List.forall_mem_cons.mpr ⟨fun cls a k hc h1 h2 => sw__law_word_NoCase (Z.i_NoCase_NoCase.at hc) (Z.i_NoCase_NoCodes.at hc) (Z.i_NoCase_NoCoin.at hc) (Z.i_NoCase_NoCoins.at hc) (Z.i_NoCase_NoCount.at hc) (Z.i_NoCase_NoFlag.at hc) (Z.i_NoCase_NoKind.at hc) (Z.i_NoCase_NoPlan.at hc) (Z.i_NoCase_NoRecord.at hc) (Z.i_NoCase_NoResults.at hc) (Z.i_NoCase_NoSet.at hc) (Z.i_NoCase_NoWeighing.at hc) rfl h1 h2, (List.forall_mem_cons.mpr ⟨fun cls a k hc h1 h2 => sw__law_word_NoCoin (Z.i_NoCoin_NoCase.at hc) (Z.i_NoCoin_NoCodes.at hc) (Z.i_NoCoin_NoCoin.at hc) (Z.i_NoCoin_NoCoins.at hc) (Z.i_NoCoin_NoCount.at hc) (Z.i_NoCoin_NoFlag.at hc) (Z.i_NoCoin_NoKind.at hc) (Z.i_NoCoin_NoPlan.at hc) (Z.i_NoCoin_NoRecord.at hc) (Z.i_NoCoin_NoResults.at hc) (Z.i_NoCoin_NoSet.at hc) (Z.i_NoCoin_NoWeighing.at hc) rfl h1 h2, (List.forall_mem_cons.mpr ⟨fun cls a k hc h1 h2 => sw__law_word_NoCoins (Z.i_NoCoins_NoCase.at hc) (Z.i_NoCoins_NoCodes.at hc) (Z.i_NoCoins_NoCoin.at hc) (Z.i_NoCoins_NoCoins.at hc) (Z.i_NoCoins_NoCount.at hc) (Z.i_NoCoins_NoFlag.at hc) (Z.i_NoCoins_NoKind.at hc) (Z.i_NoCoins_NoPlan.at hc) (Z.i_NoCoins_NoRecord.at hc) (Z.i_NoCoins_NoResults.at hc) (Z.i_NoCoins_NoSet.at hc) (Z.i_NoCoins_NoWeighing.at hc) rfl h1 h2, (List.forall_mem_cons.mpr ⟨fun cls a k hc h1 h2 => sw__law_word_NoSet (Z.i_NoSet_NoCase.at hc) (Z.i_NoSet_NoCodes.at hc) (Z.i_NoSet_NoCoin.at hc) (Z.i_NoSet_NoCoins.at hc) (Z.i_NoSet_NoCount.at hc) (Z.i_NoSet_NoFlag.at hc) (Z.i_NoSet_NoKind.at hc) (Z.i_NoSet_NoPlan.at hc) (Z.i_NoSet_NoRecord.at hc) (Z.i_NoSet_NoResults.at hc) (Z.i_NoSet_NoSet.at hc) (Z.i_NoSet_NoWeighing.at hc) rfl h1 h2, (fun _ h => nomatch h)⟩)⟩)⟩)⟩)
abbrev s_is_integer : Stmt := top 1
abbrev N_is_integer : List Str := ["thing"]
theorem sc_is_integer : FnScope ["thing"] ["thing"] (defScope s_is_integer) := ⟨rfl, rfl, rfl, by decide +kernel, rfl, by decide +kernel, by decide +kernel⟩
theorem ok_is_integer (Z : Prog K mg base cc_law pp_law) : FnX P w K mg base 1 "is_integer" ["thing"] (spPX K mg 1 F_is_integer) := by
  have nd := sc_is_integer.nd
  exact fnX_P Z.f_is_integer sc_is_integer rfl (by decide) (fun f cdv A outer s H E hr c W hio hok tk =>
    (sss_one
    (ss_ret (se_and (se_isi (T := "int") (by decide) rfl Z.z_isinstance rfl Z.z_int PyProof.Rows.boot_int (se_bor (i := 0) rfl (by first | exact Or.inl rfl | exact Or.inr (Or.inl rfl) | exact Or.inr (Or.inr rfl)))) (se_one (se_not (se_isi (T := "bool") (by decide) rfl Z.z_isinstance rfl Z.z_bool VL.boot_bool (se_bor (i := 0) rfl (by first | exact Or.inl rfl | exact Or.inr (Or.inl rfl) | exact Or.inr (Or.inr rfl))))))))))
abbrev s_is_within : Stmt := top 2
abbrev N_is_within : List Str := ["thing", "low", "high"]
theorem sc_is_within : FnScope ["thing", "low", "high"] ["thing", "low", "high"] (defScope s_is_within) := ⟨rfl, rfl, rfl, by decide +kernel, rfl, by decide +kernel, by decide +kernel⟩
theorem ok_is_within (Z : Prog K mg base cc_law pp_law) : FnX P w K mg base 2 "is_within" ["thing", "low", "high"] (spPX K mg 3 F_is_within) := by
  have nd := sc_is_within.nd
  exact fnX_P Z.f_is_within sc_is_within rfl (by decide) (fun f cdv A outer s H E hr c W hio hok tk =>
    (sss_one
    (ss_ret (se_and (se_fxP (ok_is_integer Z) mf_is_integer hr (by first | decide | omega) rfl (sa_cons (se_var (i := 0) rfl (by first | exact Or.inl rfl | exact Or.inr (Or.inl rfl) | exact Or.inr (Or.inr rfl)) (Or.inl (hio rfl))) sa_nil)) (se_one (se_ord2 (by rfl) (by rfl) hr (se_bor (i := 1) rfl (by first | exact Or.inl rfl | exact Or.inr (Or.inl rfl) | exact Or.inr (Or.inr rfl))) (se_bor (i := 0) rfl (by first | exact Or.inl rfl | exact Or.inr (Or.inl rfl) | exact Or.inr (Or.inr rfl))) (se_bor (i := 2) rfl (by first | exact Or.inl rfl | exact Or.inr (Or.inl rfl) | exact Or.inr (Or.inr rfl)))))))))
abbrev s_is_sized : Stmt := top 3
abbrev N_is_sized : List Str := ["thing", "low", "high"]
theorem sc_is_sized : FnScope ["thing", "low", "high"] ["thing", "low", "high"] (defScope s_is_sized) := ⟨rfl, rfl, rfl, by decide +kernel, rfl, by decide +kernel, by decide +kernel⟩
theorem ok_is_sized (Z : Prog K mg base cc_law pp_law) : FnX P w K mg base 1 "is_sized" ["thing", "low", "high"] (spPX K mg 3 F_is_sized) := by
  have nd := sc_is_sized.nd
  exact fnX_P Z.f_is_sized sc_is_sized rfl (by decide) (fun f cdv A outer s H E hr c W hio hok tk =>
    (sss_one
    (ss_ret (se_and (se_isi (T := "tuple") (by decide) rfl Z.z_isinstance rfl Z.z_tuple PyProof.Rows.boot_tuple (se_bor (i := 0) rfl (by first | exact Or.inl rfl | exact Or.inr (Or.inl rfl) | exact Or.inr (Or.inr rfl)))) (se_one (se_ord2 (by rfl) (by rfl) hr (se_bor (i := 1) rfl (by first | exact Or.inl rfl | exact Or.inr (Or.inl rfl) | exact Or.inr (Or.inr rfl))) (se_callB cr_len cs_len mc_len rfl Z.z_len PySem.boot_len (sa_cons (se_bor (i := 0) rfl (by first | exact Or.inl rfl | exact Or.inr (Or.inl rfl) | exact Or.inr (Or.inr rfl))) sa_nil)) (se_bor (i := 2) rfl (by first | exact Or.inl rfl | exact Or.inr (Or.inl rfl) | exact Or.inr (Or.inr rfl)))))))))
abbrev s_is_lot : Stmt := top 4
abbrev N_is_lot : List Str := ["thing", "many", "one", "other"]
theorem sc_is_lot : FnScope ["thing", "many", "one", "other"] ["thing", "many"] (defScope s_is_lot) := ⟨rfl, rfl, rfl, by decide +kernel, rfl, by decide +kernel, by decide +kernel⟩
theorem ok_is_lot (Z : Prog K mg base cc_law pp_law) : FnX P w K mg base 3 "is_lot" ["thing", "many"] (spPX K mg 2 F_is_lot) := by
  have nd := sc_is_lot.nd
  exact fnX_P Z.f_is_lot sc_is_lot rfl (by decide) (fun f cdv A outer s H E hr c W hio hok tk =>
    (sss_cons
    (ss_if (SW.st (sw_or (st_not (st_tru (se_isi (T := "tuple") (by decide) rfl Z.z_isinstance rfl Z.z_tuple PyProof.Rows.boot_tuple (se_bor (i := 0) rfl (by first | exact Or.inl rfl | exact Or.inr (Or.inl rfl) | exact Or.inr (Or.inr rfl)))))) (sw_or1 (st_not (st_tru (se_callB (cr_all rfl) cs_all mc_aa rfl Z.z_all PyProof.Rows.boot_all (sa_cons (by exact se_comp (own := [("one", 2)]) rfl nd (si_seq (se_var (i := 0) rfl (by first | exact Or.inl rfl | exact Or.inr (Or.inl rfl) | exact Or.inr (Or.inr rfl)) (Or.inl (hio rfl)))) (blkOk_by (own := [("one", 2)]) (N := N_is_lot) (sc := defScope s_is_lot) (by decide +kernel)) (by decide) (Or.inl (hio rfl)) (by intro _ _ _ _ _; exact (sg_name (i := 2) nd rfl (by first | exact Or.inl rfl | exact Or.inr rfl) (Or.inl (hio rfl)))) (by intro _ _ _ _ _; exact sts_nil) (by intro _ _ _ _ _; exact (se_fxP (ok_is_within Z) mf_is_within hr (by first | decide | omega) rfl (sa_cons (se_var (i := 2) rfl (by first | exact Or.inl rfl | exact Or.inr (Or.inl rfl) | exact Or.inr (Or.inr rfl)) (Or.inl (hio rfl))) (sa_cons se_int (sa_cons (se_sub (se_bor (i := 1) rfl (by first | exact Or.inl rfl | exact Or.inr (Or.inl rfl) | exact Or.inr (Or.inr rfl))) se_int) sa_nil)))))) sa_nil))))))) (sss_one
    (ss_ret se_bool)) sss_nil) (sss_one
    (ss_ret (se_callB (cr_all rfl) cs_all mc_aa rfl Z.z_all PyProof.Rows.boot_all (sa_cons (by exact se_comp (own := [("one", 2), ("other", 3)]) rfl nd (si_zip2N rfl Z.z_zip (sa_cons (se_var (i := 0) rfl (by first | exact Or.inl rfl | exact Or.inr (Or.inl rfl) | exact Or.inr (Or.inr rfl)) (Or.inl (hio rfl))) (sa_cons (se_slice (se_bor (i := 0) rfl (by first | exact Or.inl rfl | exact Or.inr (Or.inl rfl) | exact Or.inr (Or.inr rfl))) (so_some se_int) so_none) sa_nil))) (blkOk_by (own := [("one", 2), ("other", 3)]) (N := N_is_lot) (sc := defScope s_is_lot) (by decide +kernel)) (by decide) (Or.inl (hio rfl)) (by intro _ _ _ _ _; exact (sg_tup rfl (sgs_cons (sg_name (i := 2) nd rfl (by first | exact Or.inl rfl | exact Or.inr rfl) (Or.inl (hio rfl))) (sgs_cons (sg_name (i := 3) nd rfl (by first | exact Or.inl rfl | exact Or.inr rfl) (Or.inl (hio rfl))) sgs_nil)))) (by intro _ _ _ _ _; exact sts_nil) (by intro _ _ _ _ _; exact (se_ord (by rfl) hr (se_bor (i := 2) rfl (by first | exact Or.inl rfl | exact Or.inr (Or.inl rfl) | exact Or.inr (Or.inr rfl))) (se_bor (i := 3) rfl (by first | exact Or.inl rfl | exact Or.inr (Or.inl rfl) | exact Or.inr (Or.inr rfl)))))) sa_nil))))))
abbrev s_check_coins : Stmt := top 25
abbrev N_check_coins : List Str := ["n"]
theorem sc_check_coins : FnScope ["n"] ["n"] (defScope s_check_coins) := ⟨rfl, rfl, rfl, by decide +kernel, rfl, by decide +kernel, by decide +kernel⟩
theorem ok_check_coins (Z : Prog K mg base cc_law pp_law) : FnX P w K mg base 3 "check_coins" ["n"] (spPX K mg 1 F_check_coins) := by
  have nd := sc_check_coins.nd
  exact fnX_P Z.f_check_coins sc_check_coins rfl (by decide) (fun f cdv A outer s H E hr c W hio hok tk =>
    (sss_one
    (ss_if (st_not (st_tru (se_fxP (ok_is_within Z) mf_is_within hr (by first | decide | omega) rfl (sa_cons (se_var (i := 0) rfl (by first | exact Or.inl rfl | exact Or.inr (Or.inl rfl) | exact Or.inr (Or.inr rfl)) (Or.inl (hio rfl))) (sa_cons (se_gl Z.g_LEAST_COINS rfl) (sa_cons (se_gl Z.g_MOST_COINS rfl) sa_nil)))))) (sss_one
    (ss_raiseM Z.x_NoCoins rfl rfl)) sss_nil)))
abbrev s_is_case : Stmt := top 26
abbrev N_is_case : List Str := ["n", "thing"]
theorem sc_is_case : FnScope ["n", "thing"] ["n", "thing"] (defScope s_is_case) := ⟨rfl, rfl, rfl, by decide +kernel, rfl, by decide +kernel, by decide +kernel⟩
theorem ok_is_case (Z : Prog K mg base cc_law pp_law) : FnX P w K mg base 3 "is_case" ["n", "thing"] (spPX K mg 2 F_is_case) := by
  have nd := sc_is_case.nd
  exact fnX_P Z.f_is_case sc_is_case rfl (by decide) (fun f cdv A outer s H E hr c W hio hok tk =>
    (sss_cons
    (ss_if (SW.st (sw_or (st_not (st_tru (se_fxP (ok_is_sized Z) mf_is_sized hr (by first | decide | omega) rfl (sa_cons (se_var (i := 1) rfl (by first | exact Or.inl rfl | exact Or.inr (Or.inl rfl) | exact Or.inr (Or.inr rfl)) (Or.inl (hio rfl))) (sa_cons se_int (sa_cons se_int sa_nil)))))) (sw_or (st_not (st_tru (se_isi (T := "str") (by decide) rfl Z.z_isinstance rfl Z.z_str VL.boot_str (se_ixD hr (se_bor (i := 1) rfl (by first | exact Or.inl rfl | exact Or.inr (Or.inl rfl) | exact Or.inr (Or.inr rfl))) se_int)))) (sw_or1 (st_notInD hr (se_ixD hr (se_bor (i := 1) rfl (by first | exact Or.inl rfl | exact Or.inr (Or.inl rfl) | exact Or.inr (Or.inr rfl))) se_int) (se_tup (sa_cons (se_gl Z.g_HEAVIER rfl) (sa_cons (se_gl Z.g_LIGHTER rfl) sa_nil)))))))) (sss_one
    (ss_ret se_bool)) sss_nil) (sss_one
    (ss_ret (se_fxP (ok_is_within Z) mf_is_within hr (by first | decide | omega) rfl (sa_cons (se_ixD hr (se_bor (i := 1) rfl (by first | exact Or.inl rfl | exact Or.inr (Or.inl rfl) | exact Or.inr (Or.inr rfl))) se_int) (sa_cons se_int (sa_cons (se_sub (se_bor (i := 0) rfl (by first | exact Or.inl rfl | exact Or.inr (Or.inl rfl) | exact Or.inr (Or.inr rfl))) se_int) sa_nil))))))))
abbrev s_is_weighing : Stmt := top 27
abbrev N_is_weighing : List Str := ["n", "is_spare", "thing", "many", "near", "far", "lot", "coin"]
theorem sc_is_weighing : FnScope ["n", "is_spare", "thing", "many", "near", "far", "lot", "coin"] ["n", "is_spare", "thing"] (defScope s_is_weighing) := ⟨rfl, rfl, rfl, by decide +kernel, rfl, by decide +kernel, by decide +kernel⟩
theorem ok_is_weighing (Z : Prog K mg base cc_law pp_law) : FnX P w K mg base 4 "is_weighing" ["n", "is_spare", "thing"] (spPX K mg 3 F_is_weighing) := by
  have nd := sc_is_weighing.nd
  exact fnX_P Z.f_is_weighing sc_is_weighing rfl (by decide) (fun f cdv A outer s H E hr c W hio hok tk =>
    (sss_cons
    (ss_asg (i := 3) nd rfl (by first | exact Or.inl rfl | exact Or.inr rfl) (Or.inl (hio rfl)) (se_add (se_bor (i := 0) rfl (by first | exact Or.inl rfl | exact Or.inr (Or.inl rfl) | exact Or.inr (Or.inr rfl))) (se_callTy call_int1 cs_int mc_int rfl Z.z_int PyProof.Rows.boot_int (sa_cons (se_bor (i := 1) rfl (by first | exact Or.inl rfl | exact Or.inr (Or.inl rfl) | exact Or.inr (Or.inr rfl))) sa_nil)))) (sss_cons
    (ss_if (SW.st (sw_or (st_not (st_tru (se_fxP (ok_is_sized Z) mf_is_sized hr (by first | decide | omega) rfl (sa_cons (se_var (i := 2) rfl (by first | exact Or.inl rfl | exact Or.inr (Or.inl rfl) | exact Or.inr (Or.inr rfl)) (Or.inl (hio rfl))) (sa_cons se_int (sa_cons se_int sa_nil)))))) (sw_or1 (st_not (st_tru (se_callB (cr_all rfl) cs_all mc_aa rfl Z.z_all PyProof.Rows.boot_all (sa_cons (by exact se_comp (own := [("lot", 6)]) rfl nd (si_seq (se_var (i := 2) rfl (by first | exact Or.inl rfl | exact Or.inr (Or.inl rfl) | exact Or.inr (Or.inr rfl)) (Or.inl (hio rfl)))) (blkOk_by (own := [("lot", 6)]) (N := N_is_weighing) (sc := defScope s_is_weighing) (by decide +kernel)) (by decide) (Or.inl (hio rfl)) (by intro _ _ _ _ _; exact (sg_name (i := 6) nd rfl (by first | exact Or.inl rfl | exact Or.inr rfl) (Or.inl (hio rfl)))) (by intro _ _ _ _ _; exact sts_nil) (by intro _ _ _ _ _; exact (se_fxP (ok_is_lot Z) mf_is_lot hr (by first | decide | omega) rfl (sa_cons (se_var (i := 6) rfl (by first | exact Or.inl rfl | exact Or.inr (Or.inl rfl) | exact Or.inr (Or.inr rfl)) (Or.inl (hio rfl))) (sa_cons (se_var (i := 3) rfl (by first | exact Or.inl rfl | exact Or.inr (Or.inl rfl) | exact Or.inr (Or.inr rfl)) (Or.inl (hio rfl))) sa_nil))))) sa_nil))))))) (sss_one
    (ss_ret se_bool)) sss_nil) (sss_cons
    (ss_asgT (se_var (i := 2) rfl (by first | exact Or.inl rfl | exact Or.inr (Or.inl rfl) | exact Or.inr (Or.inr rfl)) (Or.inl (hio rfl))) (sg_tup rfl (sgs_cons (sg_name (i := 4) nd rfl (by first | exact Or.inl rfl | exact Or.inr rfl) (Or.inl (hio rfl))) (sgs_cons (sg_name (i := 5) nd rfl (by first | exact Or.inl rfl | exact Or.inr rfl) (Or.inl (hio rfl))) sgs_nil)))) (sss_one
    (ss_ret (se_and (se_eqOrd (by rfl) hr (se_callB cr_len cs_len mc_len rfl Z.z_len PySem.boot_len (sa_cons (se_bor (i := 4) rfl (by first | exact Or.inl rfl | exact Or.inr (Or.inl rfl) | exact Or.inr (Or.inr rfl))) sa_nil)) (se_callB cr_len cs_len mc_len rfl Z.z_len PySem.boot_len (sa_cons (se_bor (i := 5) rfl (by first | exact Or.inl rfl | exact Or.inr (Or.inl rfl) | exact Or.inr (Or.inr rfl))) sa_nil)) se_int) (se_one (se_not (se_callB (cr_any rfl) cs_any mc_aa rfl Z.z_any PyProof.Rows.boot_any (sa_cons (by exact se_comp (own := [("coin", 7)]) rfl nd (si_seq (se_var (i := 4) rfl (by first | exact Or.inl rfl | exact Or.inr (Or.inl rfl) | exact Or.inr (Or.inr rfl)) (Or.inl (hio rfl)))) (blkOk_by (own := [("coin", 7)]) (N := N_is_weighing) (sc := defScope s_is_weighing) (by decide +kernel)) (by decide) (Or.inl (hio rfl)) (by intro _ _ _ _ _; exact (sg_name (i := 7) nd rfl (by first | exact Or.inl rfl | exact Or.inr rfl) (Or.inl (hio rfl)))) (by intro _ _ _ _ _; exact sts_nil) (by intro _ _ _ _ _; exact (se_inD hr (se_bor (i := 7) rfl (by first | exact Or.inl rfl | exact Or.inr (Or.inl rfl) | exact Or.inr (Or.inr rfl))) (se_bor (i := 5) rfl (by first | exact Or.inl rfl | exact Or.inr (Or.inl rfl) | exact Or.inr (Or.inr rfl)))))) sa_nil)))))))))))
abbrev s_raw_result : Stmt := top 28
abbrev N_raw_result : List Str := ["case", "near", "far", "word", "coin"]
theorem sc_raw_result : FnScope ["case", "near", "far", "word", "coin"] ["case", "near", "far"] (defScope s_raw_result) := ⟨rfl, rfl, rfl, by decide +kernel, rfl, by decide +kernel, by decide +kernel⟩
theorem ok_raw_result (Z : Prog K mg base cc_law pp_law) : FnX P w K mg base 1 "raw_result" ["case", "near", "far"] (spPX K mg 3 F_raw_result) := by
  have nd := sc_raw_result.nd
  exact fnX_P Z.f_raw_result sc_raw_result rfl (by decide) (fun f cdv A outer s H E hr c W hio hok tk =>
    (sss_cons
    (ss_asgT (se_var (i := 0) rfl (by first | exact Or.inl rfl | exact Or.inr (Or.inl rfl) | exact Or.inr (Or.inr rfl)) (Or.inl (hio rfl))) (sg_tup rfl (sgs_cons (sg_name (i := 3) nd rfl (by first | exact Or.inl rfl | exact Or.inr rfl) (Or.inl (hio rfl))) (sgs_cons (sg_name (i := 4) nd rfl (by first | exact Or.inl rfl | exact Or.inr rfl) (Or.inl (hio rfl))) sgs_nil)))) (sss_cons
    (ss_if (SW.st (sw_and (st_notInD hr (se_bor (i := 4) rfl (by first | exact Or.inl rfl | exact Or.inr (Or.inl rfl) | exact Or.inr (Or.inr rfl))) (se_bor (i := 1) rfl (by first | exact Or.inl rfl | exact Or.inr (Or.inl rfl) | exact Or.inr (Or.inr rfl)))) (sw_and1 (st_notInD hr (se_bor (i := 4) rfl (by first | exact Or.inl rfl | exact Or.inr (Or.inl rfl) | exact Or.inr (Or.inr rfl))) (se_bor (i := 2) rfl (by first | exact Or.inl rfl | exact Or.inr (Or.inl rfl) | exact Or.inr (Or.inr rfl))))))) (sss_one
    (ss_ret se_str)) sss_nil) (sss_one
    (ss_ret (se_if (st_eq hr (se_inD hr (se_bor (i := 4) rfl (by first | exact Or.inl rfl | exact Or.inr (Or.inl rfl) | exact Or.inr (Or.inr rfl))) (se_bor (i := 1) rfl (by first | exact Or.inl rfl | exact Or.inr (Or.inl rfl) | exact Or.inr (Or.inr rfl)))) (se_eq hr (se_bor (i := 3) rfl (by first | exact Or.inl rfl | exact Or.inr (Or.inl rfl) | exact Or.inr (Or.inr rfl))) (se_gl Z.g_HEAVIER rfl))) se_str se_str))))))
abbrev s_is_set : Stmt := top 31
abbrev N_is_set : List Str := ["n", "thing", "weighing"]
theorem sc_is_set : FnScope ["n", "thing", "weighing"] ["n", "thing"] (defScope s_is_set) := ⟨rfl, rfl, rfl, by decide +kernel, rfl, by decide +kernel, by decide +kernel⟩
theorem ok_is_set (Z : Prog K mg base cc_law pp_law) : FnX P w K mg base 5 "is_set" ["n", "thing"] (spPX K mg 2 F_is_set) := by
  have nd := sc_is_set.nd
  exact fnX_P Z.f_is_set sc_is_set rfl (by decide) (fun f cdv A outer s H E hr c W hio hok tk =>
    (sss_one
    (ss_ret (se_and (se_fxP (ok_is_sized Z) mf_is_sized hr (by first | decide | omega) rfl (sa_cons (se_var (i := 1) rfl (by first | exact Or.inl rfl | exact Or.inr (Or.inl rfl) | exact Or.inr (Or.inr rfl)) (Or.inl (hio rfl))) (sa_cons se_int (sa_cons (se_gl Z.g_MOST_SET rfl) sa_nil)))) (se_one (se_callB (cr_all rfl) cs_all mc_aa rfl Z.z_all PyProof.Rows.boot_all (sa_cons (by exact se_comp (own := [("weighing", 2)]) rfl nd (si_seq (se_var (i := 1) rfl (by first | exact Or.inl rfl | exact Or.inr (Or.inl rfl) | exact Or.inr (Or.inr rfl)) (Or.inl (hio rfl)))) (blkOk_by (own := [("weighing", 2)]) (N := N_is_set) (sc := defScope s_is_set) (by decide +kernel)) (by decide) (Or.inl (hio rfl)) (by intro _ _ _ _ _; exact (sg_name (i := 2) nd rfl (by first | exact Or.inl rfl | exact Or.inr rfl) (Or.inl (hio rfl)))) (by intro _ _ _ _ _; exact sts_nil) (by intro _ _ _ _ _; exact (se_fxP (ok_is_weighing Z) mf_is_weighing hr (by first | decide | omega) rfl (sa_cons (se_var (i := 0) rfl (by first | exact Or.inl rfl | exact Or.inr (Or.inl rfl) | exact Or.inr (Or.inr rfl)) (Or.inl (hio rfl))) (sa_cons se_bool (sa_cons (se_var (i := 2) rfl (by first | exact Or.inl rfl | exact Or.inr (Or.inl rfl) | exact Or.inr (Or.inr rfl)) (Or.inl (hio rfl))) sa_nil)))))) sa_nil)))))))
abbrev s_check_set : Stmt := top 32
abbrev N_check_set : List Str := ["n", "set_of"]
theorem sc_check_set : FnScope ["n", "set_of"] ["n", "set_of"] (defScope s_check_set) := ⟨rfl, rfl, rfl, by decide +kernel, rfl, by decide +kernel, by decide +kernel⟩
theorem ok_check_set (Z : Prog K mg base cc_law pp_law) : FnX P w K mg base 6 "check_set" ["n", "set_of"] (spPX K mg 2 F_check_set) := by
  have nd := sc_check_set.nd
  exact fnX_P Z.f_check_set sc_check_set rfl (by decide) (fun f cdv A outer s H E hr c W hio hok tk =>
    (sss_cons
    (ss_expr (se_fxP (ok_check_coins Z) mf_check_coins hr (by first | decide | omega) rfl (sa_cons (se_var (i := 0) rfl (by first | exact Or.inl rfl | exact Or.inr (Or.inl rfl) | exact Or.inr (Or.inr rfl)) (Or.inl (hio rfl))) sa_nil))) (sss_one
    (ss_if (st_not (st_tru (se_fxP (ok_is_set Z) mf_is_set hr (by first | decide | omega) rfl (sa_cons (se_var (i := 0) rfl (by first | exact Or.inl rfl | exact Or.inr (Or.inl rfl) | exact Or.inr (Or.inr rfl)) (Or.inl (hio rfl))) (sa_cons (se_var (i := 1) rfl (by first | exact Or.inl rfl | exact Or.inr (Or.inl rfl) | exact Or.inr (Or.inr rfl)) (Or.inl (hio rfl))) sa_nil))))) (sss_one
    (ss_raiseM Z.x_NoSet rfl rfl)) sss_nil))))
abbrev s_raw_results : Stmt := top 33
abbrev N_raw_results : List Str := ["set_of", "case", "near", "far"]
theorem sc_raw_results : FnScope ["set_of", "case", "near", "far"] ["set_of", "case"] (defScope s_raw_results) := ⟨rfl, rfl, rfl, by decide +kernel, rfl, by decide +kernel, by decide +kernel⟩
theorem ok_raw_results (Z : Prog K mg base cc_law pp_law) : FnX P w K mg base 2 "raw_results" ["set_of", "case"] (spPX K mg 2 F_raw_results) := by
  have nd := sc_raw_results.nd
  exact fnX_P Z.f_raw_results sc_raw_results rfl (by decide) (fun f cdv A outer s H E hr c W hio hok tk =>
    (sss_one
    (ss_ret (se_callTy call_tuple_of cs_tuple mc_tuple rfl Z.z_tuple PyProof.Rows.boot_tuple (sa_cons (by exact se_comp (own := [("near", 2), ("far", 3)]) rfl nd (si_seq (se_var (i := 0) rfl (by first | exact Or.inl rfl | exact Or.inr (Or.inl rfl) | exact Or.inr (Or.inr rfl)) (Or.inl (hio rfl)))) (blkOk_by (own := [("near", 2), ("far", 3)]) (N := N_raw_results) (sc := defScope s_raw_results) (by decide +kernel)) (by decide) (Or.inl (hio rfl)) (by intro _ _ _ _ _; exact (sg_tup rfl (sgs_cons (sg_name (i := 2) nd rfl (by first | exact Or.inl rfl | exact Or.inr rfl) (Or.inl (hio rfl))) (sgs_cons (sg_name (i := 3) nd rfl (by first | exact Or.inl rfl | exact Or.inr rfl) (Or.inl (hio rfl))) sgs_nil)))) (by intro _ _ _ _ _; exact sts_nil) (by intro _ _ _ _ _; exact (se_fxP (ok_raw_result Z) mf_raw_result hr (by first | decide | omega) rfl (sa_cons (se_var (i := 1) rfl (by first | exact Or.inl rfl | exact Or.inr (Or.inl rfl) | exact Or.inr (Or.inr rfl)) (Or.inl (hio rfl))) (sa_cons (se_var (i := 2) rfl (by first | exact Or.inl rfl | exact Or.inr (Or.inl rfl) | exact Or.inr (Or.inr rfl)) (Or.inl (hio rfl))) (sa_cons (se_var (i := 3) rfl (by first | exact Or.inl rfl | exact Or.inr (Or.inl rfl) | exact Or.inr (Or.inr rfl)) (Or.inl (hio rfl))) sa_nil)))))) sa_nil)))))
abbrev s_results_of : Stmt := top 34
abbrev N_results_of : List Str := ["n", "set_of", "case"]
theorem sc_results_of : FnScope ["n", "set_of", "case"] ["n", "set_of", "case"] (defScope s_results_of) := ⟨rfl, rfl, rfl, by decide +kernel, rfl, by decide +kernel, by decide +kernel⟩
theorem ok_results_of (Z : Prog K mg base cc_law pp_law) : FnX P w K mg base 7 "results_of" ["n", "set_of", "case"] (spPX K mg 3 F_results_of) := by
  have nd := sc_results_of.nd
  exact fnX_P Z.f_results_of sc_results_of rfl (by decide) (fun f cdv A outer s H E hr c W hio hok tk =>
    (sss_cons
    (ss_expr (se_fxP (ok_check_set Z) mf_check_set hr (by first | decide | omega) rfl (sa_cons (se_var (i := 0) rfl (by first | exact Or.inl rfl | exact Or.inr (Or.inl rfl) | exact Or.inr (Or.inr rfl)) (Or.inl (hio rfl))) (sa_cons (se_var (i := 1) rfl (by first | exact Or.inl rfl | exact Or.inr (Or.inl rfl) | exact Or.inr (Or.inr rfl)) (Or.inl (hio rfl))) sa_nil)))) (sss_cons
    (ss_if (st_not (st_tru (se_fxP (ok_is_case Z) mf_is_case hr (by first | decide | omega) rfl (sa_cons (se_var (i := 0) rfl (by first | exact Or.inl rfl | exact Or.inr (Or.inl rfl) | exact Or.inr (Or.inr rfl)) (Or.inl (hio rfl))) (sa_cons (se_var (i := 2) rfl (by first | exact Or.inl rfl | exact Or.inr (Or.inl rfl) | exact Or.inr (Or.inr rfl)) (Or.inl (hio rfl))) sa_nil))))) (sss_one
    (ss_raiseM Z.x_NoCase rfl rfl)) sss_nil) (sss_one
    (ss_ret (se_fxP (ok_raw_results Z) mf_raw_results hr (by first | decide | omega) rfl (sa_cons (se_var (i := 1) rfl (by first | exact Or.inl rfl | exact Or.inr (Or.inl rfl) | exact Or.inr (Or.inr rfl)) (Or.inl (hio rfl))) (sa_cons (se_var (i := 2) rfl (by first | exact Or.inl rfl | exact Or.inr (Or.inl rfl) | exact Or.inr (Or.inr rfl)) (Or.inl (hio rfl))) sa_nil))))))))
abbrev s_raw_code : Stmt := top 35
abbrev N_raw_code : List Str := ["set_of", "coin", "near", "far"]
theorem sc_raw_code : FnScope ["set_of", "coin", "near", "far"] ["set_of", "coin"] (defScope s_raw_code) := ⟨rfl, rfl, rfl, by decide +kernel, rfl, by decide +kernel, by decide +kernel⟩
theorem ok_raw_code (Z : Prog K mg base cc_law pp_law) : FnX P w K mg base 1 "raw_code" ["set_of", "coin"] (spPX K mg 2 F_raw_code) := by
  have nd := sc_raw_code.nd
  exact fnX_P Z.f_raw_code sc_raw_code rfl (by decide) (fun f cdv A outer s H E hr c W hio hok tk =>
    (sss_one
    (ss_ret (se_callTy call_tuple_of cs_tuple mc_tuple rfl Z.z_tuple PyProof.Rows.boot_tuple (sa_cons (by exact se_comp (own := [("near", 2), ("far", 3)]) rfl nd (si_seq (se_var (i := 0) rfl (by first | exact Or.inl rfl | exact Or.inr (Or.inl rfl) | exact Or.inr (Or.inr rfl)) (Or.inl (hio rfl)))) (blkOk_by (own := [("near", 2), ("far", 3)]) (N := N_raw_code) (sc := defScope s_raw_code) (by decide +kernel)) (by decide) (Or.inl (hio rfl)) (by intro _ _ _ _ _; exact (sg_tup rfl (sgs_cons (sg_name (i := 2) nd rfl (by first | exact Or.inl rfl | exact Or.inr rfl) (Or.inl (hio rfl))) (sgs_cons (sg_name (i := 3) nd rfl (by first | exact Or.inl rfl | exact Or.inr rfl) (Or.inl (hio rfl))) sgs_nil)))) (by intro _ _ _ _ _; exact sts_nil) (by intro _ _ _ _ _; exact (se_sub (se_callTy call_int1 cs_int mc_int rfl Z.z_int PyProof.Rows.boot_int (sa_cons (se_inD hr (se_bor (i := 1) rfl (by first | exact Or.inl rfl | exact Or.inr (Or.inl rfl) | exact Or.inr (Or.inr rfl))) (se_bor (i := 2) rfl (by first | exact Or.inl rfl | exact Or.inr (Or.inl rfl) | exact Or.inr (Or.inr rfl)))) sa_nil)) (se_callTy call_int1 cs_int mc_int rfl Z.z_int PyProof.Rows.boot_int (sa_cons (se_inD hr (se_bor (i := 1) rfl (by first | exact Or.inl rfl | exact Or.inr (Or.inl rfl) | exact Or.inr (Or.inr rfl))) (se_bor (i := 3) rfl (by first | exact Or.inl rfl | exact Or.inr (Or.inl rfl) | exact Or.inr (Or.inr rfl)))) sa_nil))))) sa_nil)))))
abbrev s_code_of : Stmt := top 36
abbrev N_code_of : List Str := ["n", "set_of", "coin"]
theorem sc_code_of : FnScope ["n", "set_of", "coin"] ["n", "set_of", "coin"] (defScope s_code_of) := ⟨rfl, rfl, rfl, by decide +kernel, rfl, by decide +kernel, by decide +kernel⟩
theorem ok_code_of (Z : Prog K mg base cc_law pp_law) : FnX P w K mg base 7 "code_of" ["n", "set_of", "coin"] (spPX K mg 3 F_code_of) := by
  have nd := sc_code_of.nd
  exact fnX_P Z.f_code_of sc_code_of rfl (by decide) (fun f cdv A outer s H E hr c W hio hok tk =>
    (sss_cons
    (ss_expr (se_fxP (ok_check_set Z) mf_check_set hr (by first | decide | omega) rfl (sa_cons (se_var (i := 0) rfl (by first | exact Or.inl rfl | exact Or.inr (Or.inl rfl) | exact Or.inr (Or.inr rfl)) (Or.inl (hio rfl))) (sa_cons (se_var (i := 1) rfl (by first | exact Or.inl rfl | exact Or.inr (Or.inl rfl) | exact Or.inr (Or.inr rfl)) (Or.inl (hio rfl))) sa_nil)))) (sss_cons
    (ss_if (st_not (st_tru (se_fxP (ok_is_within Z) mf_is_within hr (by first | decide | omega) rfl (sa_cons (se_var (i := 2) rfl (by first | exact Or.inl rfl | exact Or.inr (Or.inl rfl) | exact Or.inr (Or.inr rfl)) (Or.inl (hio rfl))) (sa_cons se_int (sa_cons (se_sub (se_bor (i := 0) rfl (by first | exact Or.inl rfl | exact Or.inr (Or.inl rfl) | exact Or.inr (Or.inr rfl))) se_int) sa_nil)))))) (sss_one
    (ss_raiseM Z.x_NoCoin rfl rfl)) sss_nil) (sss_one
    (ss_ret (se_fxP (ok_raw_code Z) mf_raw_code hr (by first | decide | omega) rfl (sa_cons (se_var (i := 1) rfl (by first | exact Or.inl rfl | exact Or.inr (Or.inl rfl) | exact Or.inr (Or.inr rfl)) (Or.inl (hio rfl))) (sa_cons (se_var (i := 2) rfl (by first | exact Or.inl rfl | exact Or.inr (Or.inl rfl) | exact Or.inr (Or.inr rfl)) (Or.inl (hio rfl))) sa_nil))))))))
abbrev s_raw_apart : Stmt := top 37
abbrev N_raw_apart : List Str := ["set_of", "one", "other", "here", "there"]
theorem sc_raw_apart : FnScope ["set_of", "one", "other", "here", "there"] ["set_of", "one", "other"] (defScope s_raw_apart) := ⟨rfl, rfl, rfl, by decide +kernel, rfl, by decide +kernel, by decide +kernel⟩
theorem ok_raw_apart (Z : Prog K mg base cc_law pp_law) : FnX P w K mg base 3 "raw_apart" ["set_of", "one", "other"] (spPX K mg 3 F_raw_apart) := by
  have nd := sc_raw_apart.nd
  exact fnX_P Z.f_raw_apart sc_raw_apart rfl (by decide) (fun f cdv A outer s H E hr c W hio hok tk =>
    (sss_one
    (ss_ret (se_callB cr_len cs_len mc_len rfl Z.z_len PySem.boot_len (sa_cons (by exact se_comp (own := [("here", 3), ("there", 4)]) rfl nd (si_zip2N rfl Z.z_zip (sa_cons (se_fxP (ok_raw_results Z) mf_raw_results hr (by first | decide | omega) rfl (sa_cons (se_var (i := 0) rfl (by first | exact Or.inl rfl | exact Or.inr (Or.inl rfl) | exact Or.inr (Or.inr rfl)) (Or.inl (hio rfl))) (sa_cons (se_var (i := 1) rfl (by first | exact Or.inl rfl | exact Or.inr (Or.inl rfl) | exact Or.inr (Or.inr rfl)) (Or.inl (hio rfl))) sa_nil))) (sa_cons (se_fxP (ok_raw_results Z) mf_raw_results hr (by first | decide | omega) rfl (sa_cons (se_var (i := 0) rfl (by first | exact Or.inl rfl | exact Or.inr (Or.inl rfl) | exact Or.inr (Or.inr rfl)) (Or.inl (hio rfl))) (sa_cons (se_var (i := 2) rfl (by first | exact Or.inl rfl | exact Or.inr (Or.inl rfl) | exact Or.inr (Or.inr rfl)) (Or.inl (hio rfl))) sa_nil))) sa_nil))) (blkOk_by (own := [("here", 3), ("there", 4)]) (N := N_raw_apart) (sc := defScope s_raw_apart) (by decide +kernel)) (by decide) (Or.inl (hio rfl)) (by intro _ _ _ _ _; exact (sg_tup rfl (sgs_cons (sg_name (i := 3) nd rfl (by first | exact Or.inl rfl | exact Or.inr rfl) (Or.inl (hio rfl))) (sgs_cons (sg_name (i := 4) nd rfl (by first | exact Or.inl rfl | exact Or.inr rfl) (Or.inl (hio rfl))) sgs_nil)))) (by intro _ _ _ _ _; exact (sts_one (st_ne hr (se_bor (i := 3) rfl (by first | exact Or.inl rfl | exact Or.inr (Or.inl rfl) | exact Or.inr (Or.inr rfl))) (se_bor (i := 4) rfl (by first | exact Or.inl rfl | exact Or.inr (Or.inl rfl) | exact Or.inr (Or.inr rfl)))))) (by intro _ _ _ _ _; exact se_int)) sa_nil)))))
abbrev s_apart_by : Stmt := top 38
abbrev N_apart_by : List Str := ["n", "set_of", "one", "other", "case"]
theorem sc_apart_by : FnScope ["n", "set_of", "one", "other", "case"] ["n", "set_of", "one", "other"] (defScope s_apart_by) := ⟨rfl, rfl, rfl, by decide +kernel, rfl, by decide +kernel, by decide +kernel⟩
theorem ok_apart_by (Z : Prog K mg base cc_law pp_law) : FnX P w K mg base 7 "apart_by" ["n", "set_of", "one", "other"] (spPX K mg 4 F_apart_by) := by
  have nd := sc_apart_by.nd
  exact fnX_P Z.f_apart_by sc_apart_by rfl (by decide) (fun f cdv A outer s H E hr c W hio hok tk =>
    (sss_cons
    (ss_expr (se_fxP (ok_check_set Z) mf_check_set hr (by first | decide | omega) rfl (sa_cons (se_var (i := 0) rfl (by first | exact Or.inl rfl | exact Or.inr (Or.inl rfl) | exact Or.inr (Or.inr rfl)) (Or.inl (hio rfl))) (sa_cons (se_var (i := 1) rfl (by first | exact Or.inl rfl | exact Or.inr (Or.inl rfl) | exact Or.inr (Or.inr rfl)) (Or.inl (hio rfl))) sa_nil)))) (sss_cons
    (ss_for (passes_of rfl) rfl (si_seq (se_tup (sa_cons (se_var (i := 2) rfl (by first | exact Or.inl rfl | exact Or.inr (Or.inl rfl) | exact Or.inr (Or.inr rfl)) (Or.inl (hio rfl))) (sa_cons (se_var (i := 3) rfl (by first | exact Or.inl rfl | exact Or.inr (Or.inl rfl) | exact Or.inr (Or.inr rfl)) (Or.inl (hio rfl))) sa_nil)))) (by intro _; exact (sg_name (i := 4) nd rfl (by first | exact Or.inl rfl | exact Or.inr rfl) (Or.inl (hio rfl)))) (by intro _; exact (sss_one
    (ss_if (st_not (st_tru (se_fxP (ok_is_case Z) mf_is_case hr (by first | decide | omega) rfl (sa_cons (se_var (i := 0) rfl (by first | exact Or.inl rfl | exact Or.inr (Or.inl rfl) | exact Or.inr (Or.inr rfl)) (Or.inl (hio rfl))) (sa_cons (se_var (i := 4) rfl (by first | exact Or.inl rfl | exact Or.inr (Or.inl rfl) | exact Or.inr (Or.inr rfl)) (Or.inl (hio rfl))) sa_nil))))) (sss_one
    (ss_raiseM Z.x_NoCase rfl rfl)) sss_nil)))) (sss_one
    (ss_ret (se_fxP (ok_raw_apart Z) mf_raw_apart hr (by first | decide | omega) rfl (sa_cons (se_var (i := 1) rfl (by first | exact Or.inl rfl | exact Or.inr (Or.inl rfl) | exact Or.inr (Or.inr rfl)) (Or.inl (hio rfl))) (sa_cons (se_var (i := 2) rfl (by first | exact Or.inl rfl | exact Or.inr (Or.inl rfl) | exact Or.inr (Or.inr rfl)) (Or.inl (hio rfl))) (sa_cons (se_var (i := 3) rfl (by first | exact Or.inl rfl | exact Or.inr (Or.inl rfl) | exact Or.inr (Or.inr rfl)) (Or.inl (hio rfl))) sa_nil)))))))))
abbrev s__law_hand : Stmt := top 40
abbrev N__law_hand : List Str := ["script", "cells", "cell"]
theorem sc__law_hand : FnScope ["script", "cells", "cell"] ["script"] (defScope s__law_hand) := ⟨rfl, rfl, rfl, by decide +kernel, rfl, by decide +kernel, by decide +kernel⟩
theorem ok__law_hand (Z : Prog K mg base cc_law pp_law) : FnX P w K mg base 1 "_law_hand" ["script"] (spS K F__law_hand) := by
  have nd := sc__law_hand.nd
  exact fnX_S Z.f__law_hand sc__law_hand rfl (by decide) (fun f cdv A outer s H E hr c W hio hok tk =>
    (sss_cons
    (ss_asgLc (own := [("cell", 2)]) (i := 1) rfl nd rfl rfl (Or.inl (hio rfl)) (sw_true rfl rfl rfl (by decide +kernel)) (si_seq (se_slSc (i := 0) rfl (by first | exact Or.inl rfl | exact Or.inr (Or.inl rfl) | exact Or.inr (Or.inr rfl)))) (blkOk_by (own := [("cell", 2)]) (N := N__law_hand) (sc := defScope s__law_hand) (by decide +kernel)) (by decide) (Or.inl (hio rfl)) (by intro _ _ _ _ _; exact (sg_name (i := 2) nd rfl (by first | exact Or.inl rfl | exact Or.inr rfl) (Or.inl (hio rfl)))) (by intro _ _ _ _ _; exact sts_nil) (by intro _ _ _ _ _; exact (se_callB call_abs cs_abs mc_abs rfl Z.z_abs PyProof.Rows.boot_abs (sa_cons (se_callTy call_int1 cs_int mc_int rfl Z.z_int PyProof.Rows.boot_int (sa_cons (se_bor (i := 2) rfl (by first | exact Or.inl rfl | exact Or.inr (Or.inl rfl) | exact Or.inr (Or.inr rfl))) sa_nil)) sa_nil)))) (sss_one
    (ss_ret (se_lst (sa_cons (se_var (i := 1) rfl (by first | exact Or.inl rfl | exact Or.inr (Or.inl rfl) | exact Or.inr (Or.inr rfl)) (Or.inl (hio rfl))) (sa_cons se_int (sa_cons se_int (sa_cons (se_add se_int (se_mul se_int (se_callB cr_len cs_len mc_len rfl Z.z_len PySem.boot_len (sa_cons (se_bor (i := 1) rfl (by first | exact Or.inl rfl | exact Or.inr (Or.inl rfl) | exact Or.inr (Or.inr rfl))) sa_nil)))) (sa_cons se_int sa_nil))))))))))
abbrev s__law_draw : Stmt := top 41
abbrev N__law_draw : List Str := ["hand", "many", "cell", "digit", "number"]
theorem sc__law_draw : FnScope ["hand", "many", "cell", "digit", "number"] ["hand", "many"] (defScope s__law_draw) := ⟨rfl, rfl, rfl, by decide +kernel, rfl, by decide +kernel, by decide +kernel⟩
theorem ok__law_draw (Z : Prog K mg base cc_law pp_law) : FnX P w K mg base 1 "_law_draw" ["hand", "many"] (spIX K 2 F__law_draw) := by
  have nd := sc__law_draw.nd
  exact fnX_I Z.f__law_draw sc__law_draw rfl (by decide) (fun f cdv A outer s H E hr c W hio hok tk =>
    (sss_cons
    (ss_if (SW.st (sw_and (st_eq hr (se_ixD hr (se_bor (i := 0) rfl (by first | exact Or.inl rfl | exact Or.inr (Or.inl rfl) | exact Or.inr (Or.inr rfl))) se_int) se_int) (sw_and1 (st_ord (by rfl) hr (se_ixD hr (se_bor (i := 0) rfl (by first | exact Or.inl rfl | exact Or.inr (Or.inl rfl) | exact Or.inr (Or.inr rfl))) se_int) (se_callB cr_len cs_len mc_len rfl Z.z_len PySem.boot_len (sa_cons (se_ixD hr (se_bor (i := 0) rfl (by first | exact Or.inl rfl | exact Or.inr (Or.inl rfl) | exact Or.inr (Or.inr rfl))) se_int) sa_nil)))))) (sss_cons
    (ss_asg (i := 2) nd rfl (by first | exact Or.inl rfl | exact Or.inr rfl) (Or.inr (by decide)) (se_ixD hr (se_ixD hr (se_bor (i := 0) rfl (by first | exact Or.inl rfl | exact Or.inr (Or.inl rfl) | exact Or.inr (Or.inr rfl))) se_int) (se_ixD hr (se_bor (i := 0) rfl (by first | exact Or.inl rfl | exact Or.inr (Or.inl rfl) | exact Or.inr (Or.inr rfl))) se_int))) (sss_cons
    (ss_putIx (i := 0) hr rfl (by first | exact Or.inl rfl | exact Or.inr (Or.inl rfl) | exact Or.inr (Or.inr rfl)) (se_add (se_ixD hr (se_bor (i := 0) rfl (by first | exact Or.inl rfl | exact Or.inr (Or.inl rfl) | exact Or.inr (Or.inr rfl))) se_int) se_int) se_int) (sss_cons
    (ss_putIx (i := 0) hr rfl (by first | exact Or.inl rfl | exact Or.inr (Or.inl rfl) | exact Or.inr (Or.inr rfl)) (se_mod (se_callTy call_int1 cs_int mc_int rfl Z.z_int PyProof.Rows.boot_int (sa_cons (se_add (se_add (se_mul (se_ixD hr (se_bor (i := 0) rfl (by first | exact Or.inl rfl | exact Or.inr (Or.inl rfl) | exact Or.inr (Or.inr rfl))) se_int) se_int) (se_mul (se_bor (i := 2) rfl (by first | exact Or.inl rfl | exact Or.inr (Or.inl rfl) | exact Or.inr (Or.inr rfl))) se_int)) se_int) sa_nil)) se_int) se_int) (sss_one
    (ss_if (st_ord (by rfl) hr (se_bor (i := 2) rfl (by first | exact Or.inl rfl | exact Or.inr (Or.inl rfl) | exact Or.inr (Or.inr rfl))) (se_pow se_int se_int)) (sss_one
    (ss_putIx (i := 0) hr rfl (by first | exact Or.inl rfl | exact Or.inr (Or.inl rfl) | exact Or.inr (Or.inr rfl)) (se_var (i := 2) rfl (by first | exact Or.inl rfl | exact Or.inr (Or.inl rfl) | exact Or.inr (Or.inr rfl)) (Or.inr (by decide))) se_int)) sss_nil))))) sss_nil) (sss_cons
    (ss_if (st_ord (by rfl) hr (se_ixD hr (se_bor (i := 0) rfl (by first | exact Or.inl rfl | exact Or.inr (Or.inl rfl) | exact Or.inr (Or.inr rfl))) se_int) se_int) (sss_cons
    (ss_asg (i := 3) nd rfl (by first | exact Or.inl rfl | exact Or.inr rfl) (Or.inr (by decide)) (se_mod (se_callTy call_int1 cs_int mc_int rfl Z.z_int PyProof.Rows.boot_int (sa_cons (se_ixD hr (se_bor (i := 0) rfl (by first | exact Or.inl rfl | exact Or.inr (Or.inl rfl) | exact Or.inr (Or.inr rfl))) se_int) sa_nil)) (se_bor (i := 1) rfl (by first | exact Or.inl rfl | exact Or.inr (Or.inl rfl) | exact Or.inr (Or.inr rfl))))) (sss_cons
    (ss_putIx (i := 0) hr rfl (by first | exact Or.inl rfl | exact Or.inr (Or.inl rfl) | exact Or.inr (Or.inr rfl)) (se_fdiv (se_ixD hr (se_bor (i := 0) rfl (by first | exact Or.inl rfl | exact Or.inr (Or.inl rfl) | exact Or.inr (Or.inr rfl))) se_int) (se_bor (i := 1) rfl (by first | exact Or.inl rfl | exact Or.inr (Or.inl rfl) | exact Or.inr (Or.inr rfl)))) se_int) (sss_one
    (ss_ret (se_var (i := 3) rfl (by first | exact Or.inl rfl | exact Or.inr (Or.inl rfl) | exact Or.inr (Or.inr rfl)) (Or.inr (by decide))))))) sss_nil) (sss_cons
    (ss_putIx (i := 0) hr rfl (by first | exact Or.inl rfl | exact Or.inr (Or.inl rfl) | exact Or.inr (Or.inr rfl)) (se_add (se_ixD hr (se_bor (i := 0) rfl (by first | exact Or.inl rfl | exact Or.inr (Or.inl rfl) | exact Or.inr (Or.inr rfl))) se_int) se_int) se_int) (sss_cons
    (ss_asg (i := 4) nd rfl (by first | exact Or.inl rfl | exact Or.inr rfl) (Or.inr (by decide)) (se_mod (se_callTy call_int1 cs_int mc_int rfl Z.z_int PyProof.Rows.boot_int (sa_cons (se_mul (se_callTy call_int1 cs_int mc_int rfl Z.z_int PyProof.Rows.boot_int (sa_cons (se_add (se_ixD hr (se_bor (i := 0) rfl (by first | exact Or.inl rfl | exact Or.inr (Or.inl rfl) | exact Or.inr (Or.inr rfl))) se_int) (se_mul se_int (se_ixD hr (se_bor (i := 0) rfl (by first | exact Or.inl rfl | exact Or.inr (Or.inl rfl) | exact Or.inr (Or.inr rfl))) se_int))) sa_nil)) se_int) sa_nil)) se_int)) (sss_cons
    (ss_asg (i := 4) nd rfl (by first | exact Or.inl rfl | exact Or.inr rfl) (Or.inr (by decide)) (se_mod (se_callTy call_int1 cs_int mc_int rfl Z.z_int PyProof.Rows.boot_int (sa_cons (se_mul (se_bor (i := 4) rfl (by first | exact Or.inl rfl | exact Or.inr (Or.inl rfl) | exact Or.inr (Or.inr rfl))) (se_add (se_fdiv (se_bor (i := 4) rfl (by first | exact Or.inl rfl | exact Or.inr (Or.inl rfl) | exact Or.inr (Or.inr rfl))) se_int) se_int)) sa_nil)) se_int)) (sss_cons
    (ss_asg (i := 4) nd rfl (by first | exact Or.inl rfl | exact Or.inr rfl) (Or.inr (by decide)) (se_mod (se_callTy call_int1 cs_int mc_int rfl Z.z_int PyProof.Rows.boot_int (sa_cons (se_mul (se_bor (i := 4) rfl (by first | exact Or.inl rfl | exact Or.inr (Or.inl rfl) | exact Or.inr (Or.inr rfl))) (se_add (se_fdiv (se_bor (i := 4) rfl (by first | exact Or.inl rfl | exact Or.inr (Or.inl rfl) | exact Or.inr (Or.inr rfl))) se_int) se_int)) sa_nil)) se_int)) (sss_one
    (ss_ret (se_mod (se_callTy call_int1 cs_int mc_int rfl Z.z_int PyProof.Rows.boot_int (sa_cons (se_fdiv (se_bor (i := 4) rfl (by first | exact Or.inl rfl | exact Or.inr (Or.inl rfl) | exact Or.inr (Or.inr rfl))) se_int) sa_nil)) (se_bor (i := 1) rfl (by first | exact Or.inl rfl | exact Or.inr (Or.inl rfl) | exact Or.inr (Or.inr rfl)))))))))))))
abbrev s__law_any : Stmt := top 42
abbrev N__law_any : List Str := ["hand", "some"]
theorem sc__law_any : FnScope ["hand", "some"] ["hand", "some"] (defScope s__law_any) := ⟨rfl, rfl, rfl, by decide +kernel, rfl, by decide +kernel, by decide +kernel⟩
theorem ok__law_any (Z : Prog K mg base cc_law pp_law) : FnX P w K mg base 2 "_law_any" ["hand", "some"] (spIX K 2 F__law_any) := by
  have nd := sc__law_any.nd
  exact fnX_I Z.f__law_any sc__law_any rfl (by decide) (fun f cdv A outer s H E hr c W hio hok tk =>
    (sss_one
    (ss_ret (se_ixD hr (se_bor (i := 1) rfl (by first | exact Or.inl rfl | exact Or.inr (Or.inl rfl) | exact Or.inr (Or.inr rfl))) (se_fxI (i := 0) (ok__law_draw Z) mf__law_draw hr (by first | decide | omega) rfl rfl (by first | exact Or.inl rfl | exact Or.inr (Or.inl rfl) | exact Or.inr (Or.inr rfl)) (sa_cons (se_callB cr_len cs_len mc_len rfl Z.z_len PySem.boot_len (sa_cons (se_bor (i := 1) rfl (by first | exact Or.inl rfl | exact Or.inr (Or.inl rfl) | exact Or.inr (Or.inr rfl))) sa_nil)) sa_nil))))))
abbrev s__law_cases : Stmt := top 43
abbrev N__law_cases : List Str := ["n", "kind", "words", "found", "word", "coin"]
theorem sc__law_cases : FnScope ["n", "kind", "words", "found", "word", "coin"] ["n", "kind"] (defScope s__law_cases) := ⟨rfl, rfl, rfl, by decide +kernel, rfl, by decide +kernel, by decide +kernel⟩
theorem ok__law_cases (Z : Prog K mg base cc_law pp_law) : FnX P w K mg base 1 "_law_cases" ["n", "kind"] (spPX K mg 2 F__law_cases) := by
  have nd := sc__law_cases.nd
  exact fnX_P Z.f__law_cases sc__law_cases rfl (by decide) (fun f cdv A outer s H E hr c W hio hok tk =>
    (sss_cons
    (ss_asg (i := 2) nd rfl (by first | exact Or.inl rfl | exact Or.inr rfl) (Or.inl (hio rfl)) (se_if (st_eq hr (se_bor (i := 1) rfl (by first | exact Or.inl rfl | exact Or.inr (Or.inl rfl) | exact Or.inr (Or.inr rfl))) se_str) (se_lst (sa_cons se_str (sa_cons se_str sa_nil))) (se_lst (sa_cons (se_var (i := 1) rfl (by first | exact Or.inl rfl | exact Or.inr (Or.inl rfl) | exact Or.inr (Or.inr rfl)) (Or.inl (hio rfl))) sa_nil)))) (sss_cons
    (ss_asg (i := 3) nd rfl (by first | exact Or.inl rfl | exact Or.inr rfl) (Or.inl (hio rfl)) (se_lst sa_nil)) (sss_cons
    (ss_for (passes_of rfl) rfl (si_seq (se_var (i := 2) rfl (by first | exact Or.inl rfl | exact Or.inr (Or.inl rfl) | exact Or.inr (Or.inr rfl)) (Or.inl (hio rfl)))) (by intro _; exact (sg_name (i := 4) nd rfl (by first | exact Or.inl rfl | exact Or.inr rfl) (Or.inl (hio rfl)))) (by intro _; exact (sss_one
    (ss_asg (i := 3) nd rfl (by first | exact Or.inl rfl | exact Or.inr rfl) (Or.inl (hio rfl)) (se_add (se_bor (i := 3) rfl (by first | exact Or.inl rfl | exact Or.inr (Or.inl rfl) | exact Or.inr (Or.inr rfl))) (by exact se_comp (own := [("coin", 5)]) rfl nd (si_rng1 rfl Z.z_range (se_var (i := 0) rfl (by first | exact Or.inl rfl | exact Or.inr (Or.inl rfl) | exact Or.inr (Or.inr rfl)) (Or.inl (hio rfl)))) (blkOk_by (own := [("coin", 5)]) (N := N__law_cases) (sc := defScope s__law_cases) (by decide +kernel)) (by decide) (Or.inl (hio rfl)) (by intro _ _ _ _ _; exact (sg_name (i := 5) nd rfl (by first | exact Or.inl rfl | exact Or.inr rfl) (Or.inl (hio rfl)))) (by intro _ _ _ _ _; exact sts_nil) (by intro _ _ _ _ _; exact (se_tup (sa_cons (se_var (i := 4) rfl (by first | exact Or.inl rfl | exact Or.inr (Or.inl rfl) | exact Or.inr (Or.inr rfl)) (Or.inl (hio rfl))) (sa_cons (se_var (i := 5) rfl (by first | exact Or.inl rfl | exact Or.inr (Or.inl rfl) | exact Or.inr (Or.inr rfl)) (Or.inl (hio rfl))) sa_nil)))))))))) (sss_one
    (ss_ret (se_var (i := 3) rfl (by first | exact Or.inl rfl | exact Or.inr (Or.inl rfl) | exact Or.inr (Or.inr rfl)) (Or.inl (hio rfl)))))))))
abbrev s__law_result : Stmt := top 44
abbrev N__law_result : List Str := ["case", "weighing", "word", "coin"]
theorem sc__law_result : FnScope ["case", "weighing", "word", "coin"] ["case", "weighing"] (defScope s__law_result) := ⟨rfl, rfl, rfl, by decide +kernel, rfl, by decide +kernel, by decide +kernel⟩
theorem ok__law_result (Z : Prog K mg base cc_law pp_law) : FnX P w K mg base 1 "_law_result" ["case", "weighing"] (spPX K mg 2 F__law_result) := by
  have nd := sc__law_result.nd
  exact fnX_P Z.f__law_result sc__law_result rfl (by decide) (fun f cdv A outer s H E hr c W hio hok tk =>
    (sss_cons
    (ss_asgT (se_var (i := 0) rfl (by first | exact Or.inl rfl | exact Or.inr (Or.inl rfl) | exact Or.inr (Or.inr rfl)) (Or.inl (hio rfl))) (sg_tup rfl (sgs_cons (sg_name (i := 2) nd rfl (by first | exact Or.inl rfl | exact Or.inr rfl) (Or.inl (hio rfl))) (sgs_cons (sg_name (i := 3) nd rfl (by first | exact Or.inl rfl | exact Or.inr rfl) (Or.inl (hio rfl))) sgs_nil)))) (sss_cons
    (ss_if (st_notInD hr (se_bor (i := 3) rfl (by first | exact Or.inl rfl | exact Or.inr (Or.inl rfl) | exact Or.inr (Or.inr rfl))) (se_add (se_ixD hr (se_bor (i := 1) rfl (by first | exact Or.inl rfl | exact Or.inr (Or.inl rfl) | exact Or.inr (Or.inr rfl))) se_int) (se_ixD hr (se_bor (i := 1) rfl (by first | exact Or.inl rfl | exact Or.inr (Or.inl rfl) | exact Or.inr (Or.inr rfl))) se_int))) (sss_one
    (ss_ret se_str)) sss_nil) (sss_one
    (ss_ret (se_if (st_eq hr (se_inD hr (se_bor (i := 3) rfl (by first | exact Or.inl rfl | exact Or.inr (Or.inl rfl) | exact Or.inr (Or.inr rfl))) (se_ixD hr (se_bor (i := 1) rfl (by first | exact Or.inl rfl | exact Or.inr (Or.inl rfl) | exact Or.inr (Or.inr rfl))) se_int)) (se_eq hr (se_bor (i := 2) rfl (by first | exact Or.inl rfl | exact Or.inr (Or.inl rfl) | exact Or.inr (Or.inr rfl))) se_str)) se_str se_str))))))
abbrev s__law_weighing : Stmt := top 45
abbrev N__law_weighing : List Str := ["hand", "n", "left", "many", "some", "step"]
theorem sc__law_weighing : FnScope ["hand", "n", "left", "many", "some", "step"] ["hand", "n"] (defScope s__law_weighing) := ⟨rfl, rfl, rfl, by decide +kernel, rfl, by decide +kernel, by decide +kernel⟩
theorem ok__law_weighing (Z : Prog K mg base cc_law pp_law) : FnX P w K mg base 2 "_law_weighing" ["hand", "n"] (spIX K 2 F__law_weighing) := by
  have nd := sc__law_weighing.nd
  exact fnX_I Z.f__law_weighing sc__law_weighing rfl (by decide) (fun f cdv A outer s H E hr c W hio hok tk =>
    (sss_cons
    (ss_asg (i := 2) nd rfl (by first | exact Or.inl rfl | exact Or.inr rfl) (Or.inr (by decide)) (se_listRg1 rfl rfl Z.z_list rfl Z.z_range (se_var (i := 1) rfl (by first | exact Or.inl rfl | exact Or.inr (Or.inl rfl) | exact Or.inr (Or.inr rfl)) (Or.inr (by decide))))) (sss_cons
    (ss_asg (i := 3) nd rfl (by first | exact Or.inl rfl | exact Or.inr rfl) (Or.inr (by decide)) (se_add se_int (se_fxI (i := 0) (ok__law_draw Z) mf__law_draw hr (by first | decide | omega) rfl rfl (by first | exact Or.inl rfl | exact Or.inr (Or.inl rfl) | exact Or.inr (Or.inr rfl)) (sa_cons (se_fdiv (se_bor (i := 1) rfl (by first | exact Or.inl rfl | exact Or.inr (Or.inl rfl) | exact Or.inr (Or.inr rfl))) se_int) sa_nil)))) (sss_cons
    (ss_asgLc (own := [("step", 5)]) (i := 4) rfl nd rfl rfl (Or.inr (by decide)) (sw_true rfl rfl rfl (by decide +kernel)) (si_rng1 rfl Z.z_range (se_mul se_int (se_bor (i := 3) rfl (by first | exact Or.inl rfl | exact Or.inr (Or.inl rfl) | exact Or.inr (Or.inr rfl))))) (blkOk_by (own := [("step", 5)]) (N := N__law_weighing) (sc := defScope s__law_weighing) (by decide +kernel)) (by decide) (Or.inr (by decide)) (by intro _ _ _ _ _; exact (sg_name (i := 5) nd rfl (by first | exact Or.inl rfl | exact Or.inr rfl) (Or.inr (by decide)))) (by intro _ _ _ _ _; exact sts_nil) (by intro _ _ _ _ _; exact (se_mut (i := 2) PySem.F.slot_list_pop PySem.F.type_list_pop mt_popAt ms_popAt mm_popAt rfl (by first | exact Or.inl rfl | exact Or.inr (Or.inl rfl) | exact Or.inr (Or.inr rfl)) (sa_cons (se_fxI (i := 0) (ok__law_draw Z) mf__law_draw hr (by first | decide | omega) rfl rfl (by first | exact Or.inl rfl | exact Or.inr (Or.inl rfl) | exact Or.inr (Or.inr rfl)) (sa_cons (se_callB cr_len cs_len mc_len rfl Z.z_len PySem.boot_len (sa_cons (se_bor (i := 2) rfl (by first | exact Or.inl rfl | exact Or.inr (Or.inl rfl) | exact Or.inr (Or.inr rfl))) sa_nil)) sa_nil)) sa_nil)))) (sss_one
    (ss_ret (se_tup (sa_cons (se_callTy call_tuple_of cs_tuple mc_tuple rfl Z.z_tuple PyProof.Rows.boot_tuple (sa_cons (se_callB (cr_srt hr rfl) cs_srt mc_srt rfl Z.z_sorted PyProof.Rows.boot_sorted (sa_cons (se_slice (se_bor (i := 4) rfl (by first | exact Or.inl rfl | exact Or.inr (Or.inl rfl) | exact Or.inr (Or.inr rfl))) so_none (so_some (se_var (i := 3) rfl (by first | exact Or.inl rfl | exact Or.inr (Or.inl rfl) | exact Or.inr (Or.inr rfl)) (Or.inr (by decide))))) sa_nil)) sa_nil)) (sa_cons (se_callTy call_tuple_of cs_tuple mc_tuple rfl Z.z_tuple PyProof.Rows.boot_tuple (sa_cons (se_callB (cr_srt hr rfl) cs_srt mc_srt rfl Z.z_sorted PyProof.Rows.boot_sorted (sa_cons (se_slice (se_bor (i := 4) rfl (by first | exact Or.inl rfl | exact Or.inr (Or.inl rfl) | exact Or.inr (Or.inr rfl))) (so_some (se_var (i := 3) rfl (by first | exact Or.inl rfl | exact Or.inr (Or.inl rfl) | exact Or.inr (Or.inr rfl)) (Or.inr (by decide)))) so_none) sa_nil)) sa_nil)) sa_nil)))))))))
abbrev s__law_no_coins : Stmt := top 46
abbrev N__law_no_coins : List Str := ["hand"]
theorem sc__law_no_coins : FnScope ["hand"] ["hand"] (defScope s__law_no_coins) := ⟨rfl, rfl, rfl, by decide +kernel, rfl, by decide +kernel, by decide +kernel⟩
theorem ok__law_no_coins (Z : Prog K mg base cc_law pp_law) : FnX P w K mg base 3 "_law_no_coins" ["hand"] (spIX K 1 F__law_no_coins) := by
  have nd := sc__law_no_coins.nd
  exact fnX_I Z.f__law_no_coins sc__law_no_coins rfl (by decide) (fun f cdv A outer s H E hr c W hio hok tk =>
    (sss_one
    (ss_ret (se_fxI (i := 0) (ok__law_any Z) mf__law_any hr (by first | decide | omega) rfl rfl (by first | exact Or.inl rfl | exact Or.inr (Or.inl rfl) | exact Or.inr (Or.inr rfl)) (sa_cons (se_lst (sa_cons se_none (sa_cons se_int (sa_cons se_int (sa_cons se_bool (sa_cons se_str sa_nil)))))) sa_nil)))))
abbrev s__law_set : Stmt := top 47
abbrev N__law_set : List Str := ["hand", "n", "most", "step"]
theorem sc__law_set : FnScope ["hand", "n", "most", "step"] ["hand", "n", "most"] (defScope s__law_set) := ⟨rfl, rfl, rfl, by decide +kernel, rfl, by decide +kernel, by decide +kernel⟩
theorem ok__law_set (Z : Prog K mg base cc_law pp_law) : FnX P w K mg base 3 "_law_set" ["hand", "n", "most"] (spIX K 3 F__law_set) := by
  have nd := sc__law_set.nd
  exact fnX_I Z.f__law_set sc__law_set rfl (by decide) (fun f cdv A outer s H E hr c W hio hok tk =>
    (sss_one
    (ss_ret (se_callTy call_tuple_of cs_tuple mc_tuple rfl Z.z_tuple PyProof.Rows.boot_tuple (sa_cons (by exact se_comp (own := [("step", 3)]) rfl nd (si_rng1 rfl Z.z_range (se_add se_int (se_fxI (i := 0) (ok__law_draw Z) mf__law_draw hr (by first | decide | omega) rfl rfl (by first | exact Or.inl rfl | exact Or.inr (Or.inl rfl) | exact Or.inr (Or.inr rfl)) (sa_cons (se_var (i := 2) rfl (by first | exact Or.inl rfl | exact Or.inr (Or.inl rfl) | exact Or.inr (Or.inr rfl)) (Or.inr (by decide))) sa_nil)))) (blkOk_by (own := [("step", 3)]) (N := N__law_set) (sc := defScope s__law_set) (by decide +kernel)) (by decide) (Or.inr (by decide)) (by intro _ _ _ _ _; exact (sg_name (i := 3) nd rfl (by first | exact Or.inl rfl | exact Or.inr rfl) (Or.inr (by decide)))) (by intro _ _ _ _ _; exact sts_nil) (by intro _ _ _ _ _; exact (se_fxI (i := 0) (ok__law_weighing Z) mf__law_weighing hr (by first | decide | omega) rfl rfl (by first | exact Or.inl rfl | exact Or.inr (Or.inl rfl) | exact Or.inr (Or.inr rfl)) (sa_cons (se_var (i := 1) rfl (by first | exact Or.inl rfl | exact Or.inr (Or.inl rfl) | exact Or.inr (Or.inr rfl)) (Or.inr (by decide))) sa_nil)))) sa_nil)))))
abbrev s__law_results : Stmt := top 48
abbrev N__law_results : List Str := ["set_of", "case", "weighing"]
theorem sc__law_results : FnScope ["set_of", "case", "weighing"] ["set_of", "case"] (defScope s__law_results) := ⟨rfl, rfl, rfl, by decide +kernel, rfl, by decide +kernel, by decide +kernel⟩
theorem ok__law_results (Z : Prog K mg base cc_law pp_law) : FnX P w K mg base 2 "_law_results" ["set_of", "case"] (spPX K mg 2 F__law_results) := by
  have nd := sc__law_results.nd
  exact fnX_P Z.f__law_results sc__law_results rfl (by decide) (fun f cdv A outer s H E hr c W hio hok tk =>
    (sss_one
    (ss_ret (se_callTy call_tuple_of cs_tuple mc_tuple rfl Z.z_tuple PyProof.Rows.boot_tuple (sa_cons (by exact se_comp (own := [("weighing", 2)]) rfl nd (si_seq (se_var (i := 0) rfl (by first | exact Or.inl rfl | exact Or.inr (Or.inl rfl) | exact Or.inr (Or.inr rfl)) (Or.inl (hio rfl)))) (blkOk_by (own := [("weighing", 2)]) (N := N__law_results) (sc := defScope s__law_results) (by decide +kernel)) (by decide) (Or.inl (hio rfl)) (by intro _ _ _ _ _; exact (sg_name (i := 2) nd rfl (by first | exact Or.inl rfl | exact Or.inr rfl) (Or.inl (hio rfl)))) (by intro _ _ _ _ _; exact sts_nil) (by intro _ _ _ _ _; exact (se_fxP (ok__law_result Z) mf__law_result hr (by first | decide | omega) rfl (sa_cons (se_var (i := 1) rfl (by first | exact Or.inl rfl | exact Or.inr (Or.inl rfl) | exact Or.inr (Or.inr rfl)) (Or.inl (hio rfl))) (sa_cons (se_var (i := 2) rfl (by first | exact Or.inl rfl | exact Or.inr (Or.inl rfl) | exact Or.inr (Or.inr rfl)) (Or.inl (hio rfl))) sa_nil))))) sa_nil)))))
abbrev s__law_code : Stmt := top 49
abbrev N__law_code : List Str := ["set_of", "coin", "near", "far"]
theorem sc__law_code : FnScope ["set_of", "coin", "near", "far"] ["set_of", "coin"] (defScope s__law_code) := ⟨rfl, rfl, rfl, by decide +kernel, rfl, by decide +kernel, by decide +kernel⟩
theorem ok__law_code (Z : Prog K mg base cc_law pp_law) : FnX P w K mg base 1 "_law_code" ["set_of", "coin"] (spPX K mg 2 F__law_code) := by
  have nd := sc__law_code.nd
  exact fnX_P Z.f__law_code sc__law_code rfl (by decide) (fun f cdv A outer s H E hr c W hio hok tk =>
    (sss_one
    (ss_ret (se_callTy call_tuple_of cs_tuple mc_tuple rfl Z.z_tuple PyProof.Rows.boot_tuple (sa_cons (by exact se_comp (own := [("near", 2), ("far", 3)]) rfl nd (si_seq (se_var (i := 0) rfl (by first | exact Or.inl rfl | exact Or.inr (Or.inl rfl) | exact Or.inr (Or.inr rfl)) (Or.inl (hio rfl)))) (blkOk_by (own := [("near", 2), ("far", 3)]) (N := N__law_code) (sc := defScope s__law_code) (by decide +kernel)) (by decide) (Or.inl (hio rfl)) (by intro _ _ _ _ _; exact (sg_tup rfl (sgs_cons (sg_name (i := 2) nd rfl (by first | exact Or.inl rfl | exact Or.inr rfl) (Or.inl (hio rfl))) (sgs_cons (sg_name (i := 3) nd rfl (by first | exact Or.inl rfl | exact Or.inr rfl) (Or.inl (hio rfl))) sgs_nil)))) (by intro _ _ _ _ _; exact sts_nil) (by intro _ _ _ _ _; exact (se_sub (se_callTy call_int1 cs_int mc_int rfl Z.z_int PyProof.Rows.boot_int (sa_cons (se_inD hr (se_bor (i := 1) rfl (by first | exact Or.inl rfl | exact Or.inr (Or.inl rfl) | exact Or.inr (Or.inr rfl))) (se_bor (i := 2) rfl (by first | exact Or.inl rfl | exact Or.inr (Or.inl rfl) | exact Or.inr (Or.inr rfl)))) sa_nil)) (se_callTy call_int1 cs_int mc_int rfl Z.z_int PyProof.Rows.boot_int (sa_cons (se_inD hr (se_bor (i := 1) rfl (by first | exact Or.inl rfl | exact Or.inr (Or.inl rfl) | exact Or.inr (Or.inr rfl))) (se_bor (i := 3) rfl (by first | exact Or.inl rfl | exact Or.inr (Or.inl rfl) | exact Or.inr (Or.inr rfl)))) sa_nil))))) sa_nil)))))
abbrev s__law_apart : Stmt := top 50
abbrev N__law_apart : List Str := ["one", "other", "a", "b"]
theorem sc__law_apart : FnScope ["one", "other", "a", "b"] ["one", "other"] (defScope s__law_apart) := ⟨rfl, rfl, rfl, by decide +kernel, rfl, by decide +kernel, by decide +kernel⟩
theorem ok__law_apart (Z : Prog K mg base cc_law pp_law) : FnX P w K mg base 1 "_law_apart" ["one", "other"] (spPX K mg 2 F__law_apart) := by
  have nd := sc__law_apart.nd
  exact fnX_P Z.f__law_apart sc__law_apart rfl (by decide) (fun f cdv A outer s H E hr c W hio hok tk =>
    (sss_one
    (ss_ret (se_callB cr_len cs_len mc_len rfl Z.z_len PySem.boot_len (sa_cons (by exact se_comp (own := [("a", 2), ("b", 3)]) rfl nd (si_zip2N rfl Z.z_zip (sa_cons (se_var (i := 0) rfl (by first | exact Or.inl rfl | exact Or.inr (Or.inl rfl) | exact Or.inr (Or.inr rfl)) (Or.inl (hio rfl))) (sa_cons (se_var (i := 1) rfl (by first | exact Or.inl rfl | exact Or.inr (Or.inl rfl) | exact Or.inr (Or.inr rfl)) (Or.inl (hio rfl))) sa_nil))) (blkOk_by (own := [("a", 2), ("b", 3)]) (N := N__law_apart) (sc := defScope s__law_apart) (by decide +kernel)) (by decide) (Or.inl (hio rfl)) (by intro _ _ _ _ _; exact (sg_tup rfl (sgs_cons (sg_name (i := 2) nd rfl (by first | exact Or.inl rfl | exact Or.inr rfl) (Or.inl (hio rfl))) (sgs_cons (sg_name (i := 3) nd rfl (by first | exact Or.inl rfl | exact Or.inr rfl) (Or.inl (hio rfl))) sgs_nil)))) (by intro _ _ _ _ _; exact (sts_one (st_ne hr (se_bor (i := 2) rfl (by first | exact Or.inl rfl | exact Or.inr (Or.inl rfl) | exact Or.inr (Or.inr rfl))) (se_bor (i := 3) rfl (by first | exact Or.inl rfl | exact Or.inr (Or.inl rfl) | exact Or.inr (Or.inr rfl)))))) (by intro _ _ _ _ _; exact se_int)) sa_nil)))))
abbrev s__law_no_set : Stmt := top 51
abbrev N__law_no_set : List Str := ["hand", "some"]
theorem sc__law_no_set : FnScope ["hand", "some"] ["hand"] (defScope s__law_no_set) := ⟨rfl, rfl, rfl, by decide +kernel, rfl, by decide +kernel, by decide +kernel⟩
theorem ok__law_no_set (Z : Prog K mg base cc_law pp_law) : FnX P w K mg base 3 "_law_no_set" ["hand"] (spIX K 1 F__law_no_set) := by
  have nd := sc__law_no_set.nd
  exact fnX_I Z.f__law_no_set sc__law_no_set rfl (by decide) (fun f cdv A outer s H E hr c W hio hok tk =>
    (sss_cons
    (ss_asg (i := 1) nd rfl (by first | exact Or.inl rfl | exact Or.inr rfl) (Or.inr (by decide)) (se_lst (sa_cons se_none (sa_cons (se_tup sa_nil) (sa_cons (se_lst (sa_cons (se_tup (sa_cons (se_tup (sa_cons se_int sa_nil)) (sa_cons (se_tup (sa_cons se_int sa_nil)) sa_nil))) sa_nil)) (sa_cons (se_mulR (se_tup (sa_cons (se_tup (sa_cons (se_tup (sa_cons se_int sa_nil)) (sa_cons (se_tup (sa_cons se_int sa_nil)) sa_nil))) sa_nil)) se_int) (sa_cons (se_tup (sa_cons (se_tup (sa_cons (se_tup (sa_cons se_int sa_nil)) (sa_cons (se_tup (sa_cons se_int sa_nil)) sa_nil))) sa_nil)) (sa_cons (se_tup (sa_cons (se_tup (sa_cons (se_tup (sa_cons se_int sa_nil)) sa_nil)) sa_nil)) (sa_cons (se_tup (sa_cons (se_tup (sa_cons (se_tup (sa_cons se_int sa_nil)) (sa_cons (se_tup (sa_cons se_int sa_nil)) sa_nil))) sa_nil)) (sa_cons se_int sa_nil)))))))))) (sss_cons
    (ss_expr (se_mut (i := 1) PySem.F.slot_list_append PySem.F.type_list_append mt_append ms_append mm_append rfl (by first | exact Or.inl rfl | exact Or.inr (Or.inl rfl) | exact Or.inr (Or.inr rfl)) (sa_cons (se_tup (sa_cons (se_tup (sa_cons (se_tup (sa_cons se_int (sa_cons se_int sa_nil))) (sa_cons (se_tup (sa_cons se_int sa_nil)) sa_nil))) sa_nil)) sa_nil))) (sss_one
    (ss_ret (se_fxI (i := 0) (ok__law_any Z) mf__law_any hr (by first | decide | omega) rfl rfl (by first | exact Or.inl rfl | exact Or.inr (Or.inl rfl) | exact Or.inr (Or.inr rfl)) (sa_cons (se_var (i := 1) rfl (by first | exact Or.inl rfl | exact Or.inr (Or.inl rfl) | exact Or.inr (Or.inr rfl)) (Or.inr (by decide))) sa_nil)))))))
abbrev s_law : Stmt := top 53
abbrev N_law : List Str := ["script", "hand", "turn", "n", "set_of", "one", "other", "results", "turned", "bad", "off", "last", "odd", "words", "weighing"]
theorem sc_law : FnScope ["script", "hand", "turn", "n", "set_of", "one", "other", "results", "turned", "bad", "off", "last", "odd", "words", "weighing"] ["script"] (defScope s_law) := ⟨rfl, rfl, rfl, by decide +kernel, rfl, by decide +kernel, by decide +kernel⟩
theorem body_law (Z : Prog K mg base cc_law pp_law) : ∀ f, BodyXC P w K mg base "law" s_law cc_law f N_law 9 false (TmOk (mkT (Tt pp_law))) m_law := by
  have nd := sc_law.nd
  exact (fun f A outer s H E hr c W hio hok tk =>
    (sss_cons
    (ss_asg (i := 1) nd rfl (by first | exact Or.inl rfl | exact Or.inr rfl) (Or.inl (hio rfl)) (se_fxS (i := 0) (ok__law_hand Z) mf__law_hand hr (by first | decide | omega) rfl rfl (by first | exact Or.inl rfl | exact Or.inr (Or.inl rfl) | exact Or.inr (Or.inr rfl)))) (sss_cons
    (ss_for (passes_of rfl) rfl (si_rng1 rfl Z.z_range se_int) (by intro _; exact (sg_name (i := 2) nd rfl (by first | exact Or.inl rfl | exact Or.inr rfl) (Or.inl (hio rfl)))) (by intro _; exact (sss_cons
    (ss_asg (i := 3) nd rfl (by first | exact Or.inl rfl | exact Or.inr rfl) (Or.inl (hio rfl)) (se_add se_int (se_fxI (i := 1) (ok__law_draw Z) mf__law_draw hr (by first | decide | omega) rfl rfl (by first | exact Or.inl rfl | exact Or.inr (Or.inl rfl) | exact Or.inr (Or.inr rfl)) (sa_cons se_int sa_nil)))) (sss_cons
    (ss_asg (i := 4) nd rfl (by first | exact Or.inl rfl | exact Or.inr rfl) (Or.inl (hio rfl)) (se_fxI (i := 1) (ok__law_set Z) mf__law_set hr (by first | decide | omega) rfl rfl (by first | exact Or.inl rfl | exact Or.inr (Or.inl rfl) | exact Or.inr (Or.inr rfl)) (sa_cons (se_var (i := 3) rfl (by first | exact Or.inl rfl | exact Or.inr (Or.inl rfl) | exact Or.inr (Or.inr rfl)) (Or.inl (hio rfl))) (sa_cons se_int sa_nil)))) (sss_cons
    (ss_asgT (se_tup (sa_cons (se_fxI (i := 1) (ok__law_any Z) mf__law_any hr (by first | decide | omega) rfl rfl (by first | exact Or.inl rfl | exact Or.inr (Or.inl rfl) | exact Or.inr (Or.inr rfl)) (sa_cons (se_fxP (ok__law_cases Z) mf__law_cases hr (by first | decide | omega) rfl (sa_cons (se_var (i := 3) rfl (by first | exact Or.inl rfl | exact Or.inr (Or.inl rfl) | exact Or.inr (Or.inr rfl)) (Or.inl (hio rfl))) (sa_cons se_str sa_nil))) sa_nil)) (sa_cons (se_fxI (i := 1) (ok__law_any Z) mf__law_any hr (by first | decide | omega) rfl rfl (by first | exact Or.inl rfl | exact Or.inr (Or.inl rfl) | exact Or.inr (Or.inr rfl)) (sa_cons (se_fxP (ok__law_cases Z) mf__law_cases hr (by first | decide | omega) rfl (sa_cons (se_var (i := 3) rfl (by first | exact Or.inl rfl | exact Or.inr (Or.inl rfl) | exact Or.inr (Or.inr rfl)) (Or.inl (hio rfl))) (sa_cons se_str sa_nil))) sa_nil)) sa_nil))) (sg_tup rfl (sgs_cons (sg_name (i := 5) nd rfl (by first | exact Or.inl rfl | exact Or.inr rfl) (Or.inl (hio rfl))) (sgs_cons (sg_name (i := 6) nd rfl (by first | exact Or.inl rfl | exact Or.inr rfl) (Or.inl (hio rfl))) sgs_nil)))) (sss_cons
    (ss_asg (i := 7) nd rfl (by first | exact Or.inl rfl | exact Or.inr rfl) (Or.inl (hio rfl)) (se_fxP (ok__law_results Z) mf__law_results hr (by first | decide | omega) rfl (sa_cons (se_var (i := 4) rfl (by first | exact Or.inl rfl | exact Or.inr (Or.inl rfl) | exact Or.inr (Or.inr rfl)) (Or.inl (hio rfl))) (sa_cons (se_var (i := 5) rfl (by first | exact Or.inl rfl | exact Or.inr (Or.inl rfl) | exact Or.inr (Or.inr rfl)) (Or.inl (hio rfl))) sa_nil)))) (sss_cons
    (ss_if (SW.st (sw_or (st_ne hr (se_fxP (ok_results_of Z) mf_results_of hr (by first | decide | omega) rfl (sa_cons (se_var (i := 3) rfl (by first | exact Or.inl rfl | exact Or.inr (Or.inl rfl) | exact Or.inr (Or.inr rfl)) (Or.inl (hio rfl))) (sa_cons (se_var (i := 4) rfl (by first | exact Or.inl rfl | exact Or.inr (Or.inl rfl) | exact Or.inr (Or.inr rfl)) (Or.inl (hio rfl))) (sa_cons (se_var (i := 5) rfl (by first | exact Or.inl rfl | exact Or.inr (Or.inl rfl) | exact Or.inr (Or.inr rfl)) (Or.inl (hio rfl))) sa_nil)))) (se_bor (i := 7) rfl (by first | exact Or.inl rfl | exact Or.inr (Or.inl rfl) | exact Or.inr (Or.inr rfl)))) (sw_or1 (st_ne hr (se_fxP (ok_code_of Z) mf_code_of hr (by first | decide | omega) rfl (sa_cons (se_var (i := 3) rfl (by first | exact Or.inl rfl | exact Or.inr (Or.inl rfl) | exact Or.inr (Or.inr rfl)) (Or.inl (hio rfl))) (sa_cons (se_var (i := 4) rfl (by first | exact Or.inl rfl | exact Or.inr (Or.inl rfl) | exact Or.inr (Or.inr rfl)) (Or.inl (hio rfl))) (sa_cons (se_ixD hr (se_bor (i := 5) rfl (by first | exact Or.inl rfl | exact Or.inr (Or.inl rfl) | exact Or.inr (Or.inr rfl))) se_int) sa_nil)))) (se_fxP (ok__law_code Z) mf__law_code hr (by first | decide | omega) rfl (sa_cons (se_var (i := 4) rfl (by first | exact Or.inl rfl | exact Or.inr (Or.inl rfl) | exact Or.inr (Or.inr rfl)) (Or.inl (hio rfl))) (sa_cons (se_ixD hr (se_bor (i := 5) rfl (by first | exact Or.inl rfl | exact Or.inr (Or.inl rfl) | exact Or.inr (Or.inr rfl))) se_int) sa_nil))))))) (sss_one
    (ss_ret se_bool)) sss_nil) (sss_cons
    (ss_asg (i := 8) nd rfl (by first | exact Or.inl rfl | exact Or.inr rfl) (Or.inl (hio rfl)) (se_tup (sa_cons (se_if (st_eq hr (se_ixD hr (se_bor (i := 5) rfl (by first | exact Or.inl rfl | exact Or.inr (Or.inl rfl) | exact Or.inr (Or.inr rfl))) se_int) se_str) se_str se_str) (sa_cons (se_ixD hr (se_bor (i := 5) rfl (by first | exact Or.inl rfl | exact Or.inr (Or.inl rfl) | exact Or.inr (Or.inr rfl))) se_int) sa_nil)))) (sss_cons
    (ss_if (st_ne hr (se_fxP (ok_results_of Z) mf_results_of hr (by first | decide | omega) rfl (sa_cons (se_var (i := 3) rfl (by first | exact Or.inl rfl | exact Or.inr (Or.inl rfl) | exact Or.inr (Or.inr rfl)) (Or.inl (hio rfl))) (sa_cons (se_callTy call_tuple_of cs_tuple mc_tuple rfl Z.z_tuple PyProof.Rows.boot_tuple (sa_cons (by exact se_comp (own := [("weighing", 14)]) rfl nd (si_seq (se_var (i := 4) rfl (by first | exact Or.inl rfl | exact Or.inr (Or.inl rfl) | exact Or.inr (Or.inr rfl)) (Or.inl (hio rfl)))) (blkOk_by (own := [("weighing", 14)]) (N := N_law) (sc := defScope s_law) (by decide +kernel)) (by decide) (Or.inl (hio rfl)) (by intro _ _ _ _ _; exact (sg_name (i := 14) nd rfl (by first | exact Or.inl rfl | exact Or.inr rfl) (Or.inl (hio rfl)))) (by intro _ _ _ _ _; exact sts_nil) (by intro _ _ _ _ _; exact (se_rev (se_bor (i := 14) rfl (by first | exact Or.inl rfl | exact Or.inr (Or.inl rfl) | exact Or.inr (Or.inr rfl)))))) sa_nil)) (sa_cons (se_var (i := 8) rfl (by first | exact Or.inl rfl | exact Or.inr (Or.inl rfl) | exact Or.inr (Or.inr rfl)) (Or.inl (hio rfl))) sa_nil)))) (se_bor (i := 7) rfl (by first | exact Or.inl rfl | exact Or.inr (Or.inl rfl) | exact Or.inr (Or.inr rfl)))) (sss_one
    (ss_ret se_bool)) sss_nil) (sss_cons
    (ss_if (st_ne hr (se_fxP (ok_apart_by Z) mf_apart_by hr (by first | decide | omega) rfl (sa_cons (se_var (i := 3) rfl (by first | exact Or.inl rfl | exact Or.inr (Or.inl rfl) | exact Or.inr (Or.inr rfl)) (Or.inl (hio rfl))) (sa_cons (se_var (i := 4) rfl (by first | exact Or.inl rfl | exact Or.inr (Or.inl rfl) | exact Or.inr (Or.inr rfl)) (Or.inl (hio rfl))) (sa_cons (se_var (i := 5) rfl (by first | exact Or.inl rfl | exact Or.inr (Or.inl rfl) | exact Or.inr (Or.inr rfl)) (Or.inl (hio rfl))) (sa_cons (se_var (i := 6) rfl (by first | exact Or.inl rfl | exact Or.inr (Or.inl rfl) | exact Or.inr (Or.inr rfl)) (Or.inl (hio rfl))) sa_nil))))) (se_fxP (ok__law_apart Z) mf__law_apart hr (by first | decide | omega) rfl (sa_cons (se_var (i := 7) rfl (by first | exact Or.inl rfl | exact Or.inr (Or.inl rfl) | exact Or.inr (Or.inr rfl)) (Or.inl (hio rfl))) (sa_cons (se_fxP (ok__law_results Z) mf__law_results hr (by first | decide | omega) rfl (sa_cons (se_var (i := 4) rfl (by first | exact Or.inl rfl | exact Or.inr (Or.inl rfl) | exact Or.inr (Or.inr rfl)) (Or.inl (hio rfl))) (sa_cons (se_var (i := 6) rfl (by first | exact Or.inl rfl | exact Or.inr (Or.inl rfl) | exact Or.inr (Or.inr rfl)) (Or.inl (hio rfl))) sa_nil))) sa_nil)))) (sss_one
    (ss_ret se_bool)) sss_nil) (sss_cons
    (ss_asgT (se_tup (sa_cons (se_fxI (i := 1) (ok__law_no_coins Z) mf__law_no_coins hr (by first | decide | omega) rfl rfl (by first | exact Or.inl rfl | exact Or.inr (Or.inl rfl) | exact Or.inr (Or.inr rfl)) sa_nil) (sa_cons (se_fxI (i := 1) (ok__law_no_set Z) mf__law_no_set hr (by first | decide | omega) rfl rfl (by first | exact Or.inl rfl | exact Or.inr (Or.inl rfl) | exact Or.inr (Or.inr rfl)) sa_nil) sa_nil))) (sg_tup rfl (sgs_cons (sg_name (i := 9) nd rfl (by first | exact Or.inl rfl | exact Or.inr rfl) (Or.inl (hio rfl))) (sgs_cons (sg_name (i := 10) nd rfl (by first | exact Or.inl rfl | exact Or.inr rfl) (Or.inl (hio rfl))) sgs_nil)))) (sss_cons
    (ss_asg (i := 11) nd rfl (by first | exact Or.inl rfl | exact Or.inr rfl) (Or.inl (hio rfl)) (se_fxI (i := 1) (ok__law_any Z) mf__law_any hr (by first | decide | omega) rfl rfl (by first | exact Or.inl rfl | exact Or.inr (Or.inl rfl) | exact Or.inr (Or.inr rfl)) (sa_cons (se_lst (sa_cons se_none (sa_cons (se_tup sa_nil) (sa_cons (se_tup (sa_cons se_str sa_nil)) (sa_cons (se_tup (sa_cons se_str (sa_cons (se_var (i := 3) rfl (by first | exact Or.inl rfl | exact Or.inr (Or.inl rfl) | exact Or.inr (Or.inr rfl)) (Or.inl (hio rfl))) sa_nil))) (sa_cons (se_tup (sa_cons se_str (sa_cons se_int sa_nil))) (sa_cons (se_lst (sa_cons se_str (sa_cons se_int sa_nil))) sa_nil))))))) sa_nil))) (sss_cons
    (ss_asg (i := 12) nd rfl (by first | exact Or.inl rfl | exact Or.inr rfl) (Or.inl (hio rfl)) (se_fxI (i := 1) (ok__law_any Z) mf__law_any hr (by first | decide | omega) rfl rfl (by first | exact Or.inl rfl | exact Or.inr (Or.inl rfl) | exact Or.inr (Or.inr rfl)) (sa_cons (se_lst (sa_cons se_none (sa_cons (se_neg se_int) (sa_cons (se_var (i := 3) rfl (by first | exact Or.inl rfl | exact Or.inr (Or.inl rfl) | exact Or.inr (Or.inr rfl)) (Or.inl (hio rfl))) (sa_cons se_bool (sa_cons se_str sa_nil)))))) sa_nil))) (sss_cons
    (ss_asg (i := 13) nd rfl (by first | exact Or.inl rfl | exact Or.inr rfl) (Or.inl (hio rfl)) (se_lst (sa_cons (se_lamT (k := 7) (cc := cc_law) (P := pp_law) Z.t__law_word (tabC_of hok) (wd__law_word Z) rfl sc__law_word rfl (Or.inl rfl) (fun g cdv => gv__law_word Z hr (by decide) g cdv) Z.tb_law rfl (.head _) (tt_uniq Z.ndP (.head _)) hr (by decide) (LamX.lamS_by (sc := defScope s_law) (by decide +kernel)) rfl (by intros; rfl) mo_lm_law_1 (by intro A outer s H E f c' hr W tk; exact (se_fxP (ok_results_of Z) mf_results_of hr (by first | decide | omega) rfl (sa_cons (se_var (i := 9) rfl (by first | exact Or.inl rfl | exact Or.inr (Or.inl rfl) | exact Or.inr (Or.inr rfl)) (Or.inl (hio rfl))) (sa_cons (se_var (i := 10) rfl (by first | exact Or.inl rfl | exact Or.inr (Or.inl rfl) | exact Or.inr (Or.inr rfl)) (Or.inl (hio rfl))) (sa_cons (se_var (i := 11) rfl (by first | exact Or.inl rfl | exact Or.inr (Or.inl rfl) | exact Or.inr (Or.inr rfl)) (Or.inl (hio rfl))) sa_nil)))))) sa_nil))) (sss_cons
    (ss_expr (se_mut (i := 13) PySem.F.slot_list_append PySem.F.type_list_append mt_append ms_append mm_append rfl (by first | exact Or.inl rfl | exact Or.inr (Or.inl rfl) | exact Or.inr (Or.inr rfl)) (sa_cons (se_lamT (k := 7) (cc := cc_law) (P := pp_law) Z.t__law_word (tabC_of hok) (wd__law_word Z) rfl sc__law_word rfl (Or.inl rfl) (fun g cdv => gv__law_word Z hr (by decide) g cdv) Z.tb_law rfl (.head _) (tt_uniq Z.ndP (.head _)) hr (by decide) (LamX.lamS_by (sc := defScope s_law) (by decide +kernel)) rfl (by intros; rfl) mo_lm_law_2 (by intro A outer s H E f c' hr W tk; exact (se_fxP (ok_results_of Z) mf_results_of hr (by first | decide | omega) rfl (sa_cons (se_var (i := 3) rfl (by first | exact Or.inl rfl | exact Or.inr (Or.inl rfl) | exact Or.inr (Or.inr rfl)) (Or.inl (hio rfl))) (sa_cons (se_var (i := 10) rfl (by first | exact Or.inl rfl | exact Or.inr (Or.inl rfl) | exact Or.inr (Or.inr rfl)) (Or.inl (hio rfl))) (sa_cons (se_var (i := 11) rfl (by first | exact Or.inl rfl | exact Or.inr (Or.inl rfl) | exact Or.inr (Or.inr rfl)) (Or.inl (hio rfl))) sa_nil)))))) sa_nil))) (sss_cons
    (ss_expr (se_mut (i := 13) PySem.F.slot_list_append PySem.F.type_list_append mt_append ms_append mm_append rfl (by first | exact Or.inl rfl | exact Or.inr (Or.inl rfl) | exact Or.inr (Or.inr rfl)) (sa_cons (se_lamT (k := 7) (cc := cc_law) (P := pp_law) Z.t__law_word (tabC_of hok) (wd__law_word Z) rfl sc__law_word rfl (Or.inl rfl) (fun g cdv => gv__law_word Z hr (by decide) g cdv) Z.tb_law rfl (.head _) (tt_uniq Z.ndP (.head _)) hr (by decide) (LamX.lamS_by (sc := defScope s_law) (by decide +kernel)) rfl (by intros; rfl) mo_lm_law_3 (by intro A outer s H E f c' hr W tk; exact (se_fxP (ok_results_of Z) mf_results_of hr (by first | decide | omega) rfl (sa_cons (se_var (i := 3) rfl (by first | exact Or.inl rfl | exact Or.inr (Or.inl rfl) | exact Or.inr (Or.inr rfl)) (Or.inl (hio rfl))) (sa_cons (se_var (i := 4) rfl (by first | exact Or.inl rfl | exact Or.inr (Or.inl rfl) | exact Or.inr (Or.inr rfl)) (Or.inl (hio rfl))) (sa_cons (se_var (i := 11) rfl (by first | exact Or.inl rfl | exact Or.inr (Or.inl rfl) | exact Or.inr (Or.inr rfl)) (Or.inl (hio rfl))) sa_nil)))))) sa_nil))) (sss_cons
    (ss_expr (se_mut (i := 13) PySem.F.slot_list_append PySem.F.type_list_append mt_append ms_append mm_append rfl (by first | exact Or.inl rfl | exact Or.inr (Or.inl rfl) | exact Or.inr (Or.inr rfl)) (sa_cons (se_lamT (k := 7) (cc := cc_law) (P := pp_law) Z.t__law_word (tabC_of hok) (wd__law_word Z) rfl sc__law_word rfl (Or.inl rfl) (fun g cdv => gv__law_word Z hr (by decide) g cdv) Z.tb_law rfl (.head _) (tt_uniq Z.ndP (.head _)) hr (by decide) (LamX.lamS_by (sc := defScope s_law) (by decide +kernel)) rfl (by intros; rfl) mo_lm_law_4 (by intro A outer s H E f c' hr W tk; exact (se_fxP (ok_code_of Z) mf_code_of hr (by first | decide | omega) rfl (sa_cons (se_var (i := 9) rfl (by first | exact Or.inl rfl | exact Or.inr (Or.inl rfl) | exact Or.inr (Or.inr rfl)) (Or.inl (hio rfl))) (sa_cons (se_var (i := 10) rfl (by first | exact Or.inl rfl | exact Or.inr (Or.inl rfl) | exact Or.inr (Or.inr rfl)) (Or.inl (hio rfl))) (sa_cons (se_var (i := 12) rfl (by first | exact Or.inl rfl | exact Or.inr (Or.inl rfl) | exact Or.inr (Or.inr rfl)) (Or.inl (hio rfl))) sa_nil)))))) sa_nil))) (sss_cons
    (ss_expr (se_mut (i := 13) PySem.F.slot_list_append PySem.F.type_list_append mt_append ms_append mm_append rfl (by first | exact Or.inl rfl | exact Or.inr (Or.inl rfl) | exact Or.inr (Or.inr rfl)) (sa_cons (se_lamT (k := 7) (cc := cc_law) (P := pp_law) Z.t__law_word (tabC_of hok) (wd__law_word Z) rfl sc__law_word rfl (Or.inl rfl) (fun g cdv => gv__law_word Z hr (by decide) g cdv) Z.tb_law rfl (.head _) (tt_uniq Z.ndP (.head _)) hr (by decide) (LamX.lamS_by (sc := defScope s_law) (by decide +kernel)) rfl (by intros; rfl) mo_lm_law_5 (by intro A outer s H E f c' hr W tk; exact (se_fxP (ok_code_of Z) mf_code_of hr (by first | decide | omega) rfl (sa_cons (se_var (i := 3) rfl (by first | exact Or.inl rfl | exact Or.inr (Or.inl rfl) | exact Or.inr (Or.inr rfl)) (Or.inl (hio rfl))) (sa_cons (se_var (i := 10) rfl (by first | exact Or.inl rfl | exact Or.inr (Or.inl rfl) | exact Or.inr (Or.inr rfl)) (Or.inl (hio rfl))) (sa_cons (se_var (i := 12) rfl (by first | exact Or.inl rfl | exact Or.inr (Or.inl rfl) | exact Or.inr (Or.inr rfl)) (Or.inl (hio rfl))) sa_nil)))))) sa_nil))) (sss_cons
    (ss_expr (se_mut (i := 13) PySem.F.slot_list_append PySem.F.type_list_append mt_append ms_append mm_append rfl (by first | exact Or.inl rfl | exact Or.inr (Or.inl rfl) | exact Or.inr (Or.inr rfl)) (sa_cons (se_lamT (k := 7) (cc := cc_law) (P := pp_law) Z.t__law_word (tabC_of hok) (wd__law_word Z) rfl sc__law_word rfl (Or.inl rfl) (fun g cdv => gv__law_word Z hr (by decide) g cdv) Z.tb_law rfl (.head _) (tt_uniq Z.ndP (.head _)) hr (by decide) (LamX.lamS_by (sc := defScope s_law) (by decide +kernel)) rfl (by intros; rfl) mo_lm_law_6 (by intro A outer s H E f c' hr W tk; exact (se_fxP (ok_code_of Z) mf_code_of hr (by first | decide | omega) rfl (sa_cons (se_var (i := 3) rfl (by first | exact Or.inl rfl | exact Or.inr (Or.inl rfl) | exact Or.inr (Or.inr rfl)) (Or.inl (hio rfl))) (sa_cons (se_var (i := 4) rfl (by first | exact Or.inl rfl | exact Or.inr (Or.inl rfl) | exact Or.inr (Or.inr rfl)) (Or.inl (hio rfl))) (sa_cons (se_var (i := 12) rfl (by first | exact Or.inl rfl | exact Or.inr (Or.inl rfl) | exact Or.inr (Or.inr rfl)) (Or.inl (hio rfl))) sa_nil)))))) sa_nil))) (sss_cons
    (ss_expr (se_mut (i := 13) PySem.F.slot_list_append PySem.F.type_list_append mt_append ms_append mm_append rfl (by first | exact Or.inl rfl | exact Or.inr (Or.inl rfl) | exact Or.inr (Or.inr rfl)) (sa_cons (se_lamT (k := 7) (cc := cc_law) (P := pp_law) Z.t__law_word (tabC_of hok) (wd__law_word Z) rfl sc__law_word rfl (Or.inl rfl) (fun g cdv => gv__law_word Z hr (by decide) g cdv) Z.tb_law rfl (.head _) (tt_uniq Z.ndP (.head _)) hr (by decide) (LamX.lamS_by (sc := defScope s_law) (by decide +kernel)) rfl (by intros; rfl) mo_lm_law_7 (by intro A outer s H E f c' hr W tk; exact (se_fxP (ok_apart_by Z) mf_apart_by hr (by first | decide | omega) rfl (sa_cons (se_var (i := 3) rfl (by first | exact Or.inl rfl | exact Or.inr (Or.inl rfl) | exact Or.inr (Or.inr rfl)) (Or.inl (hio rfl))) (sa_cons (se_var (i := 10) rfl (by first | exact Or.inl rfl | exact Or.inr (Or.inl rfl) | exact Or.inr (Or.inr rfl)) (Or.inl (hio rfl))) (sa_cons (se_var (i := 11) rfl (by first | exact Or.inl rfl | exact Or.inr (Or.inl rfl) | exact Or.inr (Or.inr rfl)) (Or.inl (hio rfl))) (sa_cons (se_var (i := 11) rfl (by first | exact Or.inl rfl | exact Or.inr (Or.inl rfl) | exact Or.inr (Or.inr rfl)) (Or.inl (hio rfl))) sa_nil))))))) sa_nil))) (sss_cons
    (ss_expr (se_mut (i := 13) PySem.F.slot_list_append PySem.F.type_list_append mt_append ms_append mm_append rfl (by first | exact Or.inl rfl | exact Or.inr (Or.inl rfl) | exact Or.inr (Or.inr rfl)) (sa_cons (se_lamT (k := 7) (cc := cc_law) (P := pp_law) Z.t__law_word (tabC_of hok) (wd__law_word Z) rfl sc__law_word rfl (Or.inl rfl) (fun g cdv => gv__law_word Z hr (by decide) g cdv) Z.tb_law rfl (.head _) (tt_uniq Z.ndP (.head _)) hr (by decide) (LamX.lamS_by (sc := defScope s_law) (by decide +kernel)) rfl (by intros; rfl) mo_lm_law_8 (by intro A outer s H E f c' hr W tk; exact (se_fxP (ok_apart_by Z) mf_apart_by hr (by first | decide | omega) rfl (sa_cons (se_var (i := 3) rfl (by first | exact Or.inl rfl | exact Or.inr (Or.inl rfl) | exact Or.inr (Or.inr rfl)) (Or.inl (hio rfl))) (sa_cons (se_var (i := 4) rfl (by first | exact Or.inl rfl | exact Or.inr (Or.inl rfl) | exact Or.inr (Or.inr rfl)) (Or.inl (hio rfl))) (sa_cons (se_var (i := 11) rfl (by first | exact Or.inl rfl | exact Or.inr (Or.inl rfl) | exact Or.inr (Or.inr rfl)) (Or.inl (hio rfl))) (sa_cons (se_var (i := 6) rfl (by first | exact Or.inl rfl | exact Or.inr (Or.inl rfl) | exact Or.inr (Or.inr rfl)) (Or.inl (hio rfl))) sa_nil))))))) sa_nil))) (sss_cons
    (ss_expr (se_mut (i := 13) PySem.F.slot_list_append PySem.F.type_list_append mt_append ms_append mm_append rfl (by first | exact Or.inl rfl | exact Or.inr (Or.inl rfl) | exact Or.inr (Or.inr rfl)) (sa_cons (se_lamT (k := 7) (cc := cc_law) (P := pp_law) Z.t__law_word (tabC_of hok) (wd__law_word Z) rfl sc__law_word rfl (Or.inl rfl) (fun g cdv => gv__law_word Z hr (by decide) g cdv) Z.tb_law rfl (.head _) (tt_uniq Z.ndP (.head _)) hr (by decide) (LamX.lamS_by (sc := defScope s_law) (by decide +kernel)) rfl (by intros; rfl) mo_lm_law_9 (by intro A outer s H E f c' hr W tk; exact (se_fxP (ok_apart_by Z) mf_apart_by hr (by first | decide | omega) rfl (sa_cons (se_var (i := 3) rfl (by first | exact Or.inl rfl | exact Or.inr (Or.inl rfl) | exact Or.inr (Or.inr rfl)) (Or.inl (hio rfl))) (sa_cons (se_var (i := 4) rfl (by first | exact Or.inl rfl | exact Or.inr (Or.inl rfl) | exact Or.inr (Or.inr rfl)) (Or.inl (hio rfl))) (sa_cons (se_var (i := 5) rfl (by first | exact Or.inl rfl | exact Or.inr (Or.inl rfl) | exact Or.inr (Or.inr rfl)) (Or.inl (hio rfl))) (sa_cons (se_var (i := 11) rfl (by first | exact Or.inl rfl | exact Or.inr (Or.inl rfl) | exact Or.inr (Or.inr rfl)) (Or.inl (hio rfl))) sa_nil))))))) sa_nil))) (sss_one
    (ss_if (st_ne hr (se_bor (i := 13) rfl (by first | exact Or.inl rfl | exact Or.inr (Or.inl rfl) | exact Or.inr (Or.inr rfl))) (se_lst (sa_cons se_str (sa_cons se_str (sa_cons se_str (sa_cons se_str (sa_cons se_str (sa_cons se_str (sa_cons se_str (sa_cons se_str (sa_cons se_str sa_nil))))))))))) (sss_one
    (ss_ret se_bool)) sss_nil)))))))))))))))))))))))) (sss_one
    (ss_ret se_bool)))))
end
end W_k11

set_option Elab.async false
set_option linter.all false
set_option maxRecDepth 100000
set_option maxHeartbeats 4000000
namespace W_k11
open PySem PySem.Spec PyProof.Rows L2 VL
theorem all_mk (D : ∀ ns : List Int, ns.length ≤ 63 → F_law ns (fun r => r = .vl (.bool true))) {l : PySem.W.OpenLaw} {w : World} {K : PySem.W.Frag} {h : Heap} {mg : Str → Option Value} {fa : Addr} (X : K.In h) (G : h.Ns mainGlobals mg) (hfa : mg "law" = some (.ref fa))
    {f_is_integer : Addr} {od_is_integer an_is_integer : Option Addr} {sl_is_integer : Array (Option Value)} {oc_is_integer kV_is_integer dc_is_integer pm_is_integer cd_is_integer ct_is_integer : Value}
    {f_is_within : Addr} {od_is_within an_is_within : Option Addr} {sl_is_within : Array (Option Value)} {oc_is_within kV_is_within dc_is_within pm_is_within cd_is_within ct_is_within : Value}
    {f_is_sized : Addr} {od_is_sized an_is_sized : Option Addr} {sl_is_sized : Array (Option Value)} {oc_is_sized kV_is_sized dc_is_sized pm_is_sized cd_is_sized ct_is_sized : Value}
    {f_is_lot : Addr} {od_is_lot an_is_lot : Option Addr} {sl_is_lot : Array (Option Value)} {oc_is_lot kV_is_lot dc_is_lot pm_is_lot cd_is_lot ct_is_lot : Value}
    {f_check_coins : Addr} {od_check_coins an_check_coins : Option Addr} {sl_check_coins : Array (Option Value)} {oc_check_coins kV_check_coins dc_check_coins pm_check_coins cd_check_coins ct_check_coins : Value}
    {f_is_case : Addr} {od_is_case an_is_case : Option Addr} {sl_is_case : Array (Option Value)} {oc_is_case kV_is_case dc_is_case pm_is_case cd_is_case ct_is_case : Value}
    {f_is_weighing : Addr} {od_is_weighing an_is_weighing : Option Addr} {sl_is_weighing : Array (Option Value)} {oc_is_weighing kV_is_weighing dc_is_weighing pm_is_weighing cd_is_weighing ct_is_weighing : Value}
    {f_raw_result : Addr} {od_raw_result an_raw_result : Option Addr} {sl_raw_result : Array (Option Value)} {oc_raw_result kV_raw_result dc_raw_result pm_raw_result cd_raw_result ct_raw_result : Value}
    {f_is_set : Addr} {od_is_set an_is_set : Option Addr} {sl_is_set : Array (Option Value)} {oc_is_set kV_is_set dc_is_set pm_is_set cd_is_set ct_is_set : Value}
    {f_check_set : Addr} {od_check_set an_check_set : Option Addr} {sl_check_set : Array (Option Value)} {oc_check_set kV_check_set dc_check_set pm_check_set cd_check_set ct_check_set : Value}
    {f_raw_results : Addr} {od_raw_results an_raw_results : Option Addr} {sl_raw_results : Array (Option Value)} {oc_raw_results kV_raw_results dc_raw_results pm_raw_results cd_raw_results ct_raw_results : Value}
    {f_results_of : Addr} {od_results_of an_results_of : Option Addr} {sl_results_of : Array (Option Value)} {oc_results_of kV_results_of dc_results_of pm_results_of cd_results_of ct_results_of : Value}
    {f_raw_code : Addr} {od_raw_code an_raw_code : Option Addr} {sl_raw_code : Array (Option Value)} {oc_raw_code kV_raw_code dc_raw_code pm_raw_code cd_raw_code ct_raw_code : Value}
    {f_code_of : Addr} {od_code_of an_code_of : Option Addr} {sl_code_of : Array (Option Value)} {oc_code_of kV_code_of dc_code_of pm_code_of cd_code_of ct_code_of : Value}
    {f_raw_apart : Addr} {od_raw_apart an_raw_apart : Option Addr} {sl_raw_apart : Array (Option Value)} {oc_raw_apart kV_raw_apart dc_raw_apart pm_raw_apart cd_raw_apart ct_raw_apart : Value}
    {f_apart_by : Addr} {od_apart_by an_apart_by : Option Addr} {sl_apart_by : Array (Option Value)} {oc_apart_by kV_apart_by dc_apart_by pm_apart_by cd_apart_by ct_apart_by : Value}
    {f__law_hand : Addr} {od__law_hand an__law_hand : Option Addr} {sl__law_hand : Array (Option Value)} {oc__law_hand kV__law_hand dc__law_hand pm__law_hand cd__law_hand ct__law_hand : Value}
    {f__law_draw : Addr} {od__law_draw an__law_draw : Option Addr} {sl__law_draw : Array (Option Value)} {oc__law_draw kV__law_draw dc__law_draw pm__law_draw cd__law_draw ct__law_draw : Value}
    {f__law_any : Addr} {od__law_any an__law_any : Option Addr} {sl__law_any : Array (Option Value)} {oc__law_any kV__law_any dc__law_any pm__law_any cd__law_any ct__law_any : Value}
    {f__law_cases : Addr} {od__law_cases an__law_cases : Option Addr} {sl__law_cases : Array (Option Value)} {oc__law_cases kV__law_cases dc__law_cases pm__law_cases cd__law_cases ct__law_cases : Value}
    {f__law_result : Addr} {od__law_result an__law_result : Option Addr} {sl__law_result : Array (Option Value)} {oc__law_result kV__law_result dc__law_result pm__law_result cd__law_result ct__law_result : Value}
    {f__law_weighing : Addr} {od__law_weighing an__law_weighing : Option Addr} {sl__law_weighing : Array (Option Value)} {oc__law_weighing kV__law_weighing dc__law_weighing pm__law_weighing cd__law_weighing ct__law_weighing : Value}
    {f__law_no_coins : Addr} {od__law_no_coins an__law_no_coins : Option Addr} {sl__law_no_coins : Array (Option Value)} {oc__law_no_coins kV__law_no_coins dc__law_no_coins pm__law_no_coins cd__law_no_coins ct__law_no_coins : Value}
    {f__law_set : Addr} {od__law_set an__law_set : Option Addr} {sl__law_set : Array (Option Value)} {oc__law_set kV__law_set dc__law_set pm__law_set cd__law_set ct__law_set : Value}
    {f__law_results : Addr} {od__law_results an__law_results : Option Addr} {sl__law_results : Array (Option Value)} {oc__law_results kV__law_results dc__law_results pm__law_results cd__law_results ct__law_results : Value}
    {f__law_code : Addr} {od__law_code an__law_code : Option Addr} {sl__law_code : Array (Option Value)} {oc__law_code kV__law_code dc__law_code pm__law_code cd__law_code ct__law_code : Value}
    {f__law_apart : Addr} {od__law_apart an__law_apart : Option Addr} {sl__law_apart : Array (Option Value)} {oc__law_apart kV__law_apart dc__law_apart pm__law_apart cd__law_apart ct__law_apart : Value}
    {f__law_no_set : Addr} {od__law_no_set an__law_no_set : Option Addr} {sl__law_no_set : Array (Option Value)} {oc__law_no_set kV__law_no_set dc__law_no_set pm__law_no_set cd__law_no_set ct__law_no_set : Value}
    {f_law : Addr} {od_law an_law : Option Addr} {sl_law : Array (Option Value)} {oc_law kV_law dc_law pm_law ct_law : Value} {cc_law : Addr}
    {f__law_word : Addr} {od__law_word an__law_word : Option Addr} {sl__law_word : Array (Option Value)} {oc__law_word kV__law_word dc__law_word pm__law_word cd__law_word ct__law_word : Value}
    {t_LEAST_COINS : Tok}
    {t_MOST_COINS : Tok}
    {t_HEAVIER : Tok}
    {t_LIGHTER : Tok}
    {t_MOST_SET : Tok}
    {C_NoCase C_NoCoin C_NoCoins C_NoSet C_TooMany C_WeighError C_NoCodes C_NoCount C_NoFlag C_NoKind C_NoPlan C_NoRecord C_NoResults C_NoWeighing : Addr}
    {pp_law : Addr} {oc2_law : Value} {od2_law : Option Addr} {vs_law : Array Value} {sl2_law : Array (Option Value)}
    (a_is_integer : PySem.W.nsIn K mainGlobals "is_integer" = some (some (.ref f_is_integer))) (l_is_integer : K.lookup f_is_integer = some ⟨oc_is_integer, od_is_integer, .func (PySem.W.fnOf "is_integer" "is_integer" (defArgs s_is_integer) (defBody s_is_integer) (defScope s_is_integer) .none kV_is_integer dc_is_integer pm_is_integer an_is_integer cd_is_integer ct_is_integer), sl_is_integer⟩) (c_is_integer : PySem.W.codeIn K cd_is_integer "is_integer" = true) (k_is_integer : PySem.W.keepIn K (.ref f_is_integer) = true)
    (a_is_within : PySem.W.nsIn K mainGlobals "is_within" = some (some (.ref f_is_within))) (l_is_within : K.lookup f_is_within = some ⟨oc_is_within, od_is_within, .func (PySem.W.fnOf "is_within" "is_within" (defArgs s_is_within) (defBody s_is_within) (defScope s_is_within) .none kV_is_within dc_is_within pm_is_within an_is_within cd_is_within ct_is_within), sl_is_within⟩) (c_is_within : PySem.W.codeIn K cd_is_within "is_within" = true) (k_is_within : PySem.W.keepIn K (.ref f_is_within) = true)
    (a_is_sized : PySem.W.nsIn K mainGlobals "is_sized" = some (some (.ref f_is_sized))) (l_is_sized : K.lookup f_is_sized = some ⟨oc_is_sized, od_is_sized, .func (PySem.W.fnOf "is_sized" "is_sized" (defArgs s_is_sized) (defBody s_is_sized) (defScope s_is_sized) .none kV_is_sized dc_is_sized pm_is_sized an_is_sized cd_is_sized ct_is_sized), sl_is_sized⟩) (c_is_sized : PySem.W.codeIn K cd_is_sized "is_sized" = true) (k_is_sized : PySem.W.keepIn K (.ref f_is_sized) = true)
    (a_is_lot : PySem.W.nsIn K mainGlobals "is_lot" = some (some (.ref f_is_lot))) (l_is_lot : K.lookup f_is_lot = some ⟨oc_is_lot, od_is_lot, .func (PySem.W.fnOf "is_lot" "is_lot" (defArgs s_is_lot) (defBody s_is_lot) (defScope s_is_lot) .none kV_is_lot dc_is_lot pm_is_lot an_is_lot cd_is_lot ct_is_lot), sl_is_lot⟩) (c_is_lot : PySem.W.codeIn K cd_is_lot "is_lot" = true) (k_is_lot : PySem.W.keepIn K (.ref f_is_lot) = true)
    (a_check_coins : PySem.W.nsIn K mainGlobals "check_coins" = some (some (.ref f_check_coins))) (l_check_coins : K.lookup f_check_coins = some ⟨oc_check_coins, od_check_coins, .func (PySem.W.fnOf "check_coins" "check_coins" (defArgs s_check_coins) (defBody s_check_coins) (defScope s_check_coins) .none kV_check_coins dc_check_coins pm_check_coins an_check_coins cd_check_coins ct_check_coins), sl_check_coins⟩) (c_check_coins : PySem.W.codeIn K cd_check_coins "check_coins" = true) (k_check_coins : PySem.W.keepIn K (.ref f_check_coins) = true)
    (a_is_case : PySem.W.nsIn K mainGlobals "is_case" = some (some (.ref f_is_case))) (l_is_case : K.lookup f_is_case = some ⟨oc_is_case, od_is_case, .func (PySem.W.fnOf "is_case" "is_case" (defArgs s_is_case) (defBody s_is_case) (defScope s_is_case) .none kV_is_case dc_is_case pm_is_case an_is_case cd_is_case ct_is_case), sl_is_case⟩) (c_is_case : PySem.W.codeIn K cd_is_case "is_case" = true) (k_is_case : PySem.W.keepIn K (.ref f_is_case) = true)
    (a_is_weighing : PySem.W.nsIn K mainGlobals "is_weighing" = some (some (.ref f_is_weighing))) (l_is_weighing : K.lookup f_is_weighing = some ⟨oc_is_weighing, od_is_weighing, .func (PySem.W.fnOf "is_weighing" "is_weighing" (defArgs s_is_weighing) (defBody s_is_weighing) (defScope s_is_weighing) .none kV_is_weighing dc_is_weighing pm_is_weighing an_is_weighing cd_is_weighing ct_is_weighing), sl_is_weighing⟩) (c_is_weighing : PySem.W.codeIn K cd_is_weighing "is_weighing" = true) (k_is_weighing : PySem.W.keepIn K (.ref f_is_weighing) = true)
    (a_raw_result : PySem.W.nsIn K mainGlobals "raw_result" = some (some (.ref f_raw_result))) (l_raw_result : K.lookup f_raw_result = some ⟨oc_raw_result, od_raw_result, .func (PySem.W.fnOf "raw_result" "raw_result" (defArgs s_raw_result) (defBody s_raw_result) (defScope s_raw_result) .none kV_raw_result dc_raw_result pm_raw_result an_raw_result cd_raw_result ct_raw_result), sl_raw_result⟩) (c_raw_result : PySem.W.codeIn K cd_raw_result "raw_result" = true) (k_raw_result : PySem.W.keepIn K (.ref f_raw_result) = true)
    (a_is_set : PySem.W.nsIn K mainGlobals "is_set" = some (some (.ref f_is_set))) (l_is_set : K.lookup f_is_set = some ⟨oc_is_set, od_is_set, .func (PySem.W.fnOf "is_set" "is_set" (defArgs s_is_set) (defBody s_is_set) (defScope s_is_set) .none kV_is_set dc_is_set pm_is_set an_is_set cd_is_set ct_is_set), sl_is_set⟩) (c_is_set : PySem.W.codeIn K cd_is_set "is_set" = true) (k_is_set : PySem.W.keepIn K (.ref f_is_set) = true)
    (a_check_set : PySem.W.nsIn K mainGlobals "check_set" = some (some (.ref f_check_set))) (l_check_set : K.lookup f_check_set = some ⟨oc_check_set, od_check_set, .func (PySem.W.fnOf "check_set" "check_set" (defArgs s_check_set) (defBody s_check_set) (defScope s_check_set) .none kV_check_set dc_check_set pm_check_set an_check_set cd_check_set ct_check_set), sl_check_set⟩) (c_check_set : PySem.W.codeIn K cd_check_set "check_set" = true) (k_check_set : PySem.W.keepIn K (.ref f_check_set) = true)
    (a_raw_results : PySem.W.nsIn K mainGlobals "raw_results" = some (some (.ref f_raw_results))) (l_raw_results : K.lookup f_raw_results = some ⟨oc_raw_results, od_raw_results, .func (PySem.W.fnOf "raw_results" "raw_results" (defArgs s_raw_results) (defBody s_raw_results) (defScope s_raw_results) .none kV_raw_results dc_raw_results pm_raw_results an_raw_results cd_raw_results ct_raw_results), sl_raw_results⟩) (c_raw_results : PySem.W.codeIn K cd_raw_results "raw_results" = true) (k_raw_results : PySem.W.keepIn K (.ref f_raw_results) = true)
    (a_results_of : PySem.W.nsIn K mainGlobals "results_of" = some (some (.ref f_results_of))) (l_results_of : K.lookup f_results_of = some ⟨oc_results_of, od_results_of, .func (PySem.W.fnOf "results_of" "results_of" (defArgs s_results_of) (defBody s_results_of) (defScope s_results_of) .none kV_results_of dc_results_of pm_results_of an_results_of cd_results_of ct_results_of), sl_results_of⟩) (c_results_of : PySem.W.codeIn K cd_results_of "results_of" = true) (k_results_of : PySem.W.keepIn K (.ref f_results_of) = true)
    (a_raw_code : PySem.W.nsIn K mainGlobals "raw_code" = some (some (.ref f_raw_code))) (l_raw_code : K.lookup f_raw_code = some ⟨oc_raw_code, od_raw_code, .func (PySem.W.fnOf "raw_code" "raw_code" (defArgs s_raw_code) (defBody s_raw_code) (defScope s_raw_code) .none kV_raw_code dc_raw_code pm_raw_code an_raw_code cd_raw_code ct_raw_code), sl_raw_code⟩) (c_raw_code : PySem.W.codeIn K cd_raw_code "raw_code" = true) (k_raw_code : PySem.W.keepIn K (.ref f_raw_code) = true)
    (a_code_of : PySem.W.nsIn K mainGlobals "code_of" = some (some (.ref f_code_of))) (l_code_of : K.lookup f_code_of = some ⟨oc_code_of, od_code_of, .func (PySem.W.fnOf "code_of" "code_of" (defArgs s_code_of) (defBody s_code_of) (defScope s_code_of) .none kV_code_of dc_code_of pm_code_of an_code_of cd_code_of ct_code_of), sl_code_of⟩) (c_code_of : PySem.W.codeIn K cd_code_of "code_of" = true) (k_code_of : PySem.W.keepIn K (.ref f_code_of) = true)
    (a_raw_apart : PySem.W.nsIn K mainGlobals "raw_apart" = some (some (.ref f_raw_apart))) (l_raw_apart : K.lookup f_raw_apart = some ⟨oc_raw_apart, od_raw_apart, .func (PySem.W.fnOf "raw_apart" "raw_apart" (defArgs s_raw_apart) (defBody s_raw_apart) (defScope s_raw_apart) .none kV_raw_apart dc_raw_apart pm_raw_apart an_raw_apart cd_raw_apart ct_raw_apart), sl_raw_apart⟩) (c_raw_apart : PySem.W.codeIn K cd_raw_apart "raw_apart" = true) (k_raw_apart : PySem.W.keepIn K (.ref f_raw_apart) = true)
    (a_apart_by : PySem.W.nsIn K mainGlobals "apart_by" = some (some (.ref f_apart_by))) (l_apart_by : K.lookup f_apart_by = some ⟨oc_apart_by, od_apart_by, .func (PySem.W.fnOf "apart_by" "apart_by" (defArgs s_apart_by) (defBody s_apart_by) (defScope s_apart_by) .none kV_apart_by dc_apart_by pm_apart_by an_apart_by cd_apart_by ct_apart_by), sl_apart_by⟩) (c_apart_by : PySem.W.codeIn K cd_apart_by "apart_by" = true) (k_apart_by : PySem.W.keepIn K (.ref f_apart_by) = true)
    (a__law_hand : PySem.W.nsIn K mainGlobals "_law_hand" = some (some (.ref f__law_hand))) (l__law_hand : K.lookup f__law_hand = some ⟨oc__law_hand, od__law_hand, .func (PySem.W.fnOf "_law_hand" "_law_hand" (defArgs s__law_hand) (defBody s__law_hand) (defScope s__law_hand) .none kV__law_hand dc__law_hand pm__law_hand an__law_hand cd__law_hand ct__law_hand), sl__law_hand⟩) (c__law_hand : PySem.W.codeIn K cd__law_hand "_law_hand" = true) (k__law_hand : PySem.W.keepIn K (.ref f__law_hand) = true)
    (a__law_draw : PySem.W.nsIn K mainGlobals "_law_draw" = some (some (.ref f__law_draw))) (l__law_draw : K.lookup f__law_draw = some ⟨oc__law_draw, od__law_draw, .func (PySem.W.fnOf "_law_draw" "_law_draw" (defArgs s__law_draw) (defBody s__law_draw) (defScope s__law_draw) .none kV__law_draw dc__law_draw pm__law_draw an__law_draw cd__law_draw ct__law_draw), sl__law_draw⟩) (c__law_draw : PySem.W.codeIn K cd__law_draw "_law_draw" = true) (k__law_draw : PySem.W.keepIn K (.ref f__law_draw) = true)
    (a__law_any : PySem.W.nsIn K mainGlobals "_law_any" = some (some (.ref f__law_any))) (l__law_any : K.lookup f__law_any = some ⟨oc__law_any, od__law_any, .func (PySem.W.fnOf "_law_any" "_law_any" (defArgs s__law_any) (defBody s__law_any) (defScope s__law_any) .none kV__law_any dc__law_any pm__law_any an__law_any cd__law_any ct__law_any), sl__law_any⟩) (c__law_any : PySem.W.codeIn K cd__law_any "_law_any" = true) (k__law_any : PySem.W.keepIn K (.ref f__law_any) = true)
    (a__law_cases : PySem.W.nsIn K mainGlobals "_law_cases" = some (some (.ref f__law_cases))) (l__law_cases : K.lookup f__law_cases = some ⟨oc__law_cases, od__law_cases, .func (PySem.W.fnOf "_law_cases" "_law_cases" (defArgs s__law_cases) (defBody s__law_cases) (defScope s__law_cases) .none kV__law_cases dc__law_cases pm__law_cases an__law_cases cd__law_cases ct__law_cases), sl__law_cases⟩) (c__law_cases : PySem.W.codeIn K cd__law_cases "_law_cases" = true) (k__law_cases : PySem.W.keepIn K (.ref f__law_cases) = true)
    (a__law_result : PySem.W.nsIn K mainGlobals "_law_result" = some (some (.ref f__law_result))) (l__law_result : K.lookup f__law_result = some ⟨oc__law_result, od__law_result, .func (PySem.W.fnOf "_law_result" "_law_result" (defArgs s__law_result) (defBody s__law_result) (defScope s__law_result) .none kV__law_result dc__law_result pm__law_result an__law_result cd__law_result ct__law_result), sl__law_result⟩) (c__law_result : PySem.W.codeIn K cd__law_result "_law_result" = true) (k__law_result : PySem.W.keepIn K (.ref f__law_result) = true)
    (a__law_weighing : PySem.W.nsIn K mainGlobals "_law_weighing" = some (some (.ref f__law_weighing))) (l__law_weighing : K.lookup f__law_weighing = some ⟨oc__law_weighing, od__law_weighing, .func (PySem.W.fnOf "_law_weighing" "_law_weighing" (defArgs s__law_weighing) (defBody s__law_weighing) (defScope s__law_weighing) .none kV__law_weighing dc__law_weighing pm__law_weighing an__law_weighing cd__law_weighing ct__law_weighing), sl__law_weighing⟩) (c__law_weighing : PySem.W.codeIn K cd__law_weighing "_law_weighing" = true) (k__law_weighing : PySem.W.keepIn K (.ref f__law_weighing) = true)
    (a__law_no_coins : PySem.W.nsIn K mainGlobals "_law_no_coins" = some (some (.ref f__law_no_coins))) (l__law_no_coins : K.lookup f__law_no_coins = some ⟨oc__law_no_coins, od__law_no_coins, .func (PySem.W.fnOf "_law_no_coins" "_law_no_coins" (defArgs s__law_no_coins) (defBody s__law_no_coins) (defScope s__law_no_coins) .none kV__law_no_coins dc__law_no_coins pm__law_no_coins an__law_no_coins cd__law_no_coins ct__law_no_coins), sl__law_no_coins⟩) (c__law_no_coins : PySem.W.codeIn K cd__law_no_coins "_law_no_coins" = true) (k__law_no_coins : PySem.W.keepIn K (.ref f__law_no_coins) = true)
    (a__law_set : PySem.W.nsIn K mainGlobals "_law_set" = some (some (.ref f__law_set))) (l__law_set : K.lookup f__law_set = some ⟨oc__law_set, od__law_set, .func (PySem.W.fnOf "_law_set" "_law_set" (defArgs s__law_set) (defBody s__law_set) (defScope s__law_set) .none kV__law_set dc__law_set pm__law_set an__law_set cd__law_set ct__law_set), sl__law_set⟩) (c__law_set : PySem.W.codeIn K cd__law_set "_law_set" = true) (k__law_set : PySem.W.keepIn K (.ref f__law_set) = true)
    (a__law_results : PySem.W.nsIn K mainGlobals "_law_results" = some (some (.ref f__law_results))) (l__law_results : K.lookup f__law_results = some ⟨oc__law_results, od__law_results, .func (PySem.W.fnOf "_law_results" "_law_results" (defArgs s__law_results) (defBody s__law_results) (defScope s__law_results) .none kV__law_results dc__law_results pm__law_results an__law_results cd__law_results ct__law_results), sl__law_results⟩) (c__law_results : PySem.W.codeIn K cd__law_results "_law_results" = true) (k__law_results : PySem.W.keepIn K (.ref f__law_results) = true)
    (a__law_code : PySem.W.nsIn K mainGlobals "_law_code" = some (some (.ref f__law_code))) (l__law_code : K.lookup f__law_code = some ⟨oc__law_code, od__law_code, .func (PySem.W.fnOf "_law_code" "_law_code" (defArgs s__law_code) (defBody s__law_code) (defScope s__law_code) .none kV__law_code dc__law_code pm__law_code an__law_code cd__law_code ct__law_code), sl__law_code⟩) (c__law_code : PySem.W.codeIn K cd__law_code "_law_code" = true) (k__law_code : PySem.W.keepIn K (.ref f__law_code) = true)
    (a__law_apart : PySem.W.nsIn K mainGlobals "_law_apart" = some (some (.ref f__law_apart))) (l__law_apart : K.lookup f__law_apart = some ⟨oc__law_apart, od__law_apart, .func (PySem.W.fnOf "_law_apart" "_law_apart" (defArgs s__law_apart) (defBody s__law_apart) (defScope s__law_apart) .none kV__law_apart dc__law_apart pm__law_apart an__law_apart cd__law_apart ct__law_apart), sl__law_apart⟩) (c__law_apart : PySem.W.codeIn K cd__law_apart "_law_apart" = true) (k__law_apart : PySem.W.keepIn K (.ref f__law_apart) = true)
    (a__law_no_set : PySem.W.nsIn K mainGlobals "_law_no_set" = some (some (.ref f__law_no_set))) (l__law_no_set : K.lookup f__law_no_set = some ⟨oc__law_no_set, od__law_no_set, .func (PySem.W.fnOf "_law_no_set" "_law_no_set" (defArgs s__law_no_set) (defBody s__law_no_set) (defScope s__law_no_set) .none kV__law_no_set dc__law_no_set pm__law_no_set an__law_no_set cd__law_no_set ct__law_no_set), sl__law_no_set⟩) (c__law_no_set : PySem.W.codeIn K cd__law_no_set "_law_no_set" = true) (k__law_no_set : PySem.W.keepIn K (.ref f__law_no_set) = true)
    (a_law : PySem.W.nsIn K mainGlobals "law" = some (some (.ref f_law))) (l_law : K.lookup f_law = some ⟨oc_law, od_law, .func (PySem.W.fnOf "law" "law" (defArgs s_law) (defBody s_law) (defScope s_law) .none kV_law dc_law pm_law an_law (.ref cc_law) ct_law), sl_law⟩) (c_law : PySem.W.codeIn K (.ref cc_law) "law" = true) (k_law : PySem.W.keepIn K (.ref f_law) = true)
    (a__law_word : PySem.W.nsIn K mainGlobals "_law_word" = some (some (.ref f__law_word))) (l__law_word : K.lookup f__law_word = some ⟨oc__law_word, od__law_word, .func (PySem.W.fnOf "_law_word" "_law_word" (defArgs s__law_word) (defBody s__law_word) (defScope s__law_word) .none kV__law_word dc__law_word pm__law_word an__law_word cd__law_word ct__law_word), sl__law_word⟩) (c__law_word : PySem.W.codeIn K cd__law_word "_law_word" = true) (k__law_word : PySem.W.keepIn K (.ref f__law_word) = true)
    (z_abs : PySem.W.nsIn K mainGlobals "abs" = some none)
    (z_all : PySem.W.nsIn K mainGlobals "all" = some none)
    (z_any : PySem.W.nsIn K mainGlobals "any" = some none)
    (z_bool : PySem.W.nsIn K mainGlobals "bool" = some none)
    (z_int : PySem.W.nsIn K mainGlobals "int" = some none)
    (z_isinstance : PySem.W.nsIn K mainGlobals "isinstance" = some none)
    (z_len : PySem.W.nsIn K mainGlobals "len" = some none)
    (z_list : PySem.W.nsIn K mainGlobals "list" = some none)
    (z_range : PySem.W.nsIn K mainGlobals "range" = some none)
    (z_sorted : PySem.W.nsIn K mainGlobals "sorted" = some none)
    (z_str : PySem.W.nsIn K mainGlobals "str" = some none)
    (z_tuple : PySem.W.nsIn K mainGlobals "tuple" = some none)
    (z_zip : PySem.W.nsIn K mainGlobals "zip" = some none)
    (g_LEAST_COINS : PySem.W.nsIn K mainGlobals "LEAST_COINS" = some (some (.int 3 t_LEAST_COINS)))
    (g_MOST_COINS : PySem.W.nsIn K mainGlobals "MOST_COINS" = some (some (.int 13 t_MOST_COINS)))
    (g_HEAVIER : PySem.W.nsIn K mainGlobals "HEAVIER" = some (some (.str "heavier" t_HEAVIER)))
    (g_LIGHTER : PySem.W.nsIn K mainGlobals "LIGHTER" = some (some (.str "lighter" t_LIGHTER)))
    (g_MOST_SET : PySem.W.nsIn K mainGlobals "MOST_SET" = some (some (.int 4 t_MOST_SET)))
    (a_NoCase : PySem.W.nsIn K mainGlobals "NoCase" = some (some (.ref C_NoCase)))
    (a_NoCoin : PySem.W.nsIn K mainGlobals "NoCoin" = some (some (.ref C_NoCoin)))
    (a_NoCoins : PySem.W.nsIn K mainGlobals "NoCoins" = some (some (.ref C_NoCoins)))
    (a_NoSet : PySem.W.nsIn K mainGlobals "NoSet" = some (some (.ref C_NoSet)))
    (a_TooMany : PySem.W.nsIn K mainGlobals "TooMany" = some (some (.ref C_TooMany)))
    (a_WeighError : PySem.W.nsIn K mainGlobals "WeighError" = some (some (.ref C_WeighError)))
    (a_NoCodes : PySem.W.nsIn K mainGlobals "NoCodes" = some (some (.ref C_NoCodes)))
    (a_NoCount : PySem.W.nsIn K mainGlobals "NoCount" = some (some (.ref C_NoCount)))
    (a_NoFlag : PySem.W.nsIn K mainGlobals "NoFlag" = some (some (.ref C_NoFlag)))
    (a_NoKind : PySem.W.nsIn K mainGlobals "NoKind" = some (some (.ref C_NoKind)))
    (a_NoPlan : PySem.W.nsIn K mainGlobals "NoPlan" = some (some (.ref C_NoPlan)))
    (a_NoRecord : PySem.W.nsIn K mainGlobals "NoRecord" = some (some (.ref C_NoRecord)))
    (a_NoResults : PySem.W.nsIn K mainGlobals "NoResults" = some (some (.ref C_NoResults)))
    (a_NoWeighing : PySem.W.nsIn K mainGlobals "NoWeighing" = some (some (.ref C_NoWeighing)))
    (bs_TooMany : PySem.W.subIn K (.ref C_TooMany) (.type "BaseException") = some true) (hd_TooMany : PySem.W.hasDictIn K C_TooMany = true) (ty_TooMany : PySem.W.typeIn K (.ref C_TooMany) = some (.type "type"))
    (bs_WeighError : PySem.W.subIn K (.ref C_WeighError) (.type "BaseException") = some true) (hd_WeighError : PySem.W.hasDictIn K C_WeighError = true) (ty_WeighError : PySem.W.typeIn K (.ref C_WeighError) = some (.type "type"))
    (bs_NoCase : PySem.W.subIn K (.ref C_NoCase) (.type "BaseException") = some true) (hd_NoCase : PySem.W.hasDictIn K C_NoCase = true) (ty_NoCase : PySem.W.typeIn K (.ref C_NoCase) = some (.type "type"))
    (bs_NoCoin : PySem.W.subIn K (.ref C_NoCoin) (.type "BaseException") = some true) (hd_NoCoin : PySem.W.hasDictIn K C_NoCoin = true) (ty_NoCoin : PySem.W.typeIn K (.ref C_NoCoin) = some (.type "type"))
    (bs_NoCoins : PySem.W.subIn K (.ref C_NoCoins) (.type "BaseException") = some true) (hd_NoCoins : PySem.W.hasDictIn K C_NoCoins = true) (ty_NoCoins : PySem.W.typeIn K (.ref C_NoCoins) = some (.type "type"))
    (bs_NoSet : PySem.W.subIn K (.ref C_NoSet) (.type "BaseException") = some true) (hd_NoSet : PySem.W.hasDictIn K C_NoSet = true) (ty_NoSet : PySem.W.typeIn K (.ref C_NoSet) = some (.type "type"))
    (oc1 : PySem.W.specialIn K (.builtin "object.__class__") "__get__" = some (some (.builtin "getset_descriptor.__get__"))) (oc2 : PySem.W.takesIn K (.builtin "object.__class__") = some true)
    (kp_NoCase : PySem.W.keepIn K (.ref C_NoCase) = true) (ex_NoCase : PySem.W.excIn K C_NoCase [.type "ValueError", .type "Exception", .type "BaseException", .type "object"] "ValueError.__new__" = true) (ga_NoCase : PySem.W.findIn K (.ref C_NoCase) "__getattribute__" = some (some (.builtin "BaseException.__getattribute__"))) (gg_NoCase : PySem.W.findIn K (.ref C_NoCase) "__getattr__" = some none) (cl_NoCase : PySem.W.findIn K (.ref C_NoCase) "__class__" = some (some (.builtin "object.__class__"))) (mr_NoCase : PySem.W.mroIn K C_NoCase (.type "object") = some true)
    (kp_NoCoin : PySem.W.keepIn K (.ref C_NoCoin) = true) (ex_NoCoin : PySem.W.excIn K C_NoCoin [.type "ValueError", .type "Exception", .type "BaseException", .type "object"] "ValueError.__new__" = true) (ga_NoCoin : PySem.W.findIn K (.ref C_NoCoin) "__getattribute__" = some (some (.builtin "BaseException.__getattribute__"))) (gg_NoCoin : PySem.W.findIn K (.ref C_NoCoin) "__getattr__" = some none) (cl_NoCoin : PySem.W.findIn K (.ref C_NoCoin) "__class__" = some (some (.builtin "object.__class__"))) (mr_NoCoin : PySem.W.mroIn K C_NoCoin (.type "object") = some true)
    (kp_NoCoins : PySem.W.keepIn K (.ref C_NoCoins) = true) (ex_NoCoins : PySem.W.excIn K C_NoCoins [.type "ValueError", .type "Exception", .type "BaseException", .type "object"] "ValueError.__new__" = true) (ga_NoCoins : PySem.W.findIn K (.ref C_NoCoins) "__getattribute__" = some (some (.builtin "BaseException.__getattribute__"))) (gg_NoCoins : PySem.W.findIn K (.ref C_NoCoins) "__getattr__" = some none) (cl_NoCoins : PySem.W.findIn K (.ref C_NoCoins) "__class__" = some (some (.builtin "object.__class__"))) (mr_NoCoins : PySem.W.mroIn K C_NoCoins (.type "object") = some true)
    (kp_NoSet : PySem.W.keepIn K (.ref C_NoSet) = true) (ex_NoSet : PySem.W.excIn K C_NoSet [.type "ValueError", .type "Exception", .type "BaseException", .type "object"] "ValueError.__new__" = true) (ga_NoSet : PySem.W.findIn K (.ref C_NoSet) "__getattribute__" = some (some (.builtin "BaseException.__getattribute__"))) (gg_NoSet : PySem.W.findIn K (.ref C_NoSet) "__getattr__" = some none) (cl_NoSet : PySem.W.findIn K (.ref C_NoSet) "__class__" = some (some (.builtin "object.__class__"))) (mr_NoSet : PySem.W.mroIn K C_NoSet (.type "object") = some true)
    (v_law : K.lookup cc_law = some ⟨oc2_law, od2_law, .fields vs_law, sl2_law⟩) (p_law : (vs_law[11]? : Option Value) = some (.ref pp_law)) (h_law : PySem.W.codeHdIn K cc_law pp_law = true) (n_law : K.lookup pp_law = none) (t_law : h.get? pp_law = some (PySem.W.tabObj #[]))
    (ndP : ((Tt pp_law).map (·.1)).Nodup)
    (su_NoCase_TooMany : PySem.W.subIn K (.ref C_NoCase) (.ref C_TooMany) = some false)
    (su_NoCase_WeighError : PySem.W.subIn K (.ref C_NoCase) (.ref C_WeighError) = some true)
    (su_NoCoin_TooMany : PySem.W.subIn K (.ref C_NoCoin) (.ref C_TooMany) = some false)
    (su_NoCoin_WeighError : PySem.W.subIn K (.ref C_NoCoin) (.ref C_WeighError) = some true)
    (su_NoCoins_TooMany : PySem.W.subIn K (.ref C_NoCoins) (.ref C_TooMany) = some false)
    (su_NoCoins_WeighError : PySem.W.subIn K (.ref C_NoCoins) (.ref C_WeighError) = some true)
    (su_NoSet_TooMany : PySem.W.subIn K (.ref C_NoSet) (.ref C_TooMany) = some false)
    (su_NoSet_WeighError : PySem.W.subIn K (.ref C_NoSet) (.ref C_WeighError) = some true)
    (kt_NoCase_NoCase : PySem.W.kitOne K (.ref C_NoCase) (.ref C_NoCase) = some true)
    (kt_NoCase_NoCodes : PySem.W.kitOne K (.ref C_NoCase) (.ref C_NoCodes) = some false)
    (kt_NoCase_NoCoin : PySem.W.kitOne K (.ref C_NoCase) (.ref C_NoCoin) = some false)
    (kt_NoCase_NoCoins : PySem.W.kitOne K (.ref C_NoCase) (.ref C_NoCoins) = some false)
    (kt_NoCase_NoCount : PySem.W.kitOne K (.ref C_NoCase) (.ref C_NoCount) = some false)
    (kt_NoCase_NoFlag : PySem.W.kitOne K (.ref C_NoCase) (.ref C_NoFlag) = some false)
    (kt_NoCase_NoKind : PySem.W.kitOne K (.ref C_NoCase) (.ref C_NoKind) = some false)
    (kt_NoCase_NoPlan : PySem.W.kitOne K (.ref C_NoCase) (.ref C_NoPlan) = some false)
    (kt_NoCase_NoRecord : PySem.W.kitOne K (.ref C_NoCase) (.ref C_NoRecord) = some false)
    (kt_NoCase_NoResults : PySem.W.kitOne K (.ref C_NoCase) (.ref C_NoResults) = some false)
    (kt_NoCase_NoSet : PySem.W.kitOne K (.ref C_NoCase) (.ref C_NoSet) = some false)
    (kt_NoCase_NoWeighing : PySem.W.kitOne K (.ref C_NoCase) (.ref C_NoWeighing) = some false)
    (kt_NoCoin_NoCase : PySem.W.kitOne K (.ref C_NoCoin) (.ref C_NoCase) = some false)
    (kt_NoCoin_NoCodes : PySem.W.kitOne K (.ref C_NoCoin) (.ref C_NoCodes) = some false)
    (kt_NoCoin_NoCoin : PySem.W.kitOne K (.ref C_NoCoin) (.ref C_NoCoin) = some true)
    (kt_NoCoin_NoCoins : PySem.W.kitOne K (.ref C_NoCoin) (.ref C_NoCoins) = some false)
    (kt_NoCoin_NoCount : PySem.W.kitOne K (.ref C_NoCoin) (.ref C_NoCount) = some false)
    (kt_NoCoin_NoFlag : PySem.W.kitOne K (.ref C_NoCoin) (.ref C_NoFlag) = some false)
    (kt_NoCoin_NoKind : PySem.W.kitOne K (.ref C_NoCoin) (.ref C_NoKind) = some false)
    (kt_NoCoin_NoPlan : PySem.W.kitOne K (.ref C_NoCoin) (.ref C_NoPlan) = some false)
    (kt_NoCoin_NoRecord : PySem.W.kitOne K (.ref C_NoCoin) (.ref C_NoRecord) = some false)
    (kt_NoCoin_NoResults : PySem.W.kitOne K (.ref C_NoCoin) (.ref C_NoResults) = some false)
    (kt_NoCoin_NoSet : PySem.W.kitOne K (.ref C_NoCoin) (.ref C_NoSet) = some false)
    (kt_NoCoin_NoWeighing : PySem.W.kitOne K (.ref C_NoCoin) (.ref C_NoWeighing) = some false)
    (kt_NoCoins_NoCase : PySem.W.kitOne K (.ref C_NoCoins) (.ref C_NoCase) = some false)
    (kt_NoCoins_NoCodes : PySem.W.kitOne K (.ref C_NoCoins) (.ref C_NoCodes) = some false)
    (kt_NoCoins_NoCoin : PySem.W.kitOne K (.ref C_NoCoins) (.ref C_NoCoin) = some false)
    (kt_NoCoins_NoCoins : PySem.W.kitOne K (.ref C_NoCoins) (.ref C_NoCoins) = some true)
    (kt_NoCoins_NoCount : PySem.W.kitOne K (.ref C_NoCoins) (.ref C_NoCount) = some false)
    (kt_NoCoins_NoFlag : PySem.W.kitOne K (.ref C_NoCoins) (.ref C_NoFlag) = some false)
    (kt_NoCoins_NoKind : PySem.W.kitOne K (.ref C_NoCoins) (.ref C_NoKind) = some false)
    (kt_NoCoins_NoPlan : PySem.W.kitOne K (.ref C_NoCoins) (.ref C_NoPlan) = some false)
    (kt_NoCoins_NoRecord : PySem.W.kitOne K (.ref C_NoCoins) (.ref C_NoRecord) = some false)
    (kt_NoCoins_NoResults : PySem.W.kitOne K (.ref C_NoCoins) (.ref C_NoResults) = some false)
    (kt_NoCoins_NoSet : PySem.W.kitOne K (.ref C_NoCoins) (.ref C_NoSet) = some false)
    (kt_NoCoins_NoWeighing : PySem.W.kitOne K (.ref C_NoCoins) (.ref C_NoWeighing) = some false)
    (kt_NoSet_NoCase : PySem.W.kitOne K (.ref C_NoSet) (.ref C_NoCase) = some false)
    (kt_NoSet_NoCodes : PySem.W.kitOne K (.ref C_NoSet) (.ref C_NoCodes) = some false)
    (kt_NoSet_NoCoin : PySem.W.kitOne K (.ref C_NoSet) (.ref C_NoCoin) = some false)
    (kt_NoSet_NoCoins : PySem.W.kitOne K (.ref C_NoSet) (.ref C_NoCoins) = some false)
    (kt_NoSet_NoCount : PySem.W.kitOne K (.ref C_NoSet) (.ref C_NoCount) = some false)
    (kt_NoSet_NoFlag : PySem.W.kitOne K (.ref C_NoSet) (.ref C_NoFlag) = some false)
    (kt_NoSet_NoKind : PySem.W.kitOne K (.ref C_NoSet) (.ref C_NoKind) = some false)
    (kt_NoSet_NoPlan : PySem.W.kitOne K (.ref C_NoSet) (.ref C_NoPlan) = some false)
    (kt_NoSet_NoRecord : PySem.W.kitOne K (.ref C_NoSet) (.ref C_NoRecord) = some false)
    (kt_NoSet_NoResults : PySem.W.kitOne K (.ref C_NoSet) (.ref C_NoResults) = some false)
    (kt_NoSet_NoSet : PySem.W.kitOne K (.ref C_NoSet) (.ref C_NoSet) = some true)
    (kt_NoSet_NoWeighing : PySem.W.kitOne K (.ref C_NoSet) (.ref C_NoWeighing) = some false) :
    LamX.LawAtS l w K (L2.CX l.prog w) 10 63 "script" mg fa h := by
  have e := hfa.symm.trans (PySem.W.mg_of X G a_law)
  cases e
  have ec0 : ExcC K C_NoCase := ⟨ga_NoCase, gg_NoCase, bs_NoCase, hd_NoCase, cl_NoCase, oc1, oc2, mr_NoCase⟩
  have ec1 : ExcC K C_NoCoin := ⟨ga_NoCoin, gg_NoCoin, bs_NoCoin, hd_NoCoin, cl_NoCoin, oc1, oc2, mr_NoCoin⟩
  have ec2 : ExcC K C_NoCoins := ⟨ga_NoCoins, gg_NoCoins, bs_NoCoins, hd_NoCoins, cl_NoCoins, oc1, oc2, mr_NoCoins⟩
  have ec3 : ExcC K C_NoSet := ⟨ga_NoSet, gg_NoSet, bs_NoSet, hd_NoSet, cl_NoSet, oc1, oc2, mr_NoSet⟩
  have e0 : mg "abs" = none := PySem.W.mg_none_of X G z_abs
  have e1 : mg "all" = none := PySem.W.mg_none_of X G z_all
  have e2 : mg "any" = none := PySem.W.mg_none_of X G z_any
  have e3 : mg "bool" = none := PySem.W.mg_none_of X G z_bool
  have e4 : mg "int" = none := PySem.W.mg_none_of X G z_int
  have e5 : mg "isinstance" = none := PySem.W.mg_none_of X G z_isinstance
  have e6 : mg "len" = none := PySem.W.mg_none_of X G z_len
  have e7 : mg "list" = none := PySem.W.mg_none_of X G z_list
  have e8 : mg "range" = none := PySem.W.mg_none_of X G z_range
  have e9 : mg "sorted" = none := PySem.W.mg_none_of X G z_sorted
  have e10 : mg "str" = none := PySem.W.mg_none_of X G z_str
  have e11 : mg "tuple" = none := PySem.W.mg_none_of X G z_tuple
  have e12 : mg "zip" = none := PySem.W.mg_none_of X G z_zip
  have e13 : ExcM K mg "NoCase" := ⟨C_NoCase, PySem.W.mg_of X G a_NoCase, kp_NoCase, bs_NoCase, ty_NoCase, _, _, _, _, PySem.F.excBase_ValueError, ex_NoCase⟩
  have e14 : ExcM K mg "NoCoin" := ⟨C_NoCoin, PySem.W.mg_of X G a_NoCoin, kp_NoCoin, bs_NoCoin, ty_NoCoin, _, _, _, _, PySem.F.excBase_ValueError, ex_NoCoin⟩
  have e15 : ExcM K mg "NoCoins" := ⟨C_NoCoins, PySem.W.mg_of X G a_NoCoins, kp_NoCoins, bs_NoCoins, ty_NoCoins, _, _, _, _, PySem.F.excBase_ValueError, ex_NoCoins⟩
  have e16 : ExcM K mg "NoSet" := ⟨C_NoSet, PySem.W.mg_of X G a_NoSet, kp_NoSet, bs_NoSet, ty_NoSet, _, _, _, _, PySem.F.excBase_ValueError, ex_NoSet⟩
  have e17 : GlobM K mg "LEAST_COINS" (.int 3) := glob_int (PySem.W.mg_of X G g_LEAST_COINS)
  have e18 : GlobM K mg "MOST_COINS" (.int 13) := glob_int (PySem.W.mg_of X G g_MOST_COINS)
  have e19 : GlobM K mg "HEAVIER" (.str "heavier") := glob_str (PySem.W.mg_of X G g_HEAVIER)
  have e20 : GlobM K mg "LIGHTER" (.str "lighter") := glob_str (PySem.W.mg_of X G g_LIGHTER)
  have e21 : GlobM K mg "MOST_SET" (.int 4) := glob_int (PySem.W.mg_of X G g_MOST_SET)
  have e22 : FunM K mg "is_integer" s_is_integer ["thing"] := ⟨_, _, fun_mk (st := s_is_integer) l_is_integer c_is_integer k_is_integer, PySem.W.mg_of X G a_is_integer, (fun_mk (st := s_is_integer) l_is_integer c_is_integer k_is_integer).binds (ps := ["thing"]) fun _ _ _ _ _ _ us hl => match us, hl with | [_], _ => rfl⟩
  have e23 : FunM K mg "is_within" s_is_within ["thing", "low", "high"] := ⟨_, _, fun_mk (st := s_is_within) l_is_within c_is_within k_is_within, PySem.W.mg_of X G a_is_within, (fun_mk (st := s_is_within) l_is_within c_is_within k_is_within).binds (ps := ["thing", "low", "high"]) fun _ _ _ _ _ _ us hl => match us, hl with | [_, _, _], _ => rfl⟩
  have e24 : FunM K mg "is_sized" s_is_sized ["thing", "low", "high"] := ⟨_, _, fun_mk (st := s_is_sized) l_is_sized c_is_sized k_is_sized, PySem.W.mg_of X G a_is_sized, (fun_mk (st := s_is_sized) l_is_sized c_is_sized k_is_sized).binds (ps := ["thing", "low", "high"]) fun _ _ _ _ _ _ us hl => match us, hl with | [_, _, _], _ => rfl⟩
  have e25 : FunM K mg "is_lot" s_is_lot ["thing", "many"] := ⟨_, _, fun_mk (st := s_is_lot) l_is_lot c_is_lot k_is_lot, PySem.W.mg_of X G a_is_lot, (fun_mk (st := s_is_lot) l_is_lot c_is_lot k_is_lot).binds (ps := ["thing", "many"]) fun _ _ _ _ _ _ us hl => match us, hl with | [_, _], _ => rfl⟩
  have e26 : FunM K mg "check_coins" s_check_coins ["n"] := ⟨_, _, fun_mk (st := s_check_coins) l_check_coins c_check_coins k_check_coins, PySem.W.mg_of X G a_check_coins, (fun_mk (st := s_check_coins) l_check_coins c_check_coins k_check_coins).binds (ps := ["n"]) fun _ _ _ _ _ _ us hl => match us, hl with | [_], _ => rfl⟩
  have e27 : FunM K mg "is_case" s_is_case ["n", "thing"] := ⟨_, _, fun_mk (st := s_is_case) l_is_case c_is_case k_is_case, PySem.W.mg_of X G a_is_case, (fun_mk (st := s_is_case) l_is_case c_is_case k_is_case).binds (ps := ["n", "thing"]) fun _ _ _ _ _ _ us hl => match us, hl with | [_, _], _ => rfl⟩
  have e28 : FunM K mg "is_weighing" s_is_weighing ["n", "is_spare", "thing"] := ⟨_, _, fun_mk (st := s_is_weighing) l_is_weighing c_is_weighing k_is_weighing, PySem.W.mg_of X G a_is_weighing, (fun_mk (st := s_is_weighing) l_is_weighing c_is_weighing k_is_weighing).binds (ps := ["n", "is_spare", "thing"]) fun _ _ _ _ _ _ us hl => match us, hl with | [_, _, _], _ => rfl⟩
  have e29 : FunM K mg "raw_result" s_raw_result ["case", "near", "far"] := ⟨_, _, fun_mk (st := s_raw_result) l_raw_result c_raw_result k_raw_result, PySem.W.mg_of X G a_raw_result, (fun_mk (st := s_raw_result) l_raw_result c_raw_result k_raw_result).binds (ps := ["case", "near", "far"]) fun _ _ _ _ _ _ us hl => match us, hl with | [_, _, _], _ => rfl⟩
  have e30 : FunM K mg "is_set" s_is_set ["n", "thing"] := ⟨_, _, fun_mk (st := s_is_set) l_is_set c_is_set k_is_set, PySem.W.mg_of X G a_is_set, (fun_mk (st := s_is_set) l_is_set c_is_set k_is_set).binds (ps := ["n", "thing"]) fun _ _ _ _ _ _ us hl => match us, hl with | [_, _], _ => rfl⟩
  have e31 : FunM K mg "check_set" s_check_set ["n", "set_of"] := ⟨_, _, fun_mk (st := s_check_set) l_check_set c_check_set k_check_set, PySem.W.mg_of X G a_check_set, (fun_mk (st := s_check_set) l_check_set c_check_set k_check_set).binds (ps := ["n", "set_of"]) fun _ _ _ _ _ _ us hl => match us, hl with | [_, _], _ => rfl⟩
  have e32 : FunM K mg "raw_results" s_raw_results ["set_of", "case"] := ⟨_, _, fun_mk (st := s_raw_results) l_raw_results c_raw_results k_raw_results, PySem.W.mg_of X G a_raw_results, (fun_mk (st := s_raw_results) l_raw_results c_raw_results k_raw_results).binds (ps := ["set_of", "case"]) fun _ _ _ _ _ _ us hl => match us, hl with | [_, _], _ => rfl⟩
  have e33 : FunM K mg "results_of" s_results_of ["n", "set_of", "case"] := ⟨_, _, fun_mk (st := s_results_of) l_results_of c_results_of k_results_of, PySem.W.mg_of X G a_results_of, (fun_mk (st := s_results_of) l_results_of c_results_of k_results_of).binds (ps := ["n", "set_of", "case"]) fun _ _ _ _ _ _ us hl => match us, hl with | [_, _, _], _ => rfl⟩
  have e34 : FunM K mg "raw_code" s_raw_code ["set_of", "coin"] := ⟨_, _, fun_mk (st := s_raw_code) l_raw_code c_raw_code k_raw_code, PySem.W.mg_of X G a_raw_code, (fun_mk (st := s_raw_code) l_raw_code c_raw_code k_raw_code).binds (ps := ["set_of", "coin"]) fun _ _ _ _ _ _ us hl => match us, hl with | [_, _], _ => rfl⟩
  have e35 : FunM K mg "code_of" s_code_of ["n", "set_of", "coin"] := ⟨_, _, fun_mk (st := s_code_of) l_code_of c_code_of k_code_of, PySem.W.mg_of X G a_code_of, (fun_mk (st := s_code_of) l_code_of c_code_of k_code_of).binds (ps := ["n", "set_of", "coin"]) fun _ _ _ _ _ _ us hl => match us, hl with | [_, _, _], _ => rfl⟩
  have e36 : FunM K mg "raw_apart" s_raw_apart ["set_of", "one", "other"] := ⟨_, _, fun_mk (st := s_raw_apart) l_raw_apart c_raw_apart k_raw_apart, PySem.W.mg_of X G a_raw_apart, (fun_mk (st := s_raw_apart) l_raw_apart c_raw_apart k_raw_apart).binds (ps := ["set_of", "one", "other"]) fun _ _ _ _ _ _ us hl => match us, hl with | [_, _, _], _ => rfl⟩
  have e37 : FunM K mg "apart_by" s_apart_by ["n", "set_of", "one", "other"] := ⟨_, _, fun_mk (st := s_apart_by) l_apart_by c_apart_by k_apart_by, PySem.W.mg_of X G a_apart_by, (fun_mk (st := s_apart_by) l_apart_by c_apart_by k_apart_by).binds (ps := ["n", "set_of", "one", "other"]) fun _ _ _ _ _ _ us hl => match us, hl with | [_, _, _, _], _ => rfl⟩
  have e38 : FunM K mg "_law_hand" s__law_hand ["script"] := ⟨_, _, fun_mk (st := s__law_hand) l__law_hand c__law_hand k__law_hand, PySem.W.mg_of X G a__law_hand, (fun_mk (st := s__law_hand) l__law_hand c__law_hand k__law_hand).binds (ps := ["script"]) fun _ _ _ _ _ _ us hl => match us, hl with | [_], _ => rfl⟩
  have e39 : FunM K mg "_law_draw" s__law_draw ["hand", "many"] := ⟨_, _, fun_mk (st := s__law_draw) l__law_draw c__law_draw k__law_draw, PySem.W.mg_of X G a__law_draw, (fun_mk (st := s__law_draw) l__law_draw c__law_draw k__law_draw).binds (ps := ["hand", "many"]) fun _ _ _ _ _ _ us hl => match us, hl with | [_, _], _ => rfl⟩
  have e40 : FunM K mg "_law_any" s__law_any ["hand", "some"] := ⟨_, _, fun_mk (st := s__law_any) l__law_any c__law_any k__law_any, PySem.W.mg_of X G a__law_any, (fun_mk (st := s__law_any) l__law_any c__law_any k__law_any).binds (ps := ["hand", "some"]) fun _ _ _ _ _ _ us hl => match us, hl with | [_, _], _ => rfl⟩
  have e41 : FunM K mg "_law_cases" s__law_cases ["n", "kind"] := ⟨_, _, fun_mk (st := s__law_cases) l__law_cases c__law_cases k__law_cases, PySem.W.mg_of X G a__law_cases, (fun_mk (st := s__law_cases) l__law_cases c__law_cases k__law_cases).binds (ps := ["n", "kind"]) fun _ _ _ _ _ _ us hl => match us, hl with | [_, _], _ => rfl⟩
  have e42 : FunM K mg "_law_result" s__law_result ["case", "weighing"] := ⟨_, _, fun_mk (st := s__law_result) l__law_result c__law_result k__law_result, PySem.W.mg_of X G a__law_result, (fun_mk (st := s__law_result) l__law_result c__law_result k__law_result).binds (ps := ["case", "weighing"]) fun _ _ _ _ _ _ us hl => match us, hl with | [_, _], _ => rfl⟩
  have e43 : FunM K mg "_law_weighing" s__law_weighing ["hand", "n"] := ⟨_, _, fun_mk (st := s__law_weighing) l__law_weighing c__law_weighing k__law_weighing, PySem.W.mg_of X G a__law_weighing, (fun_mk (st := s__law_weighing) l__law_weighing c__law_weighing k__law_weighing).binds (ps := ["hand", "n"]) fun _ _ _ _ _ _ us hl => match us, hl with | [_, _], _ => rfl⟩
  have e44 : FunM K mg "_law_no_coins" s__law_no_coins ["hand"] := ⟨_, _, fun_mk (st := s__law_no_coins) l__law_no_coins c__law_no_coins k__law_no_coins, PySem.W.mg_of X G a__law_no_coins, (fun_mk (st := s__law_no_coins) l__law_no_coins c__law_no_coins k__law_no_coins).binds (ps := ["hand"]) fun _ _ _ _ _ _ us hl => match us, hl with | [_], _ => rfl⟩
  have e45 : FunM K mg "_law_set" s__law_set ["hand", "n", "most"] := ⟨_, _, fun_mk (st := s__law_set) l__law_set c__law_set k__law_set, PySem.W.mg_of X G a__law_set, (fun_mk (st := s__law_set) l__law_set c__law_set k__law_set).binds (ps := ["hand", "n", "most"]) fun _ _ _ _ _ _ us hl => match us, hl with | [_, _, _], _ => rfl⟩
  have e46 : FunM K mg "_law_results" s__law_results ["set_of", "case"] := ⟨_, _, fun_mk (st := s__law_results) l__law_results c__law_results k__law_results, PySem.W.mg_of X G a__law_results, (fun_mk (st := s__law_results) l__law_results c__law_results k__law_results).binds (ps := ["set_of", "case"]) fun _ _ _ _ _ _ us hl => match us, hl with | [_, _], _ => rfl⟩
  have e47 : FunM K mg "_law_code" s__law_code ["set_of", "coin"] := ⟨_, _, fun_mk (st := s__law_code) l__law_code c__law_code k__law_code, PySem.W.mg_of X G a__law_code, (fun_mk (st := s__law_code) l__law_code c__law_code k__law_code).binds (ps := ["set_of", "coin"]) fun _ _ _ _ _ _ us hl => match us, hl with | [_, _], _ => rfl⟩
  have e48 : FunM K mg "_law_apart" s__law_apart ["one", "other"] := ⟨_, _, fun_mk (st := s__law_apart) l__law_apart c__law_apart k__law_apart, PySem.W.mg_of X G a__law_apart, (fun_mk (st := s__law_apart) l__law_apart c__law_apart k__law_apart).binds (ps := ["one", "other"]) fun _ _ _ _ _ _ us hl => match us, hl with | [_, _], _ => rfl⟩
  have e49 : FunM K mg "_law_no_set" s__law_no_set ["hand"] := ⟨_, _, fun_mk (st := s__law_no_set) l__law_no_set c__law_no_set k__law_no_set, PySem.W.mg_of X G a__law_no_set, (fun_mk (st := s__law_no_set) l__law_no_set c__law_no_set k__law_no_set).binds (ps := ["hand"]) fun _ _ _ _ _ _ us hl => match us, hl with | [_], _ => rfl⟩
  have m0 : FunC K mg "law" s_law ["script"] cc_law := ⟨_, _, _, _, _, _, _, _, _, PySem.W.mg_of X G a_law, l_law, c_law, k_law, (fun_mk (st := s_law) l_law c_law k_law).binds (ps := ["script"]) fun _ _ _ _ _ _ us hl => match us, hl with | [_], _ => rfl⟩
  have r0 : FunT K mg "_law_word" s__law_word ["call"] := ⟨_, _, _, _, _, _, _, _, _, _, PySem.W.mg_of X G a__law_word, l__law_word, c__law_word, k__law_word, (fun_mk (st := s__law_word) l__law_word c__law_word k__law_word).binds (ps := ["call"]) fun _ _ _ _ _ _ us hl => match us, hl with | [_], _ => rfl⟩
  have r1 : IsC mg "NoCase" := ⟨_, PySem.W.mg_of X G a_NoCase⟩
  have r2 : IsC mg "NoCoin" := ⟨_, PySem.W.mg_of X G a_NoCoin⟩
  have r3 : IsC mg "NoCoins" := ⟨_, PySem.W.mg_of X G a_NoCoins⟩
  have r4 : IsC mg "NoSet" := ⟨_, PySem.W.mg_of X G a_NoSet⟩
  have r5 : IsC mg "TooMany" := ⟨_, PySem.W.mg_of X G a_TooMany⟩
  have r6 : IsC mg "WeighError" := ⟨_, PySem.W.mg_of X G a_WeighError⟩
  have r7 : IsC mg "NoCodes" := ⟨_, PySem.W.mg_of X G a_NoCodes⟩
  have r8 : IsC mg "NoCount" := ⟨_, PySem.W.mg_of X G a_NoCount⟩
  have r9 : IsC mg "NoFlag" := ⟨_, PySem.W.mg_of X G a_NoFlag⟩
  have r10 : IsC mg "NoKind" := ⟨_, PySem.W.mg_of X G a_NoKind⟩
  have r11 : IsC mg "NoPlan" := ⟨_, PySem.W.mg_of X G a_NoPlan⟩
  have r12 : IsC mg "NoRecord" := ⟨_, PySem.W.mg_of X G a_NoRecord⟩
  have r13 : IsC mg "NoResults" := ⟨_, PySem.W.mg_of X G a_NoResults⟩
  have r14 : IsC mg "NoWeighing" := ⟨_, PySem.W.mg_of X G a_NoWeighing⟩
  have r15 : ExmM K mg "NoCase" "TooMany" false := exmM_mk (PySem.W.mg_of X G a_NoCase) (PySem.W.mg_of X G a_TooMany) (PySem.W.exm_ref bs_TooMany hd_TooMany ty_TooMany su_NoCase_TooMany)
  have r16 : ExmM K mg "NoCase" "WeighError" true := exmM_mk (PySem.W.mg_of X G a_NoCase) (PySem.W.mg_of X G a_WeighError) (PySem.W.exm_ref bs_WeighError hd_WeighError ty_WeighError su_NoCase_WeighError)
  have r17 : ExmM K mg "NoCoin" "TooMany" false := exmM_mk (PySem.W.mg_of X G a_NoCoin) (PySem.W.mg_of X G a_TooMany) (PySem.W.exm_ref bs_TooMany hd_TooMany ty_TooMany su_NoCoin_TooMany)
  have r18 : ExmM K mg "NoCoin" "WeighError" true := exmM_mk (PySem.W.mg_of X G a_NoCoin) (PySem.W.mg_of X G a_WeighError) (PySem.W.exm_ref bs_WeighError hd_WeighError ty_WeighError su_NoCoin_WeighError)
  have r19 : ExmM K mg "NoCoins" "TooMany" false := exmM_mk (PySem.W.mg_of X G a_NoCoins) (PySem.W.mg_of X G a_TooMany) (PySem.W.exm_ref bs_TooMany hd_TooMany ty_TooMany su_NoCoins_TooMany)
  have r20 : ExmM K mg "NoCoins" "WeighError" true := exmM_mk (PySem.W.mg_of X G a_NoCoins) (PySem.W.mg_of X G a_WeighError) (PySem.W.exm_ref bs_WeighError hd_WeighError ty_WeighError su_NoCoins_WeighError)
  have r21 : ExmM K mg "NoSet" "TooMany" false := exmM_mk (PySem.W.mg_of X G a_NoSet) (PySem.W.mg_of X G a_TooMany) (PySem.W.exm_ref bs_TooMany hd_TooMany ty_TooMany su_NoSet_TooMany)
  have r22 : ExmM K mg "NoSet" "WeighError" true := exmM_mk (PySem.W.mg_of X G a_NoSet) (PySem.W.mg_of X G a_WeighError) (PySem.W.exm_ref bs_WeighError hd_WeighError ty_WeighError su_NoSet_WeighError)
  have r23 : KitM K mg "NoCase" "NoCase" true := kitM_mk (PySem.W.mg_of X G a_NoCase) (PySem.W.mg_of X G a_NoCase) (by assumption) kt_NoCase_NoCase
  have r24 : KitM K mg "NoCase" "NoCodes" false := kitM_mk (PySem.W.mg_of X G a_NoCase) (PySem.W.mg_of X G a_NoCodes) (by assumption) kt_NoCase_NoCodes
  have r25 : KitM K mg "NoCase" "NoCoin" false := kitM_mk (PySem.W.mg_of X G a_NoCase) (PySem.W.mg_of X G a_NoCoin) (by assumption) kt_NoCase_NoCoin
  have r26 : KitM K mg "NoCase" "NoCoins" false := kitM_mk (PySem.W.mg_of X G a_NoCase) (PySem.W.mg_of X G a_NoCoins) (by assumption) kt_NoCase_NoCoins
  have r27 : KitM K mg "NoCase" "NoCount" false := kitM_mk (PySem.W.mg_of X G a_NoCase) (PySem.W.mg_of X G a_NoCount) (by assumption) kt_NoCase_NoCount
  have r28 : KitM K mg "NoCase" "NoFlag" false := kitM_mk (PySem.W.mg_of X G a_NoCase) (PySem.W.mg_of X G a_NoFlag) (by assumption) kt_NoCase_NoFlag
  have r29 : KitM K mg "NoCase" "NoKind" false := kitM_mk (PySem.W.mg_of X G a_NoCase) (PySem.W.mg_of X G a_NoKind) (by assumption) kt_NoCase_NoKind
  have r30 : KitM K mg "NoCase" "NoPlan" false := kitM_mk (PySem.W.mg_of X G a_NoCase) (PySem.W.mg_of X G a_NoPlan) (by assumption) kt_NoCase_NoPlan
  have r31 : KitM K mg "NoCase" "NoRecord" false := kitM_mk (PySem.W.mg_of X G a_NoCase) (PySem.W.mg_of X G a_NoRecord) (by assumption) kt_NoCase_NoRecord
  have r32 : KitM K mg "NoCase" "NoResults" false := kitM_mk (PySem.W.mg_of X G a_NoCase) (PySem.W.mg_of X G a_NoResults) (by assumption) kt_NoCase_NoResults
  have r33 : KitM K mg "NoCase" "NoSet" false := kitM_mk (PySem.W.mg_of X G a_NoCase) (PySem.W.mg_of X G a_NoSet) (by assumption) kt_NoCase_NoSet
  have r34 : KitM K mg "NoCase" "NoWeighing" false := kitM_mk (PySem.W.mg_of X G a_NoCase) (PySem.W.mg_of X G a_NoWeighing) (by assumption) kt_NoCase_NoWeighing
  have r35 : KitM K mg "NoCoin" "NoCase" false := kitM_mk (PySem.W.mg_of X G a_NoCoin) (PySem.W.mg_of X G a_NoCase) (by assumption) kt_NoCoin_NoCase
  have r36 : KitM K mg "NoCoin" "NoCodes" false := kitM_mk (PySem.W.mg_of X G a_NoCoin) (PySem.W.mg_of X G a_NoCodes) (by assumption) kt_NoCoin_NoCodes
  have r37 : KitM K mg "NoCoin" "NoCoin" true := kitM_mk (PySem.W.mg_of X G a_NoCoin) (PySem.W.mg_of X G a_NoCoin) (by assumption) kt_NoCoin_NoCoin
  have r38 : KitM K mg "NoCoin" "NoCoins" false := kitM_mk (PySem.W.mg_of X G a_NoCoin) (PySem.W.mg_of X G a_NoCoins) (by assumption) kt_NoCoin_NoCoins
  have r39 : KitM K mg "NoCoin" "NoCount" false := kitM_mk (PySem.W.mg_of X G a_NoCoin) (PySem.W.mg_of X G a_NoCount) (by assumption) kt_NoCoin_NoCount
  have r40 : KitM K mg "NoCoin" "NoFlag" false := kitM_mk (PySem.W.mg_of X G a_NoCoin) (PySem.W.mg_of X G a_NoFlag) (by assumption) kt_NoCoin_NoFlag
  have r41 : KitM K mg "NoCoin" "NoKind" false := kitM_mk (PySem.W.mg_of X G a_NoCoin) (PySem.W.mg_of X G a_NoKind) (by assumption) kt_NoCoin_NoKind
  have r42 : KitM K mg "NoCoin" "NoPlan" false := kitM_mk (PySem.W.mg_of X G a_NoCoin) (PySem.W.mg_of X G a_NoPlan) (by assumption) kt_NoCoin_NoPlan
  have r43 : KitM K mg "NoCoin" "NoRecord" false := kitM_mk (PySem.W.mg_of X G a_NoCoin) (PySem.W.mg_of X G a_NoRecord) (by assumption) kt_NoCoin_NoRecord
  have r44 : KitM K mg "NoCoin" "NoResults" false := kitM_mk (PySem.W.mg_of X G a_NoCoin) (PySem.W.mg_of X G a_NoResults) (by assumption) kt_NoCoin_NoResults
  have r45 : KitM K mg "NoCoin" "NoSet" false := kitM_mk (PySem.W.mg_of X G a_NoCoin) (PySem.W.mg_of X G a_NoSet) (by assumption) kt_NoCoin_NoSet
  have r46 : KitM K mg "NoCoin" "NoWeighing" false := kitM_mk (PySem.W.mg_of X G a_NoCoin) (PySem.W.mg_of X G a_NoWeighing) (by assumption) kt_NoCoin_NoWeighing
  have r47 : KitM K mg "NoCoins" "NoCase" false := kitM_mk (PySem.W.mg_of X G a_NoCoins) (PySem.W.mg_of X G a_NoCase) (by assumption) kt_NoCoins_NoCase
  have r48 : KitM K mg "NoCoins" "NoCodes" false := kitM_mk (PySem.W.mg_of X G a_NoCoins) (PySem.W.mg_of X G a_NoCodes) (by assumption) kt_NoCoins_NoCodes
  have r49 : KitM K mg "NoCoins" "NoCoin" false := kitM_mk (PySem.W.mg_of X G a_NoCoins) (PySem.W.mg_of X G a_NoCoin) (by assumption) kt_NoCoins_NoCoin
  have r50 : KitM K mg "NoCoins" "NoCoins" true := kitM_mk (PySem.W.mg_of X G a_NoCoins) (PySem.W.mg_of X G a_NoCoins) (by assumption) kt_NoCoins_NoCoins
  have r51 : KitM K mg "NoCoins" "NoCount" false := kitM_mk (PySem.W.mg_of X G a_NoCoins) (PySem.W.mg_of X G a_NoCount) (by assumption) kt_NoCoins_NoCount
  have r52 : KitM K mg "NoCoins" "NoFlag" false := kitM_mk (PySem.W.mg_of X G a_NoCoins) (PySem.W.mg_of X G a_NoFlag) (by assumption) kt_NoCoins_NoFlag
  have r53 : KitM K mg "NoCoins" "NoKind" false := kitM_mk (PySem.W.mg_of X G a_NoCoins) (PySem.W.mg_of X G a_NoKind) (by assumption) kt_NoCoins_NoKind
  have r54 : KitM K mg "NoCoins" "NoPlan" false := kitM_mk (PySem.W.mg_of X G a_NoCoins) (PySem.W.mg_of X G a_NoPlan) (by assumption) kt_NoCoins_NoPlan
  have r55 : KitM K mg "NoCoins" "NoRecord" false := kitM_mk (PySem.W.mg_of X G a_NoCoins) (PySem.W.mg_of X G a_NoRecord) (by assumption) kt_NoCoins_NoRecord
  have r56 : KitM K mg "NoCoins" "NoResults" false := kitM_mk (PySem.W.mg_of X G a_NoCoins) (PySem.W.mg_of X G a_NoResults) (by assumption) kt_NoCoins_NoResults
  have r57 : KitM K mg "NoCoins" "NoSet" false := kitM_mk (PySem.W.mg_of X G a_NoCoins) (PySem.W.mg_of X G a_NoSet) (by assumption) kt_NoCoins_NoSet
  have r58 : KitM K mg "NoCoins" "NoWeighing" false := kitM_mk (PySem.W.mg_of X G a_NoCoins) (PySem.W.mg_of X G a_NoWeighing) (by assumption) kt_NoCoins_NoWeighing
  have r59 : KitM K mg "NoSet" "NoCase" false := kitM_mk (PySem.W.mg_of X G a_NoSet) (PySem.W.mg_of X G a_NoCase) (by assumption) kt_NoSet_NoCase
  have r60 : KitM K mg "NoSet" "NoCodes" false := kitM_mk (PySem.W.mg_of X G a_NoSet) (PySem.W.mg_of X G a_NoCodes) (by assumption) kt_NoSet_NoCodes
  have r61 : KitM K mg "NoSet" "NoCoin" false := kitM_mk (PySem.W.mg_of X G a_NoSet) (PySem.W.mg_of X G a_NoCoin) (by assumption) kt_NoSet_NoCoin
  have r62 : KitM K mg "NoSet" "NoCoins" false := kitM_mk (PySem.W.mg_of X G a_NoSet) (PySem.W.mg_of X G a_NoCoins) (by assumption) kt_NoSet_NoCoins
  have r63 : KitM K mg "NoSet" "NoCount" false := kitM_mk (PySem.W.mg_of X G a_NoSet) (PySem.W.mg_of X G a_NoCount) (by assumption) kt_NoSet_NoCount
  have r64 : KitM K mg "NoSet" "NoFlag" false := kitM_mk (PySem.W.mg_of X G a_NoSet) (PySem.W.mg_of X G a_NoFlag) (by assumption) kt_NoSet_NoFlag
  have r65 : KitM K mg "NoSet" "NoKind" false := kitM_mk (PySem.W.mg_of X G a_NoSet) (PySem.W.mg_of X G a_NoKind) (by assumption) kt_NoSet_NoKind
  have r66 : KitM K mg "NoSet" "NoPlan" false := kitM_mk (PySem.W.mg_of X G a_NoSet) (PySem.W.mg_of X G a_NoPlan) (by assumption) kt_NoSet_NoPlan
  have r67 : KitM K mg "NoSet" "NoRecord" false := kitM_mk (PySem.W.mg_of X G a_NoSet) (PySem.W.mg_of X G a_NoRecord) (by assumption) kt_NoSet_NoRecord
  have r68 : KitM K mg "NoSet" "NoResults" false := kitM_mk (PySem.W.mg_of X G a_NoSet) (PySem.W.mg_of X G a_NoResults) (by assumption) kt_NoSet_NoResults
  have r69 : KitM K mg "NoSet" "NoSet" true := kitM_mk (PySem.W.mg_of X G a_NoSet) (PySem.W.mg_of X G a_NoSet) (by assumption) kt_NoSet_NoSet
  have r70 : KitM K mg "NoSet" "NoWeighing" false := kitM_mk (PySem.W.mg_of X G a_NoSet) (PySem.W.mg_of X G a_NoWeighing) (by assumption) kt_NoSet_NoWeighing
  have Zb : ∀ base : Heap, (∀ p ∈ ([(cc_law, pp_law)] : List (Addr × Addr)), LamX.TabB base mg p.1 p.2) → Prog K mg base cc_law pp_law := fun base TB => ⟨e0, e1, e2, e3, e4, e5, e6, e7, e8, e9, e10, e11, e12, e13, e14, e15, e16, e17, e18, e19, e20, e21, e22, e23, e24, e25, e26, e27, e28, e29, e30, e31, e32, e33, e34, e35, e36, e37, e38, e39, e40, e41, e42, e43, e44, e45, e46, e47, e48, e49, m0, (TB _ (.head _)), ndP, r0, r1, r2, r3, r4, r5, r6, r7, r8, r9, r10, r11, r12, r13, r14, r15, r16, r17, r18, r19, r20, r21, r22, r23, r24, r25, r26, r27, r28, r29, r30, r31, r32, r33, r34, r35, r36, r37, r38, r39, r40, r41, r42, r43, r44, r45, r46, r47, r48, r49, r50, r51, r52, r53, r54, r55, r56, r57, r58, r59, r60, r61, r62, r63, r64, r65, r66, r67, r68, r69, r70⟩
  have hT : ∀ p ∈ ([(cc_law, pp_law)] : List (Addr × Addr)), h.get? p.2 = some { cls := .none, data := .fields #[] } := (List.forall_mem_cons.mpr ⟨t_law, (fun _ h => nomatch h)⟩)
  refine ⟨PySem.W.fnOf "law" "law" (defArgs s_law) (defBody s_law) (defScope s_law) .none kV_law dc_law pm_law an_law (.ref cc_law) ct_law, [(cc_law, pp_law)], spSX K (mkT (Tt pp_law)) F_law, hT, (List.forall_mem_cons.mpr ⟨n_law, (fun _ h => nomatch h)⟩), (List.forall_mem_cons.mpr ⟨(PySem.W.codeHd_of_K X h_law), (fun _ h => nomatch h)⟩), fun s v => .of_eq rfl, fun H a ns hl _ hH hS => law_spX (D ns hl) mf_law (fun p hp => ?_) hS, fun base _ _ TB => ?_⟩
  · have hp : p ∈ (Tt pp_law) := hp
    simp only [Tt, List.mem_cons, List.not_mem_nil, or_false] at hp
    rcases hp with rfl
    · exact hH (cc_law, pp_law) (by simp)
  · exact fnC_S l_law c_law sc_law rfl (by decide) (body_law (Zb base TB))
theorem walk {l : PySem.W.OpenLaw} {q : Program} {loose : List Str} {XP : (Str → Option Value) → Heap → Prop} {YP : World → Heap → Prop} {d : DefRec} {K : Params → PySem.W.Frag} (hn : l.most = some 63) (hdf : d.params.defaults = [])
    (hY : ∀ (w : World) (h : Heap), YP w h → (K w.params).In h)
    (F : ∀ (w : World) (mg : Str → Option Value) (fa : Addr) (h : Heap), YP w h → (K w.params).In h → h.Ns mainGlobals mg → mg d.name = some (.ref fa) → LamX.LawAtS l w (K w.params) (L2.CX l.prog w) 10 63 "script" mg fa h) :
    PySem.W.WalkO q loose XP YP l.row.toRowW d [] (fun f vs => PySem.call f vs) :=
  LamX.walk_ofTs (n := 63) (k := 10) (x := "script") (CX := fun w => L2.CX l.prog w) hn (by decide) hdf ⟨rfl, by decide, by decide⟩ hY F fun w H s e s' h => cx_none h
end W_k11
open PySem PySem.W PyProof.Rows in
set_option maxRecDepth 100000 in
set_option maxHeartbeats 0 in
theorem PySem.Challenge.cw_weighhouse_k11_whole_results_and_codes_o_holds : PySem.Challenge.rw_weighhouse_k11_whole_results_and_codes_o.Holds := by
  w_on; o_law; k_head; (case hw => w_witness2)
  k_fill
  refine W_k11.walk (l := PySem.Challenge.rw_weighhouse_k11_whole_results_and_codes_o) rfl rfl (fun w h Y => PySem.W.km_in_of Y) ?F
  case F =>
    intro w mg fa h Y KX G hmg
    have hT8 := PySem.W.km_tabs_of Y
    refine' W_k11.all_mk W_k11.law_true KX G hmg ?a_is_integer ?l_is_integer ?c_is_integer ?k_is_integer ?a_is_within ?l_is_within ?c_is_within ?k_is_within ?a_is_sized ?l_is_sized ?c_is_sized ?k_is_sized ?a_is_lot ?l_is_lot ?c_is_lot ?k_is_lot ?a_check_coins ?l_check_coins ?c_check_coins ?k_check_coins ?a_is_case ?l_is_case ?c_is_case ?k_is_case ?a_is_weighing ?l_is_weighing ?c_is_weighing ?k_is_weighing ?a_raw_result ?l_raw_result ?c_raw_result ?k_raw_result ?a_is_set ?l_is_set ?c_is_set ?k_is_set ?a_check_set ?l_check_set ?c_check_set ?k_check_set ?a_raw_results ?l_raw_results ?c_raw_results ?k_raw_results ?a_results_of ?l_results_of ?c_results_of ?k_results_of ?a_raw_code ?l_raw_code ?c_raw_code ?k_raw_code ?a_code_of ?l_code_of ?c_code_of ?k_code_of ?a_raw_apart ?l_raw_apart ?c_raw_apart ?k_raw_apart ?a_apart_by ?l_apart_by ?c_apart_by ?k_apart_by ?a__law_hand ?l__law_hand ?c__law_hand ?k__law_hand ?a__law_draw ?l__law_draw ?c__law_draw ?k__law_draw ?a__law_any ?l__law_any ?c__law_any ?k__law_any ?a__law_cases ?l__law_cases ?c__law_cases ?k__law_cases ?a__law_result ?l__law_result ?c__law_result ?k__law_result ?a__law_weighing ?l__law_weighing ?c__law_weighing ?k__law_weighing ?a__law_no_coins ?l__law_no_coins ?c__law_no_coins ?k__law_no_coins ?a__law_set ?l__law_set ?c__law_set ?k__law_set ?a__law_results ?l__law_results ?c__law_results ?k__law_results ?a__law_code ?l__law_code ?c__law_code ?k__law_code ?a__law_apart ?l__law_apart ?c__law_apart ?k__law_apart ?a__law_no_set ?l__law_no_set ?c__law_no_set ?k__law_no_set ?a_law ?l_law ?c_law ?k_law ?a__law_word ?l__law_word ?c__law_word ?k__law_word ?z_abs ?z_all ?z_any ?z_bool ?z_int ?z_isinstance ?z_len ?z_list ?z_range ?z_sorted ?z_str ?z_tuple ?z_zip ?g_LEAST_COINS ?g_MOST_COINS ?g_HEAVIER ?g_LIGHTER ?g_MOST_SET ?a_NoCase ?a_NoCoin ?a_NoCoins ?a_NoSet ?a_TooMany ?a_WeighError ?a_NoCodes ?a_NoCount ?a_NoFlag ?a_NoKind ?a_NoPlan ?a_NoRecord ?a_NoResults ?a_NoWeighing ?bs_TooMany ?hd_TooMany ?ty_TooMany ?bs_WeighError ?hd_WeighError ?ty_WeighError ?bs_NoCase ?hd_NoCase ?ty_NoCase ?bs_NoCoin ?hd_NoCoin ?ty_NoCoin ?bs_NoCoins ?hd_NoCoins ?ty_NoCoins ?bs_NoSet ?hd_NoSet ?ty_NoSet ?oc1 ?oc2 ?kp_NoCase ?ex_NoCase ?ga_NoCase ?gg_NoCase ?cl_NoCase ?mr_NoCase ?kp_NoCoin ?ex_NoCoin ?ga_NoCoin ?gg_NoCoin ?cl_NoCoin ?mr_NoCoin ?kp_NoCoins ?ex_NoCoins ?ga_NoCoins ?gg_NoCoins ?cl_NoCoins ?mr_NoCoins ?kp_NoSet ?ex_NoSet ?ga_NoSet ?gg_NoSet ?cl_NoSet ?mr_NoSet ?v_law ?p_law ?h_law ?n_law ?t_law ?ndP ?su_NoCase_TooMany ?su_NoCase_WeighError ?su_NoCoin_TooMany ?su_NoCoin_WeighError ?su_NoCoins_TooMany ?su_NoCoins_WeighError ?su_NoSet_TooMany ?su_NoSet_WeighError ?kt_NoCase_NoCase ?kt_NoCase_NoCodes ?kt_NoCase_NoCoin ?kt_NoCase_NoCoins ?kt_NoCase_NoCount ?kt_NoCase_NoFlag ?kt_NoCase_NoKind ?kt_NoCase_NoPlan ?kt_NoCase_NoRecord ?kt_NoCase_NoResults ?kt_NoCase_NoSet ?kt_NoCase_NoWeighing ?kt_NoCoin_NoCase ?kt_NoCoin_NoCodes ?kt_NoCoin_NoCoin ?kt_NoCoin_NoCoins ?kt_NoCoin_NoCount ?kt_NoCoin_NoFlag ?kt_NoCoin_NoKind ?kt_NoCoin_NoPlan ?kt_NoCoin_NoRecord ?kt_NoCoin_NoResults ?kt_NoCoin_NoSet ?kt_NoCoin_NoWeighing ?kt_NoCoins_NoCase ?kt_NoCoins_NoCodes ?kt_NoCoins_NoCoin ?kt_NoCoins_NoCoins ?kt_NoCoins_NoCount ?kt_NoCoins_NoFlag ?kt_NoCoins_NoKind ?kt_NoCoins_NoPlan ?kt_NoCoins_NoRecord ?kt_NoCoins_NoResults ?kt_NoCoins_NoSet ?kt_NoCoins_NoWeighing ?kt_NoSet_NoCase ?kt_NoSet_NoCodes ?kt_NoSet_NoCoin ?kt_NoSet_NoCoins ?kt_NoSet_NoCount ?kt_NoSet_NoFlag ?kt_NoSet_NoKind ?kt_NoSet_NoPlan ?kt_NoSet_NoRecord ?kt_NoSet_NoResults ?kt_NoSet_NoSet ?kt_NoSet_NoWeighing
    (case a_is_integer => k_is)
    (case l_is_integer => k_is)
    (case c_is_integer => k_is)
    (case k_is_integer => k_is)
    (case a_is_within => k_is)
    (case l_is_within => k_is)
    (case c_is_within => k_is)
    (case k_is_within => k_is)
    (case a_is_sized => k_is)
    (case l_is_sized => k_is)
    (case c_is_sized => k_is)
    (case k_is_sized => k_is)
    (case a_is_lot => k_is)
    (case l_is_lot => k_is)
    (case c_is_lot => k_is)
    (case k_is_lot => k_is)
    (case a_check_coins => k_is)
    (case l_check_coins => k_is)
    (case c_check_coins => k_is)
    (case k_check_coins => k_is)
    (case a_is_case => k_is)
    (case l_is_case => k_is)
    (case c_is_case => k_is)
    (case k_is_case => k_is)
    (case a_is_weighing => k_is)
    (case l_is_weighing => k_is)
    (case c_is_weighing => k_is)
    (case k_is_weighing => k_is)
    (case a_raw_result => k_is)
    (case l_raw_result => k_is)
    (case c_raw_result => k_is)
    (case k_raw_result => k_is)
    (case a_is_set => k_is)
    (case l_is_set => k_is)
    (case c_is_set => k_is)
    (case k_is_set => k_is)
    (case a_check_set => k_is)
    (case l_check_set => k_is)
    (case c_check_set => k_is)
    (case k_check_set => k_is)
    (case a_raw_results => k_is)
    (case l_raw_results => k_is)
    (case c_raw_results => k_is)
    (case k_raw_results => k_is)
    (case a_results_of => k_is)
    (case l_results_of => k_is)
    (case c_results_of => k_is)
    (case k_results_of => k_is)
    (case a_raw_code => k_is)
    (case l_raw_code => k_is)
    (case c_raw_code => k_is)
    (case k_raw_code => k_is)
    (case a_code_of => k_is)
    (case l_code_of => k_is)
    (case c_code_of => k_is)
    (case k_code_of => k_is)
    (case a_raw_apart => k_is)
    (case l_raw_apart => k_is)
    (case c_raw_apart => k_is)
    (case k_raw_apart => k_is)
    (case a_apart_by => k_is)
    (case l_apart_by => k_is)
    (case c_apart_by => k_is)
    (case k_apart_by => k_is)
    (case a__law_hand => k_is)
    (case l__law_hand => k_is)
    (case c__law_hand => k_is)
    (case k__law_hand => k_is)
    (case a__law_draw => k_is)
    (case l__law_draw => k_is)
    (case c__law_draw => k_is)
    (case k__law_draw => k_is)
    (case a__law_any => k_is)
    (case l__law_any => k_is)
    (case c__law_any => k_is)
    (case k__law_any => k_is)
    (case a__law_cases => k_is)
    (case l__law_cases => k_is)
    (case c__law_cases => k_is)
    (case k__law_cases => k_is)
    (case a__law_result => k_is)
    (case l__law_result => k_is)
    (case c__law_result => k_is)
    (case k__law_result => k_is)
    (case a__law_weighing => k_is)
    (case l__law_weighing => k_is)
    (case c__law_weighing => k_is)
    (case k__law_weighing => k_is)
    (case a__law_no_coins => k_is)
    (case l__law_no_coins => k_is)
    (case c__law_no_coins => k_is)
    (case k__law_no_coins => k_is)
    (case a__law_set => k_is)
    (case l__law_set => k_is)
    (case c__law_set => k_is)
    (case k__law_set => k_is)
    (case a__law_results => k_is)
    (case l__law_results => k_is)
    (case c__law_results => k_is)
    (case k__law_results => k_is)
    (case a__law_code => k_is)
    (case l__law_code => k_is)
    (case c__law_code => k_is)
    (case k__law_code => k_is)
    (case a__law_apart => k_is)
    (case l__law_apart => k_is)
    (case c__law_apart => k_is)
    (case k__law_apart => k_is)
    (case a__law_no_set => k_is)
    (case l__law_no_set => k_is)
    (case c__law_no_set => k_is)
    (case k__law_no_set => k_is)
    (case a_law => k_is)
    (case l_law => k_is)
    (case c_law => k_is)
    (case k_law => k_is)
    (case a__law_word => k_is)
    (case l__law_word => k_is)
    (case c__law_word => k_is)
    (case k__law_word => k_is)
    (case z_abs => k_is)
    (case z_all => k_is)
    (case z_any => k_is)
    (case z_bool => k_is)
    (case z_int => k_is)
    (case z_isinstance => k_is)
    (case z_len => k_is)
    (case z_list => k_is)
    (case z_range => k_is)
    (case z_sorted => k_is)
    (case z_str => k_is)
    (case z_tuple => k_is)
    (case z_zip => k_is)
    (case g_LEAST_COINS => k_is)
    (case g_MOST_COINS => k_is)
    (case g_HEAVIER => k_is)
    (case g_LIGHTER => k_is)
    (case g_MOST_SET => k_is)
    (case a_NoCase => k_is)
    (case a_NoCoin => k_is)
    (case a_NoCoins => k_is)
    (case a_NoSet => k_is)
    (case a_TooMany => k_is)
    (case a_WeighError => k_is)
    (case a_NoCodes => k_is)
    (case a_NoCount => k_is)
    (case a_NoFlag => k_is)
    (case a_NoKind => k_is)
    (case a_NoPlan => k_is)
    (case a_NoRecord => k_is)
    (case a_NoResults => k_is)
    (case a_NoWeighing => k_is)
    (case bs_TooMany => k_is)
    (case hd_TooMany => k_is)
    (case ty_TooMany => k_is)
    (case bs_WeighError => k_is)
    (case hd_WeighError => k_is)
    (case ty_WeighError => k_is)
    (case bs_NoCase => k_is)
    (case hd_NoCase => k_is)
    (case ty_NoCase => k_is)
    (case bs_NoCoin => k_is)
    (case hd_NoCoin => k_is)
    (case ty_NoCoin => k_is)
    (case bs_NoCoins => k_is)
    (case hd_NoCoins => k_is)
    (case ty_NoCoins => k_is)
    (case bs_NoSet => k_is)
    (case hd_NoSet => k_is)
    (case ty_NoSet => k_is)
    (case oc1 => k_is)
    (case oc2 => k_is)
    (case kp_NoCase => k_is)
    (case ex_NoCase => k_exc)
    (case ga_NoCase => k_is)
    (case gg_NoCase => k_is)
    (case cl_NoCase => k_is)
    (case mr_NoCase => k_is)
    (case kp_NoCoin => k_is)
    (case ex_NoCoin => k_exc)
    (case ga_NoCoin => k_is)
    (case gg_NoCoin => k_is)
    (case cl_NoCoin => k_is)
    (case mr_NoCoin => k_is)
    (case kp_NoCoins => k_is)
    (case ex_NoCoins => k_exc)
    (case ga_NoCoins => k_is)
    (case gg_NoCoins => k_is)
    (case cl_NoCoins => k_is)
    (case mr_NoCoins => k_is)
    (case kp_NoSet => k_is)
    (case ex_NoSet => k_exc)
    (case ga_NoSet => k_is)
    (case gg_NoSet => k_is)
    (case cl_NoSet => k_is)
    (case mr_NoSet => k_is)
    (case v_law => k_is)
    (case p_law => exact rfl)
    (case h_law => kernel_rfl)
    (case n_law => kernel_rfl)
    (case t_law => exact hT8 _ (by first | k_mem | decide))
    (case ndP => decide)
    (case su_NoCase_TooMany => k_is)
    (case su_NoCase_WeighError => k_is)
    (case su_NoCoin_TooMany => k_is)
    (case su_NoCoin_WeighError => k_is)
    (case su_NoCoins_TooMany => k_is)
    (case su_NoCoins_WeighError => k_is)
    (case su_NoSet_TooMany => k_is)
    (case su_NoSet_WeighError => k_is)
    (case kt_NoCase_NoCase => kit_is)
    (case kt_NoCase_NoCodes => kit_is)
    (case kt_NoCase_NoCoin => kit_is)
    (case kt_NoCase_NoCoins => kit_is)
    (case kt_NoCase_NoCount => kit_is)
    (case kt_NoCase_NoFlag => kit_is)
    (case kt_NoCase_NoKind => kit_is)
    (case kt_NoCase_NoPlan => kit_is)
    (case kt_NoCase_NoRecord => kit_is)
    (case kt_NoCase_NoResults => kit_is)
    (case kt_NoCase_NoSet => kit_is)
    (case kt_NoCase_NoWeighing => kit_is)
    (case kt_NoCoin_NoCase => kit_is)
    (case kt_NoCoin_NoCodes => kit_is)
    (case kt_NoCoin_NoCoin => kit_is)
    (case kt_NoCoin_NoCoins => kit_is)
    (case kt_NoCoin_NoCount => kit_is)
    (case kt_NoCoin_NoFlag => kit_is)
    (case kt_NoCoin_NoKind => kit_is)
    (case kt_NoCoin_NoPlan => kit_is)
    (case kt_NoCoin_NoRecord => kit_is)
    (case kt_NoCoin_NoResults => kit_is)
    (case kt_NoCoin_NoSet => kit_is)
    (case kt_NoCoin_NoWeighing => kit_is)
    (case kt_NoCoins_NoCase => kit_is)
    (case kt_NoCoins_NoCodes => kit_is)
    (case kt_NoCoins_NoCoin => kit_is)
    (case kt_NoCoins_NoCoins => kit_is)
    (case kt_NoCoins_NoCount => kit_is)
    (case kt_NoCoins_NoFlag => kit_is)
    (case kt_NoCoins_NoKind => kit_is)
    (case kt_NoCoins_NoPlan => kit_is)
    (case kt_NoCoins_NoRecord => kit_is)
    (case kt_NoCoins_NoResults => kit_is)
    (case kt_NoCoins_NoSet => kit_is)
    (case kt_NoCoins_NoWeighing => kit_is)
    (case kt_NoSet_NoCase => kit_is)
    (case kt_NoSet_NoCodes => kit_is)
    (case kt_NoSet_NoCoin => kit_is)
    (case kt_NoSet_NoCoins => kit_is)
    (case kt_NoSet_NoCount => kit_is)
    (case kt_NoSet_NoFlag => kit_is)
    (case kt_NoSet_NoKind => kit_is)
    (case kt_NoSet_NoPlan => kit_is)
    (case kt_NoSet_NoRecord => kit_is)
    (case kt_NoSet_NoResults => kit_is)
    (case kt_NoSet_NoSet => kit_is)
    (case kt_NoSet_NoWeighing => kit_is)
