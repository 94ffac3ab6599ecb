import PyProof.Rows.All
import Wide.All
import OpenK.AllK
import Wide.FinOn
import HandS.ForMost
import HandS.Evl
import HandS.TupAny
import HandS.Deep
import HandS.Style
import KE.GoesNew
import KE.SortData
import KE.DataMinMax
import HandS.SetFor
import HandS.Strs
import HandS.IsInst
import HandS.DictComp
import PyProof.ListStr
import HandS.WordsDict
import HandS.Codes
import PySem.Challenge.RW_webreckon_k23_whole_rings_between_leanin
set_option Elab.async false
set_option linter.all false
set_option maxRecDepth 100000
set_option maxHeartbeats 4000000
/-! G: a layer of data over HandS. D: data without addresses; Rep: a value is a datum, in a part F of the heap that never changes; Rel: the slots are data;
   GE, GB, GN, GT, GS ..: HandS's judgements read by data. -/
namespace G
open PySem L2
abbrev Ex := Evl.Ex

/-- data -/
inductive D where
  | non | bl (b : Bool) | int (i : Int) | str (s : Str)
  | tup (ds : List D) | lst (ds : List D) | dic (kvs : List (Key × D)) | web (pl : Str) (ts : List Str)

structure Gp where
  Cw : Addr
  ck : Nat → List V → Prop

mutual
inductive Rep (K : PySem.W.Frag) (g : Gp) (F : Hp) : D → V → Prop
  | non : Rep K g F .non .non
  | bl (b : Bool) : Rep K g F (.bl b) (.bl b)
  | int (i : Int) : Rep K g F (.int i) (.int i)
  | str (s : Str) : Rep K g F (.str s) (.str s)
  | tup {a : Addr} {xs : List V} {ds : List D} : SqT K F a xs → RepL K g F ds xs → Rep K g F (.tup ds) (.ref a)
  | lst {a : Addr} {xs : List V} {ds : List D} : F a = some (.lst xs) → RepL K g F ds xs → Rep K g F (.lst ds) (.ref a)
  | dic {a : Addr} {kvs : List (Key × V)} {kds : List (Key × D)} : F a = some (.dK kvs) → kvs.map (·.1) = kds.map (·.1) → RepL K g F (kds.map (·.2)) (kvs.map (·.2)) → Rep K g F (.dic kds) (.ref a)
  | web {a dx t : Addr} {pl : Str} {ts : List Str} : F a = some (.ins g.Cw dx [("places", .str pl), ("ties", .ref t)]) → SqT K F t (ts.map V.str) → Rep K g F (.web pl ts) (.ref a)
inductive RepL (K : PySem.W.Frag) (g : Gp) (F : Hp) : List D → List V → Prop
  | nil : RepL K g F [] []
  | cons {d : D} {v : V} {ds : List D} {vs : List V} : Rep K g F d v → RepL K g F ds vs → RepL K g F (d :: ds) (v :: vs)
end

section
variable {K : PySem.W.Frag} {g : Gp} {F F' H H' : Hp}
mutual
theorem Rep.mono (e : Ex F F') : ∀ {d : D} {v : V}, Rep K g F d v → Rep K g F' d v
  | _, _, .non => .non
  | _, _, .bl b => .bl b
  | _, _, .int i => .int i
  | _, _, .str s => .str s
  | _, _, .tup h r => .tup (Evl.ex_t e h) (RepL.mono e r)
  | _, _, .lst h r => .lst (e _ _ h) (RepL.mono e r)
  | _, _, .dic h k r => .dic (e _ _ h) k (RepL.mono e r)
  | _, _, .web h r => .web (e _ _ h) (Evl.ex_t e r)
theorem RepL.mono (e : Ex F F') : ∀ {ds : List D} {vs : List V}, RepL K g F ds vs → RepL K g F' ds vs
  | _, _, .nil => .nil
  | _, _, .cons h t => .cons (Rep.mono e h) (RepL.mono e t)
end
theorem RepL.length : ∀ {ds : List D} {vs : List V}, RepL K g F ds vs → vs.length = ds.length
  | _, _, .nil => rfl
  | _, _, .cons _ t => by rw [List.length_cons, List.length_cons, RepL.length t]
theorem RepL.append : ∀ {ds es : List D} {vs ws : List V}, RepL K g F ds vs → RepL K g F es ws → RepL K g F (ds ++ es) (vs ++ ws)
  | _, _, _, _, .nil, s => s
  | _, _, _, _, .cons h t, s => .cons h (RepL.append t s)
theorem RepL.get : ∀ {ds : List D} {vs : List V} {i : Nat} {d : D}, RepL K g F ds vs → ds[i]? = some d → ∃ v, vs[i]? = some v ∧ Rep K g F d v
  | _, _, _, _, .nil, e => by simp at e
  | _, _, 0, _, .cons h _, e => by simp at e; subst e; exact ⟨_, rfl, h⟩
  | _, _, i + 1, _, .cons _ t, e => by
    obtain ⟨v, h1, h2⟩ := RepL.get (i := i) t (by simpa using e)
    exact ⟨v, by simpa using h1, h2⟩
theorem RepL.take : ∀ {ds : List D} {vs : List V} (n : Nat), RepL K g F ds vs → RepL K g F (ds.take n) (vs.take n)
  | _, _, 0, _ => .nil
  | _, _, _ + 1, .nil => .nil
  | _, _, n + 1, .cons r t => .cons r (RepL.take n t)
theorem RepL.drop : ∀ {ds : List D} {vs : List V} (n : Nat), RepL K g F ds vs → RepL K g F (ds.drop n) (vs.drop n)
  | _, _, 0, r => r
  | _, _, _ + 1, .nil => .nil
  | _, _, n + 1, .cons _ t => RepL.drop n t
theorem RepL.eraseIdx : ∀ {ds : List D} {vs : List V} (n : Nat), RepL K g F ds vs → RepL K g F (ds.eraseIdx n) (vs.eraseIdx n)
  | _, _, _, .nil => .nil
  | _, _, 0, .cons _ t => t
  | _, _, n + 1, .cons h t => .cons h (RepL.eraseIdx n t)
theorem RepL.set {d : D} {v : V} (r : Rep K g F d v) : ∀ {ds : List D} {vs : List V} (n : Nat), RepL K g F ds vs → RepL K g F (ds.set n d) (vs.set n v)
  | _, _, _, .nil => .nil
  | _, _, 0, .cons _ t => .cons r t
  | _, _, n + 1, .cons h t => .cons h (RepL.set r n t)
theorem repL_strs : ∀ {ts : List Str} {vs : List V}, RepL K g F (ts.map D.str) vs → vs = ts.map V.str
  | [], _, .nil => rfl
  | _ :: _, _, .cons h t => by cases h; rw [repL_strs t]; rfl
theorem repL_ints : ∀ {ts : List Int} {vs : List V}, RepL K g F (ts.map D.int) vs → vs = ts.map V.int
  | [], _, .nil => rfl
  | _ :: _, _, .cons h t => by cases h; rw [repL_ints t]; rfl
theorem repL_bls : ∀ {ts : List Bool} {vs : List V}, RepL K g F (ts.map D.bl) vs → vs = ts.map V.bl
  | [], _, .nil => rfl
  | _ :: _, _, .cons h t => by cases h; rw [repL_bls t]; rfl
theorem repL_of_strs : ∀ (ts : List Str), RepL K g F (ts.map D.str) (ts.map V.str)
  | [] => .nil
  | x :: r => .cons (.str x) (repL_of_strs r)
theorem repL_of_ints : ∀ (ts : List Int), RepL K g F (ts.map D.int) (ts.map V.int)
  | [] => .nil
  | x :: r => .cons (.int x) (repL_of_ints r)
theorem repL_of_bls : ∀ (ts : List Bool), RepL K g F (ts.map D.bl) (ts.map V.bl)
  | [] => .nil
  | x :: r => .cons (.bl x) (repL_of_bls r)
theorem RepL.reverse {ds : List D} {vs : List V} (h : RepL K g F ds vs) : RepL K g F ds.reverse vs.reverse := by
  induction ds generalizing vs with
  | nil => cases h; exact .nil
  | cons d r ih =>
    cases h with
    | cons h1 t1 => rw [List.reverse_cons, List.reverse_cons]; exact (ih t1).append (.cons h1 .nil)
end

/-- a datum whose list at the top may still be somebody's own -/
def RepT (K : PySem.W.Frag) (g : Gp) (c : Option Addr) (F H : Hp) : D → V → Prop
  | .lst ds, v => ∃ p xs, v = .ref p ∧ H p = some (.lst xs) ∧ RepL K g F ds xs ∧ c ≠ some p
  | d, v => Rep K g F d v

/-- a slot: nothing known; a datum; a list of one's own; the cask; the script -/
inductive Sl where
  | no | val (d : D) | own (ds : List D) | cask | scr (ns : List Int)
def Sl.vl : Sl → Option D
  | .val d => some d
  | _ => none
def Sl.rd : Sl → Option D
  | .val d => some d
  | .own ds => some (.lst ds)
  | _ => none
def SlR (K : PySem.W.Frag) (g : Gp) (c : Option Addr) (F H : Hp) : Sl → Option (Option V) → Prop
  | .no, _ => True
  | .val d, o => ∃ v, o = some (some v) ∧ Rep K g F d v
  | .own ds, o => ∃ p xs, o = some (some (.ref p)) ∧ F p = none ∧ H p = some (.lst xs) ∧ RepL K g F ds xs ∧ c ≠ some p
  | .cask, o => ∃ a, c = some a ∧ o = some (some (.ref a))
  | .scr ns, o => ∃ a, o = some (some (.ref a)) ∧ SqL K F a (ns.map V.int)

/-- the cask -/
def Ck (g : Gp) (c : Option Addr) (m : Nat) (F H : Hp) : Prop := ∀ a, c = some a → F a = none ∧ ∃ xs, H a = some (.lst xs) ∧ g.ck m xs
structure Rel (K : PySem.W.Frag) (g : Gp) (c : Option Addr) (F : Hp) (env : List Sl) (m : Nat) (σ : St) (H : Hp) : Prop where
  sub : Ex F H
  len : env.length = σ.length
  slot : ∀ (i : Nat) (s : Sl), env[i]? = some s → SlR K g c F H s σ[i]?
  sep : ∀ (i j : Nat) (di dj : List D) (p : Addr), env[i]? = some (.own di) → env[j]? = some (.own dj) → σ[i]? = some (some (.ref p)) → σ[j]? = some (some (.ref p)) → i = j
  ck : Ck g c m F H
/-- what an operation does: new objects alone, some of them fixed for good -/
structure New (F H F' H' : Hp) : Prop where
  ff : Ex F F'
  fh : Ex F' H'
  hh : Ex H H'
  new : ∀ a o, F' a = some o → F a = some o ∨ H a = none
/-- what an expression does: the same, but that the cask may turn -/
structure Fresh (c : Option Addr) (F H F' H' : Hp) : Prop where
  ff : Ex F F'
  fh : Ex F' H'
  hh : ∀ a o, H a = some o → c ≠ some a → H' a = some o
  new : ∀ a o, F' a = some o → F a = some o ∨ H a = none
  nc : ∀ a, c = some a → F' a = none
section
variable {K : PySem.W.Frag} {g : Gp} {c : Option Addr} {F F' F1 F2 H H' H1 H2 : Hp} {env : List Sl} {m m' : Nat} {σ : St}
theorem New.refl (e : Ex F H) : New F H F H := ⟨fun _ _ h => h, e, fun _ _ h => h, fun _ _ h => .inl h⟩
theorem ex_none {F H : Hp} {p : Addr} (e : Ex F H) (h : H p = none) : F p = none := by
  cases q : F p with
  | none => rfl
  | some o => rw [e p o q] at h; cases h
/-- a new object, fixed -/
theorem New.fix {p : Addr} {o : HO} (e : Ex F H) (hp : H p = none) : New F H (upd F p o) (upd H p o) where
  ff := Evl.Ex.new (ex_none e hp)
  fh := fun a u h => by
    by_cases q : a = p
    · subst q; rw [upd_same] at h ⊢; exact h
    · rw [upd_ne q] at h ⊢; exact e a u h
  hh := Evl.Ex.new hp
  new := fun a u h => by
    by_cases q : a = p
    · subst q; exact .inr hp
    · rw [upd_ne q] at h; exact .inl h
/-- a new object, not fixed -/
theorem New.lay {p : Addr} {o : HO} (e : Ex F H) (hp : H p = none) : New F H F (upd H p o) where
  ff := fun _ _ h => h
  fh := fun a u h => Evl.Ex.new hp a u (e a u h)
  hh := Evl.Ex.new hp
  new := fun a u h => .inl h
theorem New.trans (a : New F H F1 H1) (b : New F1 H1 F2 H2) : New F H F2 H2 where
  ff := a.ff.trans b.ff
  fh := b.fh
  hh := a.hh.trans b.hh
  new := fun x o h => by
    rcases b.new x o h with q | q
    · exact a.new x o q
    · exact .inr (ex_none a.hh q)
theorem Fresh.refl (e : Ex F H) (k : Ck g c m F H) : Fresh c F H F H := ⟨fun _ _ h => h, e, fun _ _ h _ => h, fun _ _ h => .inl h, fun a h => (k a h).1⟩
theorem Fresh.trans (a : Fresh c F H F1 H1) (b : Fresh c F1 H1 F2 H2) : Fresh c F H F2 H2 where
  ff := a.ff.trans b.ff
  fh := b.fh
  hh := fun x o h n => b.hh x o (a.hh x o h n) n
  nc := b.nc
  new := fun x o h => by
    rcases b.new x o h with q | q
    · exact a.new x o q
    · cases z : H x with
      | none => exact .inr rfl
      | some u =>
        by_cases n : c = some x
        · rw [b.nc x n] at h; cases h
        · rw [a.hh x u z n] at q; cases q
theorem Ck.new (k : Ck g c m F H) (n : New F H F' H') : Ck g c m F' H' := fun a e => by
  obtain ⟨h1, xs, h2, h3⟩ := k a e
  refine ⟨?_, xs, n.hh _ _ h2, h3⟩
  cases q : F' a with
  | none => rfl
  | some o =>
    rcases n.new a o q with z | z
    · rw [h1] at z; cases z
    · rw [h2] at z; cases z
theorem New.fresh (n : New F H F' H') (k : Ck g c m F H) : Fresh c F H F' H' :=
  ⟨n.ff, n.fh, fun a o h _ => n.hh a o h, n.new, fun a e => (k.new n a e).1⟩
theorem RepT.of {d : D} {v : V} (e : Ex F H) (nc : ∀ a, c = some a → F a = none) (h : Rep K g F d v) : RepT K g c F H d v := by
  cases h with
  | lst h r => exact ⟨_, _, rfl, e _ _ h, r, fun z => by rw [nc _ z] at h; cases h⟩
  | non => exact .non
  | bl b => exact .bl b
  | int i => exact .int i
  | str s => exact .str s
  | tup h r => exact .tup h r
  | dic h k r => exact .dic h k r
  | web h r => exact .web h r
theorem RepT.mono {d : D} {v : V} (n : Fresh c F H F' H') (h : RepT K g c F H d v) : RepT K g c F' H' d v := by
  cases d with
  | lst ds =>
    obtain ⟨p, xs, e, h1, h2, h3⟩ := h
    exact ⟨p, xs, e, n.hh _ _ h1 h3, RepL.mono n.ff h2, h3⟩
  | _ => exact Rep.mono n.ff h
theorem SlR.mono {s : Sl} {o : Option (Option V)} (n : Fresh c F H F' H') (h : SlR K g c F H s o) : SlR K g c F' H' s o := by
  cases s with
  | no => trivial
  | val d => obtain ⟨v, e, r⟩ := h; exact ⟨v, e, r.mono n.ff⟩
  | own ds =>
    obtain ⟨p, xs, e, h1, h2, h3, h4⟩ := h
    refine ⟨p, xs, e, ?_, n.hh _ _ h2 h4, RepL.mono n.ff h3, h4⟩
    cases q : F' p with
    | none => rfl
    | some u =>
      rcases n.new p u q with z | z
      · rw [h1] at z; cases z
      · rw [h2] at z; cases z
  | cask => exact h
  | scr ns => obtain ⟨a, e, r⟩ := h; exact ⟨a, e, Evl.ex_l n.ff r⟩
theorem Rel.fresh (r : Rel K g c F env m σ H) (n : Fresh c F H F' H') (k : Ck g c m' F' H') : Rel K g c F' env m' σ H' :=
  ⟨n.fh, r.len, fun i s h => (r.slot i s h).mono n, r.sep, k⟩
theorem Rel.new (r : Rel K g c F env m σ H) (n : New F H F' H') : Rel K g c F' env m σ H' := r.fresh (n.fresh r.ck) (r.ck.new n)
theorem Rel.nc (r : Rel K g c F env m σ H) : ∀ a, c = some a → F a = none := fun a h => (r.ck a h).1
end

/-! ### readings by data -/
abbrev Env' := List Sl
abbrev DE := Env' → Nat → (D → Nat → Prop) → Prop
abbrev DT := Env' → Nat → (Bool → Nat → Prop) → Prop
abbrev DA := Env' → Nat → (List Sl → Nat → Prop) → Prop
abbrev DL := Env' → Nat → (List D → Nat → Prop) → Prop

/-- arguments: data, the cask, the script -/
def ArgsR (K : PySem.W.Frag) (g : Gp) (c : Option Addr) (F : Hp) : List Sl → List V → Prop := Paired fun s v => match s with
  | .val d => Rep K g F d v
  | .cask => ∃ a, c = some a ∧ v = .ref a
  | .scr ns => ∃ a, v = .ref a ∧ SqL K F a (ns.map V.int)
  | _ => False
section
variable (K : PySem.W.Frag) (g : Gp)
def tD (d : DE) : TE := fun σ H Q' => ∃ c F env m Q, Rel K g c F env m σ H ∧ d env m Q ∧
  ∀ v H' F' m' x, Rel K g c F' env m' σ H' → Fresh c F H F' H' → Rep K g F' x v → Q x m' → Q' v H'
def tB (d : DE) : TE := fun σ H Q' => ∃ c F env m Q, Rel K g c F env m σ H ∧ d env m Q ∧
  ∀ v H' F' m' x, Rel K g c F' env m' σ H' → Fresh c F H F' H' → RepT K g c F' H' x v → Q x m' → Q' v H'
/-- a new list that is nobody's -/
def tN (d : DL) : TE := fun σ H Q' => ∃ c F env m Q, Rel K g c F env m σ H ∧ d env m Q ∧
  ∀ p H' F' m' ds xs, Rel K g c F' env m' σ H' → Fresh c F H F' H' → H p = none → F' p = none → c ≠ some p → H' p = some (.lst xs) → RepL K g F' ds xs → Q ds m' → Q' (.ref p) H'
def tT (d : DT) : TT := fun σ H Q' => ∃ c F env m Q, Rel K g c F env m σ H ∧ d env m Q ∧
  ∀ b H' F' m', Rel K g c F' env m' σ H' → Fresh c F H F' H' → Q b m' → Q' b H'
def tAr (d : DA) : TA := fun σ H Q' => ∃ c F env m Q, Rel K g c F env m σ H ∧ d env m Q ∧
  ∀ vs H' F' m' as, Rel K g c F' env m' σ H' → Fresh c F H F' H' → ArgsR K g c F' as vs → Q as m' → Q' vs H'
/-- arguments of built-ins: data, the lists at the top perhaps somebody's own -/
def RepTs (c : Option Addr) (F H : Hp) : List D → List V → Prop := Paired (RepT K g c F H)
def tAb (d : DL) : TA := fun σ H Q' => ∃ c F env m Q, Rel K g c F env m σ H ∧ d env m Q ∧
  ∀ vs H' F' m' ds, Rel K g c F' env m' σ H' → Fresh c F H F' H' → RepTs K g c F' H' ds vs → Q ds m' → Q' vs H'
end
def GE (g : Gp) (X : Cx) (e : Expr) (d : DE) : Prop := PE X e (tD X.K g d)
def GB (g : Gp) (X : Cx) (e : Expr) (d : DE) : Prop := PE X e (tB X.K g d)
def GN (g : Gp) (X : Cx) (e : Expr) (d : DL) : Prop := PE X e (tN X.K g d)
def GT (g : Gp) (X : Cx) (e : Expr) (d : DT) : Prop := PT X e (tT X.K g d)
def GA (g : Gp) (X : Cx) (es : List Expr) (d : DA) : Prop := PA X es (tAr X.K g d)
def GAb (g : Gp) (X : Cx) (es : List Expr) (d : DL) : Prop := PA X es (tAb X.K g d)
theorem PE.weak {X : Cx} {e : Expr} {t t' : TE} (h : PE X e t) (w : ∀ σ H Q, t' σ H Q → t σ H Q) : PE X e t' := ⟨fun pins s σ H Q I q => h.run pins s σ H Q I (w σ H Q q)⟩
theorem PT.weak {X : Cx} {e : Expr} {t t' : TT} (h : PT X e t) (w : ∀ σ H Q, t' σ H Q → t σ H Q) : PT X e t' := ⟨fun pins s σ H Q I q => h.run pins s σ H Q I (w σ H Q q)⟩
theorem PW.weak {X : Cx} {e : Expr} {t t' : TT} (h : PW X e t) (w : ∀ σ H Q, t' σ H Q → t σ H Q) : PW X e t' := ⟨fun wh pins s σ H Q I q => h.run wh pins s σ H Q I (w σ H Q q)⟩
theorem PA.weak {X : Cx} {es : List Expr} {t t' : TA} (h : PA X es t) (w : ∀ σ H Q, t' σ H Q → t σ H Q) : PA X es t' := ⟨fun pos pins s σ H Q I q => h.run pos pins s σ H Q I (w σ H Q q)⟩
theorem PS.weak {X : Cx} {e : Stmt} {t t' : TS} (h : PS X e t) (w : ∀ D σ H, t' D σ H → t D σ H) : PS X e t' := ⟨fun pins s σ H D I q => h.run pins s σ H D I (w D σ H q)⟩
theorem PSs.weak {X : Cx} {e : List Stmt} {t t' : TS} (h : PSs X e t) (w : ∀ D σ H, t' D σ H → t D σ H) : PSs X e t' := ⟨fun pins s σ H D I q => h.run pins s σ H D I (w D σ H q)⟩

section
variable {g : Gp} {X : Cx} {a b e : Expr} {es : List Expr} {da db d : DE} {pos : Pos}
theorem gb_e (h : GE g X e d) : GB g X e d := PE.weak h fun σ H Q ⟨c, F, env, m, Q1, r, hd, k⟩ => ⟨c, F, env, m, Q1, r, hd, fun v H' F' m' x r' f rep q => k v H' F' m' x r' f (RepT.of r'.sub r'.nc rep) q⟩
def dNew (d : DL) : DE := fun env m Q => d env m fun ds m' => Q (.lst ds) m'
theorem fix_fresh {K : PySem.W.Frag} {c : Option Addr} {F H F' H' : Hp} {p : Addr} {xs : List V} (f : Fresh c F H F' H') (h0 : H p = none) (hp : F' p = none) (hc : c ≠ some p) (h1 : H' p = some (.lst xs)) : Fresh c F H (upd F' p (.lst xs)) H' where
  ff := f.ff.trans (Evl.Ex.new hp)
  fh := fun a o z => by
    by_cases y : a = p
    · subst y; rw [upd_same] at z; rw [← z]; exact h1
    · rw [upd_ne y] at z; exact f.fh a o z
  hh := f.hh
  new := fun a o z => by
    by_cases y : a = p
    · subst y; exact .inr h0
    · rw [upd_ne y] at z; exact f.new a o z
  nc := fun a e => by
    have y : a ≠ p := fun q => hc (q ▸ e)
    rw [upd_ne y]; exact f.nc a e
theorem ge_n {d : DL} (h : GN g X e d) : GE g X e (dNew d) := PE.weak h fun σ H Q ⟨c, F, env, m, Q1, r, hd, k⟩ => ⟨c, F, env, m, _, r, hd, fun p H' F' m' ds xs r' f h0 hp hc h1 h2 q => by
  have n := fix_fresh (K := X.K) f h0 hp hc h1
  refine k _ H' _ m' _ (r.fresh n fun a e => ?_) n (.lst upd_same (RepL.mono (Evl.Ex.new hp) h2)) q
  exact ⟨n.nc a e, (r'.ck a e).2⟩⟩
end
end G
namespace G
open PySem L2

section
variable {K : PySem.W.Frag} {g : Gp} {c : Option Addr} {F H : Hp} {v : V}
theorem RepT.non' (h : RepT K g c F H .non v) : v = .non := by have h' : Rep K g F .non v := h; cases h'; rfl
theorem RepT.bl' {b : Bool} (h : RepT K g c F H (.bl b) v) : v = .bl b := by have h' : Rep K g F (.bl b) v := h; cases h'; rfl
theorem RepT.int' {i : Int} (h : RepT K g c F H (.int i) v) : v = .int i := by have h' : Rep K g F (.int i) v := h; cases h'; rfl
theorem RepT.str' {s : Str} (h : RepT K g c F H (.str s) v) : v = .str s := by have h' : Rep K g F (.str s) v := h; cases h'; rfl
theorem RepT.tup' {ds : List D} (h : RepT K g c F H (.tup ds) v) : ∃ a xs, v = .ref a ∧ SqT K F a xs ∧ RepL K g F ds xs := by
  have h' : Rep K g F (.tup ds) v := h
  cases h' with
  | tup q r => exact ⟨_, _, rfl, q, r⟩
theorem RepT.dic' {kds : List (Key × D)} (h : RepT K g c F H (.dic kds) v) : ∃ a kvs, v = .ref a ∧ F a = some (.dK kvs) ∧ kvs.map (·.1) = kds.map (·.1) ∧ RepL K g F (kds.map (·.2)) (kvs.map (·.2)) := by
  have h' : Rep K g F (.dic kds) v := h
  cases h' with
  | dic q k r => exact ⟨_, _, rfl, q, k, r⟩
theorem RepT.web' {pl : Str} {ts : List Str} (h : RepT K g c F H (.web pl ts) v) : ∃ a dx t, v = .ref a ∧ F a = some (.ins g.Cw dx [("places", .str pl), ("ties", .ref t)]) ∧ SqT K F t (ts.map V.str) := by
  have h' : Rep K g F (.web pl ts) v := h
  cases h' with
  | web q r => exact ⟨_, _, _, rfl, q, r⟩
/-- the length line of the layer -/
abbrev LL : Nat := 100000
theorem ll {n : Nat} (h : n ≤ LL) : n ≤ sizeLine := Evl.sz_of h
theorem ll' {n : Nat} (h : n < LL) : n < sizeLine := Evl.sz_lt h
end

/-! ### names, constants -/
def dVar (i : Nat) : DE := fun env m Q => ∃ d, (env[i]?).bind Sl.vl = some d ∧ Q d m
def dVarB (i : Nat) : DE := fun env m Q => ∃ d, (env[i]?).bind Sl.rd = some d ∧ Q d m
def dC (d : D) : DE := fun _ m Q => Q d m
section
variable {g : Gp} {X : Cx} {a b e : Expr} {es : List Expr} {da db d : DE} {pos : Pos}
theorem vl_some {env : Env'} {i : Nat} {d : D} (h : (env[i]?).bind Sl.vl = some d) : env[i]? = some (.val d) := by
  cases q : env[i]? with
  | none => rw [q] at h; cases h
  | some s =>
    rw [q] at h
    cases s with
    | val x => cases h; rfl
    | _ => cases h
theorem gv (i : Nat) {x : Str} (hN : X.N[i]? = some x := by rfl) (hv : Vis X.env.scope x := by first | exact Or.inl rfl | exact Or.inr (Or.inl rfl) | exact Or.inr (Or.inr rfl)) (hd : (x == ("__debug__" : Str)) = false := by decide)
    (hcd : (x == ("__classdict__" : Str)) = false := by decide) : GE g X (.Name x pos) (dVar i) := PE.weak (pe_var hN hv hd hcd) fun σ H Q ⟨c, F, env, m, Q1, r, ⟨d, hd, q⟩, k⟩ => by
  obtain ⟨v, e, rp⟩ := r.slot i _ (vl_some hd)
  exact ⟨v, e, k v H F m d r (Fresh.refl r.sub r.ck) rp q⟩
theorem gvb (i : Nat) {x : Str} (hN : X.N[i]? = some x := by rfl) (hv : Vis X.env.scope x := by first | exact Or.inl rfl | exact Or.inr (Or.inl rfl) | exact Or.inr (Or.inr rfl)) (hd : (x == ("__debug__" : Str)) = false := by decide)
    (hcd : (x == ("__classdict__" : Str)) = false := by decide) : GB g X (.Name x pos) (dVarB i) := PE.weak (pe_var hN hv hd hcd) fun σ H Q ⟨c, F, env, m, Q1, r, ⟨d, hd, q⟩, k⟩ => by
  cases z : env[i]? with
  | none => rw [z] at hd; cases hd
  | some s =>
    rw [z] at hd
    have w := r.slot i s z
    cases s with
    | val x =>
      cases hd
      obtain ⟨v, e, rp⟩ := w
      exact ⟨v, e, k v H F m _ r (Fresh.refl r.sub r.ck) (RepT.of r.sub r.nc rp) q⟩
    | own ds =>
      cases hd
      obtain ⟨p, xs, e, h1, h2, h3, h4⟩ := w
      exact ⟨.ref p, e, k _ H F m (.lst ds) r (Fresh.refl r.sub r.ck) ⟨p, xs, rfl, h2, h3, h4⟩ q⟩
    | _ => cases hd
theorem ge_const {v : V} {t : TE} (h : PE X e (tC v)) (rp : ∀ F, Rep X.K g F d' v) : GE g X e (dC d') := PE.weak h fun σ H Q ⟨c, F, env, m, Q1, r, q, k⟩ => k v H F m _ r (Fresh.refl r.sub r.ck) (rp F) q
theorem ge_int {i j} : GE g X (.Constant (.int i) j pos) (dC (.int i)) := ge_const (t := fun _ _ _ => True) pe_int fun _ => .int i
theorem ge_str {x j} : GE g X (.Constant (.str x) j pos) (dC (.str x)) := ge_const (t := fun _ _ _ => True) pe_str fun _ => .str x
theorem ge_bl {x j} : GE g X (.Constant (.bool x) j pos) (dC (.bl x)) := ge_const (t := fun _ _ _ => True) pe_bl fun _ => .bl x
theorem ge_non {j} : GE g X (.Constant .none j pos) (dC .non) := ge_const (t := fun _ _ _ => True) pe_non fun _ => .non
theorem ge_globI {x : Str} {i : Int} {t : Tok} (hg : Gl X x) (hm : X.mg x = some (.int i t)) (hd : (x == ("__debug__" : Str)) = false := by decide) : GE g X (.Name x pos) (dC (.int i)) := ge_const (t := fun _ _ _ => True) (pe_glob (v := .int i) hg hm ⟨_, rfl⟩ hd) fun _ => .int i
theorem ge_globS {x : Str} {i : Str} {t : Tok} (hg : Gl X x) (hm : X.mg x = some (.str i t)) (hd : (x == ("__debug__" : Str)) = false := by decide) : GE g X (.Name x pos) (dC (.str i)) := ge_const (t := fun _ _ _ => True) (pe_glob (v := .str i) hg hm ⟨_, rfl⟩ hd) fun _ => .str i

/-! ### operators -/
def OpD (K : PySem.W.Frag) (g : Gp) (r : R2) (f : D → D → Option D) : Prop := ∀ (c : Option Addr) (F H : Hp) (x y z : D) (v w : V) (Q' : VK), Ex F H → (∀ a, c = some a → F a = none) →
  RepT K g c F H x v → RepT K g c F H y w → f x y = some z → (∀ v' H' F', New F H F' H' → Rep K g F' z v' → Q' v' H') → r v w H Q'
def dOp (f : D → D → Option D) (da db : DE) : DE := fun env m Q => da env m fun x m1 => db env m1 fun y m2 => ∃ z, f x y = some z ∧ Q z m2
theorem op_weak {r : R2} {f : D → D → Option D} (od : OpD X.K g r f) : ∀ σ H Q, tD X.K g (dOp f da db) σ H Q → tOp r (tB X.K g da) (tB X.K g db) σ H Q := fun σ H Q ⟨c, F, env, m, Q1, rl, hd, k⟩ =>
  ⟨c, F, env, m, _, rl, hd, fun v H1 F1 m1 x r1 f1 rp1 q1 => ⟨c, F1, env, m1, _, r1, q1, fun w H2 F2 m2 y r2 f2 rp2 ⟨z, hz, q2⟩ =>
    od c F2 H2 x y z v w Q r2.sub r2.nc (rp1.mono f2) rp2 hz fun v' H' F' n rp => k v' H' F' m2 z (r2.new n) ((f1.trans f2).trans (n.fresh r2.ck)) rp q2⟩⟩
theorem ge_op {op : Operator} {r : R2} {f : D → D → Option D} (ho : OpR X (binaryOp op) r) (od : OpD X.K g r f) (ha : GB g X a da) (hb : GB g X b db) : GE g X (.BinOp a op b pos) (dOp f da db) := PE.weak (pe_op ho ha hb) (op_weak od)
theorem ge_cmp {op : CmpOp} {r : R2} {f : D → D → Option D} (ho : OpR X (compareOp op) r) (od : OpD X.K g r f) (ha : GB g X a da) (hb : GB g X b db) (hm : behindInMarks op b = false) : GE g X (.Compare a [op] [b] pos) (dOp f da db) := PE.weak (pe_cmpR ho ha hb hm) (op_weak od)
def dTest (d : DE) : DT := fun env m Q => d env m fun x m1 => ∃ b, x = .bl b ∧ Q b m1
theorem test_weak {t : TE} (w : ∀ σ H Q, tD X.K g d σ H Q → t σ H Q) : ∀ σ H Q, tT X.K g (dTest d) σ H Q → tTest t σ H Q := fun σ H Q ⟨c, F, env, m, Q1, rl, hd, k⟩ => by
  refine w σ H _ ⟨c, F, env, m, _, rl, hd, fun v H' F' m' x r' f' rp q => ?_⟩
  obtain ⟨b, rfl, q⟩ := q
  cases rp
  exact ⟨b, rfl, k b H' F' m' r' f' q⟩
theorem gt_cmp {op : CmpOp} {r : R2} {f : D → D → Option D} (ho : OpR X (compareOp op) r) (od : OpD X.K g r f) (ha : GB g X a da) (hb : GB g X b db) (hm : behindInMarks op b = false) : GT g X (.Compare a [op] [b] pos) (dTest (dOp f da db)) :=
  PT.weak (pt_cmpR ho ha hb hm) (test_weak (op_weak od))
theorem gt_val (h : GE g X e d) (he : ∀ whole, isTrue e X.env whole = (do let v ← whole; standAt e.pos; holding [v] (truthy v)) := by intro _; rfl) : GT g X e (dTest d) :=
  PT.weak (pt_val h he) (test_weak (t := tD X.K g d) fun _ _ _ h => h)
/-- a op b op' c -/
def dChain (f f' : D → D → Option D) (da db dc : DE) : DE := fun env m Q => da env m fun x m1 => db env m1 fun y m2 => ∃ b, f x y = some (.bl b) ∧ if b = true then dc env m2 fun z m3 => ∃ u, f' y z = some u ∧ Q u m3 else Q (.bl false) m2
variable {cc : Expr} {dc : DE}
theorem chain_weak {r r' : R2} {f f' : D → D → Option D} (od : OpD X.K g r f) (od' : OpD X.K g r' f') (scal : ∀ x y b, f x y = some b → True) : ∀ σ H Q, tD X.K g (dChain f f' da db dc) σ H Q → tChain r r' (tB X.K g da) (tB X.K g db) (tB X.K g dc) σ H Q := fun σ H Q ⟨c, F, env, m, Q1, rl, hd, k⟩ =>
  ⟨c, F, env, m, _, rl, hd, fun v H1 F1 m1 x r1 f1 rp1 q1 => ⟨c, F1, env, m1, _, r1, q1, fun w H2 F2 m2 y r2 f2 rp2 ⟨b, hz, q2⟩ =>
    od c F2 H2 x y _ v w _ r2.sub r2.nc (rp1.mono f2) rp2 hz fun v' H' F' n rp => by
      cases rp
      refine ⟨b, rfl, ?_⟩
      have r3 := r2.new n
      have f3 := (f1.trans f2).trans (n.fresh r2.ck)
      cases b with
      | false => exact k _ H' F' m2 _ r3 f3 (.bl false) q2
      | true =>
        exact ⟨c, F', env, m2, _, r3, q2, fun u H4 F4 m4 z r4 f4 rp4 ⟨o, ho, q4⟩ =>
          od' c F4 H4 y z o w u Q r4.sub r4.nc ((rp2.mono (n.fresh r2.ck)).mono f4) rp4 ho fun v5 H5 F5 n5 rp5 => k v5 H5 F5 m4 o (r4.new n5) ((f3.trans f4).trans (n5.fresh r4.ck)) rp5 q4⟩⟩⟩
theorem ge_chain {op op' : CmpOp} {r r' : R2} {f f' : D → D → Option D} (ho : OpR X (compareOp op) r) (ho' : OpR X (compareOp op') r') (od : OpD X.K g r f) (od' : OpD X.K g r' f') (ha : GB g X a da) (hb : GB g X b db) (hc : GB g X cc dc)
    (hl : lastMarks [op, op'] [b, cc] = false := by with_unfolding_all rfl) : GE g X (.Compare a [op, op'] [b, cc] pos) (dChain f f' da db dc) :=
  PE.weak (pe_chain ho ho' ha hb hc hl) (chain_weak od od' fun _ _ _ _ => trivial)
theorem gt_chain {op op' : CmpOp} {r r' : R2} {f f' : D → D → Option D} (ho : OpR X (compareOp op) r) (ho' : OpR X (compareOp op') r') (od : OpD X.K g r f) (od' : OpD X.K g r' f') (ha : GB g X a da) (hb : GB g X b db) (hc : GB g X cc dc)
    (hl : lastMarks [op, op'] [b, cc] = false := by with_unfolding_all rfl) : GT g X (.Compare a [op, op'] [b, cc] pos) (dTest (dChain f f' da db dc)) :=
  PT.weak (pt_chain ho ho' ha hb hc hl) (test_weak (chain_weak od od' fun _ _ _ _ => trivial))

/-! ### and, or, not, if else -/
variable {t u : DT} {rest : List Expr}
def GW (g : Gp) (X : Cx) (e : Expr) (d : DT) : Prop := PW X e (tT X.K g d)
def dAnd (t u : DT) : DT := fun env m Q => t env m fun b m1 => if b = true then u env m1 Q else Q false m1
def dOr (t u : DT) : DT := fun env m Q => t env m fun b m1 => if b = true then Q true m1 else u env m1 Q
def dNot (t : DT) : DT := fun env m Q => t env m fun b m1 => Q (!b) m1
theorem gw_pt (h : GW g X e t) : GT g X e t := PW.pt h
theorem gw_and1 (h : GT g X a t) : GW g X (.BoolOp .And [a] pos) t := pw_and1 h
theorem gw_or1 (h : GT g X a t) : GW g X (.BoolOp .Or [a] pos) t := pw_or1 h
theorem gw_and (ha : GT g X a t) (hb : GW g X (.BoolOp .And (b :: rest) pos) u) : GW g X (.BoolOp .And (a :: b :: rest) pos) (dAnd t u) := PW.weak (pw_and ha hb) fun σ H Q ⟨c, F, env, m, Q1, rl, hd, k⟩ =>
  ⟨c, F, env, m, _, rl, hd, fun x H1 F1 m1 r1 f1 q1 => by
    cases x with
    | true => exact ⟨c, F1, env, m1, _, r1, q1, fun y H2 F2 m2 r2 f2 q2 => k y H2 F2 m2 r2 (f1.trans f2) q2⟩
    | false => exact k false H1 F1 m1 r1 f1 q1⟩
theorem gw_or (ha : GT g X a t) (hb : GW g X (.BoolOp .Or (b :: rest) pos) u) : GW g X (.BoolOp .Or (a :: b :: rest) pos) (dOr t u) := PW.weak (pw_or ha hb) fun σ H Q ⟨c, F, env, m, Q1, rl, hd, k⟩ =>
  ⟨c, F, env, m, _, rl, hd, fun x H1 F1 m1 r1 f1 q1 => by
    cases x with
    | false => exact ⟨c, F1, env, m1, _, r1, q1, fun y H2 F2 m2 r2 f2 q2 => k y H2 F2 m2 r2 (f1.trans f2) q2⟩
    | true => exact k true H1 F1 m1 r1 f1 q1⟩
theorem gt_not (ha : GT g X a t) : GT g X (.UnaryOp .Not a pos) (dNot t) := PT.weak (pt_not ha) fun σ H Q ⟨c, F, env, m, Q1, rl, hd, k⟩ => ⟨c, F, env, m, _, rl, hd, fun x H1 F1 m1 r1 f1 q1 => k _ H1 F1 m1 r1 f1 q1⟩
def dIfE (t : DT) (da db : DE) : DE := fun env m Q => t env m fun b m1 => if b = true then da env m1 Q else db env m1 Q
theorem ge_if {t : DT} (hc : GT g X cc t) (ha : GE g X a da) (hb : GE g X b db) : GE g X (.IfExp cc a b pos) (dIfE t da db) := PE.weak (pe_ifExp hc ha hb) fun σ H Q ⟨c, F, env, m, Q1, rl, hd, k⟩ =>
  ⟨c, F, env, m, _, rl, hd, fun x H1 F1 m1 r1 f1 q1 => by
    cases x with
    | true => exact ⟨c, F1, env, m1, _, r1, q1, fun y H2 F2 m2 z r2 f2 rp q2 => k y H2 F2 m2 z r2 (f1.trans f2) rp q2⟩
    | false => exact ⟨c, F1, env, m1, _, r1, q1, fun y H2 F2 m2 z r2 f2 rp q2 => k y H2 F2 m2 z r2 (f1.trans f2) rp q2⟩⟩
/-- as values, of truths -/
def dAndV (da db : DE) : DE := fun env m Q => da env m fun x m1 => ∃ b, x = .bl b ∧ if b = true then db env m1 Q else Q (.bl false) m1
def dOrV (da db : DE) : DE := fun env m Q => da env m fun x m1 => ∃ b, x = .bl b ∧ if b = true then Q (.bl true) m1 else db env m1 Q
def dNotV (da : DE) : DE := fun env m Q => da env m fun x m1 => ∃ b, x = .bl b ∧ Q (.bl (!b)) m1
theorem ge_one {op} (h : GE g X a da) : GE g X (.BoolOp op [a] pos) da := pe_one h
theorem ge_and (ha : GE g X a da) (hb : GE g X (.BoolOp .And (b :: rest) pos) db) : GE g X (.BoolOp .And (a :: b :: rest) pos) (dAndV da db) := PE.weak (pe_and ha hb) fun σ H Q ⟨c, F, env, m, Q1, rl, hd, k⟩ =>
  ⟨c, F, env, m, _, rl, hd, fun v H1 F1 m1 x r1 f1 rp ⟨y, hy, q1⟩ => by
    subst hy
    cases rp
    refine ⟨y, rfl, ?_⟩
    cases y with
    | true => exact ⟨c, F1, env, m1, _, r1, q1, fun y H2 F2 m2 z r2 f2 rp q2 => k y H2 F2 m2 z r2 (f1.trans f2) rp q2⟩
    | false => exact k _ H1 F1 m1 _ r1 f1 (.bl false) q1⟩
theorem ge_or (ha : GE g X a da) (hb : GE g X (.BoolOp .Or (b :: rest) pos) db) : GE g X (.BoolOp .Or (a :: b :: rest) pos) (dOrV da db) := PE.weak (pe_or ha hb) fun σ H Q ⟨c, F, env, m, Q1, rl, hd, k⟩ =>
  ⟨c, F, env, m, _, rl, hd, fun v H1 F1 m1 x r1 f1 rp ⟨y, hy, q1⟩ => by
    subst hy
    cases rp
    refine ⟨y, rfl, ?_⟩
    cases y with
    | false => exact ⟨c, F1, env, m1, _, r1, q1, fun y H2 F2 m2 z r2 f2 rp q2 => k y H2 F2 m2 z r2 (f1.trans f2) rp q2⟩
    | true => exact k _ H1 F1 m1 _ r1 f1 (.bl true) q1⟩
theorem ge_not (ha : GE g X a da) : GE g X (.UnaryOp .Not a pos) (dNotV da) := PE.weak (pe_not ha) fun σ H Q ⟨c, F, env, m, Q1, rl, hd, k⟩ =>
  ⟨c, F, env, m, _, rl, hd, fun v H1 F1 m1 x r1 f1 rp ⟨y, hy, q1⟩ => by
    subst hy
    cases rp
    exact ⟨y, rfl, k _ H1 F1 m1 _ r1 f1 (.bl _) q1⟩⟩

/-! ### arguments, displays -/
def dNilA : DA := fun _ m Q => Q [] m
def dConsA (d : DE) (r : DA) : DA := fun env m Q => d env m fun x m1 => r env m1 fun as m2 => Q (.val x :: as) m2
/-- the cask's or the script's own name as an argument -/
def dConsC (i : Nat) (r : DA) : DA := fun env m Q => ∃ s, env[i]? = some s ∧ (s = .cask ∨ ∃ ns, s = .scr ns) ∧ r env m fun as m2 => Q (s :: as) m2
variable {dr : DA}
theorem ArgsR.mono {K : PySem.W.Frag} {c : Option Addr} {F F' : Hp} (e : Ex F F') : ∀ {as : List Sl} {vs : List V}, ArgsR K g c F as vs → ArgsR K g c F' as vs
  | _, _, .nil => .nil
  | s :: _, _, .cons h t => .cons (by
      cases s with
      | val d => exact Rep.mono e h
      | cask => exact h
      | scr ns => obtain ⟨a, e1, e2⟩ := h; exact ⟨a, e1, Evl.ex_l e e2⟩
      | no => exact h
      | own ds => exact h) (ArgsR.mono e t)
theorem ga_nil : GA g X [] dNilA := PA.weak pa_nil fun σ H Q ⟨c, F, env, m, Q1, rl, hd, k⟩ => k [] H F m [] rl (Fresh.refl rl.sub rl.ck) .nil hd
theorem ga_cons (ha : GE g X e d) (hr : GA g X es dr) (hs : starEach (e :: es) X.env = (false, eval e X.env) :: starEach es X.env := by rfl) : GA g X (e :: es) (dConsA d dr) := PA.weak (pa_cons ha hr hs) fun σ H Q ⟨c, F, env, m, Q1, rl, hd, k⟩ =>
  ⟨c, F, env, m, _, rl, hd, fun v H1 F1 m1 x r1 f1 rp q1 => ⟨c, F1, env, m1, _, r1, q1, fun vs H2 F2 m2 as r2 f2 rps q2 => k _ H2 F2 m2 _ r2 (f1.trans f2) (.cons (rp.mono f2.ff) rps) q2⟩⟩
theorem ga_cask (i : Nat) {x : Str} (hr : GA g X es dr) (hN : X.N[i]? = some x := by rfl) (hv : Vis X.env.scope x := by first | exact Or.inl rfl | exact Or.inr (Or.inl rfl) | exact Or.inr (Or.inr rfl)) (hd : (x == ("__debug__" : Str)) = false := by decide)
    (hcd : (x == ("__classdict__" : Str)) = false := by decide) (hs : starEach (.Name x pos :: es) X.env = (false, eval (.Name x pos) X.env) :: starEach es X.env := by rfl) : GA g X (.Name x pos :: es) (dConsC i dr) :=
  PA.weak (pa_cons (pe_var hN hv hd hcd) hr hs) fun σ H Q ⟨c, F, env, m, Q1, rl, ⟨s, e1, e2, q⟩, k⟩ => by
    have w := rl.slot i s e1
    rcases e2 with rfl | ⟨ns, rfl⟩
    · obtain ⟨a, ca, ea⟩ := w
      exact ⟨.ref a, ea, c, F, env, m, _, rl, q, fun vs H2 F2 m2 as r2 f2 rps q2 => k _ H2 F2 m2 (.cask :: as) r2 f2 (.cons ⟨a, ca, rfl⟩ rps) q2⟩
    · obtain ⟨a, ea, ca⟩ := w
      exact ⟨.ref a, ea, c, F, env, m, _, rl, q, fun vs H2 F2 m2 as r2 f2 rps q2 => k _ H2 F2 m2 (.scr ns :: as) r2 f2 (.cons ⟨a, rfl, Evl.ex_l f2.ff ca⟩ rps) q2⟩
/-- data alone -/
def dNilL : DL := fun _ m Q => Q [] m
def dConsL (d : DE) (r : DL) : DL := fun env m Q => d env m fun x m1 => r env m1 fun ds m2 => Q (x :: ds) m2
variable {dl : DL}
theorem RepTs.mono {K : PySem.W.Frag} {c : Option Addr} {F F' H H' : Hp} (n : Fresh c F H F' H') : ∀ {ds : List D} {vs : List V}, RepTs K g c F H ds vs → RepTs K g c F' H' ds vs
  | _, _, .nil => .nil
  | _, _, .cons h t => .cons (h.mono n) (RepTs.mono n t)
theorem gab_nil : GAb g X [] dNilL := PA.weak pa_nil fun σ H Q ⟨c, F, env, m, Q1, rl, hd, k⟩ => k [] H F m [] rl (Fresh.refl rl.sub rl.ck) .nil hd
theorem gab_cons (ha : GB g X e d) (hr : GAb g X es dl) (hs : starEach (e :: es) X.env = (false, eval e X.env) :: starEach es X.env := by rfl) : GAb g X (e :: es) (dConsL d dl) := PA.weak (pa_cons ha hr hs) fun σ H Q ⟨c, F, env, m, Q1, rl, hd, k⟩ =>
  ⟨c, F, env, m, _, rl, hd, fun v H1 F1 m1 x r1 f1 rp q1 => ⟨c, F1, env, m1, _, r1, q1, fun vs H2 F2 m2 as r2 f2 rps q2 => k _ H2 F2 m2 _ r2 (f1.trans f2) (.cons (rp.mono f2) rps) q2⟩⟩
/-- items of a display: fixed data -/
def tAl (K : PySem.W.Frag) (g : Gp) (d : DL) : TA := fun σ H Q' => ∃ c F env m Q, Rel K g c F env m σ H ∧ d env m Q ∧
  ∀ vs H' F' m' ds, Rel K g c F' env m' σ H' → Fresh c F H F' H' → RepL K g F' ds vs → Q ds m' → Q' vs H'
def GAl (g : Gp) (X : Cx) (es : List Expr) (d : DL) : Prop := PA X es (tAl X.K g d)
theorem gal_nil : GAl g X [] dNilL := PA.weak pa_nil fun σ H Q ⟨c, F, env, m, Q1, rl, hd, k⟩ => k [] H F m [] rl (Fresh.refl rl.sub rl.ck) .nil hd
theorem gal_cons (ha : GE g X e d) (hr : GAl g X es dl) (hs : starEach (e :: es) X.env = (false, eval e X.env) :: starEach es X.env := by rfl) : GAl g X (e :: es) (dConsL d dl) := PA.weak (pa_cons ha hr hs) fun σ H Q ⟨c, F, env, m, Q1, rl, hd, k⟩ =>
  ⟨c, F, env, m, _, rl, hd, fun v H1 F1 m1 x r1 f1 rp q1 => ⟨c, F1, env, m1, _, r1, q1, fun vs H2 F2 m2 as r2 f2 rps q2 => k _ H2 F2 m2 _ r2 (f1.trans f2) (.cons (rp.mono f2.ff) rps) q2⟩⟩
def dTup (d : DL) : DE := fun env m Q => d env m fun ds m1 => ds.length ≤ LL ∧ Q (.tup ds) m1
def dLst (d : DL) : DL := fun env m Q => d env m fun ds m1 => ds.length ≤ LL ∧ Q ds m1
theorem ge_tup {x1} (h : GAl g X es dl) : GE g X (.Tuple es x1 pos) (dTup dl) := PE.weak (pe_tup h) fun σ H Q ⟨c, F, env, m, Q1, rl, hd, k⟩ =>
  ⟨c, F, env, m, _, rl, hd, fun vs H1 F1 m1 ds r1 f1 rp ⟨hz, q1⟩ => ⟨ll (by rw [rp.length]; exact hz), fun p hp => by
    have n := New.fix (F := F1) (o := .tup vs) r1.sub hp
    exact k _ _ _ m1 _ (r1.new n) (f1.trans (n.fresh r1.ck)) (.tup (SqT.of upd_same) (rp.mono n.ff)) q1⟩⟩
theorem gn_lst (h : GAl g X es dl) : GN g X (.List es pos) (dLst dl) := PE.weak (pe_lst h) fun σ H Q ⟨c, F, env, m, Q1, rl, hd, k⟩ =>
  ⟨c, F, env, m, _, rl, hd, fun vs H1 F1 m1 ds r1 f1 rp ⟨hz, q1⟩ => ⟨ll (by rw [rp.length]; exact hz), fun p hp => by
    have n := New.lay (F := F1) (o := .lst vs) r1.sub hp
    refine k p _ _ m1 ds vs (r1.new n) (f1.trans (n.fresh r1.ck)) ?_ (ex_none r1.sub hp) (fun z => ?_) upd_same rp q1
    · cases q : H p with
      | none => rfl
      | some o =>
        by_cases z : c = some p
        · obtain ⟨_, _, e, _⟩ := r1.ck p z; rw [e] at hp; cases hp
        · rw [f1.hh p o q z] at hp; cases hp
    · obtain ⟨_, _, e, _⟩ := r1.ck p z; rw [e] at hp; cases hp⟩⟩
end
end G
namespace G
open PySem L2

/-! ### arithmetic, comparisons: on data -/
def addD : D → D → Option D
  | .int i, .int j => some (.int (i + j))
  | .str a, .str b => if a.length + b.length ≤ LL then some (.str (a ++ b)) else none
  | .tup a, .tup b => if a.length + b.length ≤ LL then some (.tup (a ++ b)) else none
  | .lst a, .lst b => if a.length + b.length ≤ LL then some (.lst (a ++ b)) else none
  | _, _ => none
def subD : D → D → Option D
  | .int i, .int j => some (.int (i - j))
  | _, _ => none
def mulD : D → D → Option D
  | .int i, .int j => if (-(2 ^ 64) < i ∧ i < 2 ^ 64) ∨ (-(2 ^ 64) < j ∧ j < 2 ^ 64) then some (.int (i * j)) else none
  | .lst ds, .int k => if 0 ≤ k ∧ k ≤ 1000 ∧ ds.length * k.toNat ≤ LL then some (.lst (List.replicate k.toNat ds).flatten) else none
  | _, _ => none
def fdivD : D → D → Option D
  | .int i, .int j => if 0 < j ∧ j < 1073741824 then some (.int (i / j)) else none
  | _, _ => none
def modD : D → D → Option D
  | .int i, .int j => if 0 < j then some (.int (i % j)) else none
  | _, _ => none
def powD : D → D → Option D
  | .int i, .int j => if 0 ≤ j ∧ j ≤ 1000000 ∧ i.natAbs < 2 ^ 64 then some (.int (i ^ j.toNat)) else none
  | _, _ => none
def sLt (a b : Str) : Bool := decide (a.cps.toList < b.cps.toList)
def ltD : D → D → Option D
  | .int i, .int j => some (.bl (decide (i < j)))
  | .str a, .str b => some (.bl (sLt a b))
  | _, _ => none
def leD : D → D → Option D
  | .int i, .int j => some (.bl (decide (i ≤ j)))
  | .str a, .str b => some (.bl (!sLt b a))
  | _, _ => none
def gtD : D → D → Option D
  | .int i, .int j => some (.bl (decide (j < i)))
  | .str a, .str b => some (.bl (sLt b a))
  | _, _ => none
def geD : D → D → Option D
  | .int i, .int j => some (.bl (decide (j ≤ i)))
  | .str a, .str b => some (.bl (!sLt a b))
  | _, _ => none
section
variable {K : PySem.W.Frag} {g : Gp}
theorem od_I0 {f : Int → Int → V} {fd : Int → Int → D} {r : D → D → Option D} (h : ∀ x y z, r x y = some z → ∃ i j, x = .int i ∧ y = .int j ∧ z = fd i j) (hf : ∀ F i j, Rep K g F (fd i j) (f i j)) : OpD K g (rI0 f) r := fun c F H x y z v w Q' e nc rx ry hz k => by
  obtain ⟨i, j, rfl, rfl, rfl⟩ := h x y z hz
  exact ⟨i, j, rx.int', ry.int', k _ H F (New.refl e) (hf F i j)⟩
theorem od_I {C : Int → Int → Prop} {f : Int → Int → V} {fd : Int → Int → D} {r : D → D → Option D} (h : ∀ x y z, r x y = some z → ∃ i j, x = .int i ∧ y = .int j ∧ C i j ∧ z = fd i j) (hf : ∀ F i j, Rep K g F (fd i j) (f i j)) : OpD K g (rI C f) r := fun c F H x y z v w Q' e nc rx ry hz k => by
  obtain ⟨i, j, rfl, rfl, hc, rfl⟩ := h x y z hz
  exact ⟨i, j, rx.int', ry.int', hc, k _ H F (New.refl e) (hf F i j)⟩
theorem od_or {r r' : R2} {f f1 f2 : D → D → Option D} (h : OpD K g r f1) (h' : OpD K g r' f2) (hf : ∀ x y z, f x y = some z → f1 x y = some z ∨ f2 x y = some z) : OpD K g (fun x y H Q => r x y H Q ∨ r' x y H Q) f := fun c F H x y z v w Q' e nc rx ry hz k => by
  rcases hf x y z hz with q | q
  · exact .inl (h c F H x y z v w Q' e nc rx ry q k)
  · exact .inr (h' c F H x y z v w Q' e nc rx ry q k)
def addI : D → D → Option D | .int i, .int j => some (.int (i + j)) | _, _ => none
def addS : D → D → Option D | .str a, .str b => if a.length + b.length ≤ LL then some (.str (a ++ b)) else none | _, _ => none
def addT : D → D → Option D | .tup a, .tup b => if a.length + b.length ≤ LL then some (.tup (a ++ b)) else none | _, _ => none
def addL : D → D → Option D | .lst a, .lst b => if a.length + b.length ≤ LL then some (.lst (a ++ b)) else none | _, _ => none
def rAddS : R2 := fun x y H Q => ∃ i j, x = .str i ∧ y = .str j ∧ i.length + j.length ≤ sizeLine ∧ Q (.str (i ++ j)) H
theorem od_addS : OpD K g rAddS addS := fun c F H x y z v w Q' e nc rx ry hz k => by
  unfold addS at hz
  split at hz
  · split at hz
    · rename_i h
      cases hz
      exact ⟨_, _, rx.str', ry.str', ll h, k _ H F (New.refl e) (.str _)⟩
    · cases hz
  · cases hz
theorem od_addT : OpD K g (rCatA K) addT := fun c F H x y z v w Q' e nc rx ry hz k => by
  unfold addT at hz
  split at hz
  · rename_i a b
    split at hz
    · rename_i h
      cases hz
      obtain ⟨p, xs, e1, h1, r1⟩ := rx.tup'
      obtain ⟨q, ys, e2, h2, r2⟩ := ry.tup'
      refine ⟨p, q, xs, ys, e1, e2, Evl.ex_t e h1, Evl.ex_t e h2, ll (by rw [r1.length, r2.length]; exact h), fun ex => ?_, fun ex ey => ?_, fun ex ey t ht => ?_⟩
      · subst ex; cases r1; exact k _ H F (New.refl e) (.tup h2 r2)
      · subst ey; cases r2; rw [List.append_nil] at k; exact k _ H F (New.refl e) (.tup h1 r1)
      · have n := New.fix (o := .tup (xs ++ ys)) e ht
        exact k _ _ _ n (.tup (SqT.of upd_same) ((r1.append r2).mono n.ff))
    · cases hz
  · cases hz
theorem od_addL : OpD K g rCat addL := fun c F H x y z v w Q' e nc rx ry hz k => by
  unfold addL at hz
  split at hz
  · rename_i a b
    split at hz
    · rename_i h
      cases hz
      obtain ⟨p, xs, e1, h1, r1, _⟩ := rx
      obtain ⟨q, ys, e2, h2, r2, _⟩ := ry
      refine ⟨p, q, xs, ys, e1, e2, h1, h2, ll (by rw [r1.length, r2.length]; exact h), fun t ht => ?_⟩
      have n := New.fix (o := .lst (xs ++ ys)) e ht
      exact k _ _ _ n (.lst upd_same ((r1.append r2).mono n.ff))
    · cases hz
  · cases hz
def rAddG (K : PySem.W.Frag) : R2 := fun x y H Q => rI0 (fun i j => .int (i + j)) x y H Q ∨ (rAddS x y H Q ∨ (rCatA K x y H Q ∨ rCat x y H Q))
theorem or_add {X : Cx} : OpR X (binaryOp .Add) (rAddG X.K) := op_add.or (OpR.or (r := rAddS) op_add_str (op_catA.or op_cat))
theorem od_add : OpD K g (rAddG K) addD := od_or (f1 := addI) (f2 := fun x y => match addS x y with | some z => some z | none => match addT x y with | some z => some z | none => addL x y)
    (od_I0 (fun x y z h => by unfold addI at h; split at h; · cases h; exact ⟨_, _, rfl, rfl, rfl⟩
                              · cases h) fun F i j => .int _)
    (od_or (f1 := addS) (f2 := fun x y => match addT x y with | some z => some z | none => addL x y) od_addS (od_or (f1 := addT) (f2 := addL) od_addT od_addL (fun x y z h => by
      split at h
      · rename_i q; left; rw [q]; exact h
      · exact .inr h)) (fun x y z h => by
      split at h
      · rename_i q; left; rw [q]; exact h
      · exact .inr h)) (fun x y z h => by
      cases x <;> cases y <;> simp only [addD, addI, addS, addT, addL] at h ⊢ <;> first | exact .inl h | (right; rw [h]) | (right; exact h) | (cases h))
theorem od_sub : OpD K g (rI0 fun i j => .int (i - j)) subD := od_I0 (fun x y z h => by
  unfold subD at h; split at h
  · cases h; exact ⟨_, _, rfl, rfl, rfl⟩
  · cases h) fun F i j => .int _
def mulI : D → D → Option D | .int i, .int j => if (-(2 ^ 64) < i ∧ i < 2 ^ 64) ∨ (-(2 ^ 64) < j ∧ j < 2 ^ 64) then some (.int (i * j)) else none | _, _ => none
def mulL : D → D → Option D | .lst ds, .int k => if 0 ≤ k ∧ k ≤ 1000 ∧ ds.length * k.toNat ≤ LL then some (.lst (List.replicate k.toNat ds).flatten) else none | _, _ => none
theorem RepL.rep {F : Hp} {ds : List D} {xs : List V} (h : RepL K g F ds xs) : ∀ k : Nat, RepL K g F (List.replicate k ds).flatten (List.replicate k xs).flatten
  | 0 => .nil
  | k + 1 => by rw [List.replicate_succ, List.replicate_succ, List.flatten_cons, List.flatten_cons]; exact h.append (RepL.rep h k)
theorem od_mulL : OpD K g rRep mulL := fun c F H x y z v w Q' e nc rx ry hz k => by
  unfold mulL at hz
  split at hz
  · rename_i ds j
    split at hz
    · rename_i h
      cases hz
      obtain ⟨p, xs, e1, h1, r1, _⟩ := rx
      refine ⟨p, j, xs, e1, ry.int', h1, by omega, by omega, ll (by rw [r1.length]; exact h.2.2), fun t ht => ?_⟩
      have n := New.fix (o := .lst (List.replicate j.toNat xs).flatten) e ht
      exact k _ _ _ n (.lst upd_same ((r1.rep _).mono n.ff))
    · cases hz
  · cases hz
theorem or_mul {X : Cx} : OpR X (binaryOp .Mult) (fun x y H Q => rI CMul (fun i j => .int (i * j)) x y H Q ∨ rRep x y H Q) := op_mul.or op_rep
theorem od_mul : OpD K g (fun x y H Q => rI CMul (fun i j => .int (i * j)) x y H Q ∨ rRep x y H Q) mulD := od_or (f1 := mulI) (f2 := mulL) (od_I (fun x y z h => by
  unfold mulI at h; split at h
  · split at h
    · cases h; exact ⟨_, _, rfl, rfl, ‹_›, rfl⟩
    · cases h
  · cases h) fun F i j => .int _) od_mulL (fun x y z h => by
      cases x <;> cases y <;> simp only [mulD, mulI, mulL] at h ⊢ <;> first | exact .inl h | exact .inr h | (cases h))
theorem od_fdiv : OpD K g (rI CDiv fun i j => .int (i / j)) fdivD := od_I (fun x y z h => by
  unfold fdivD at h; split at h
  · split at h
    · cases h; exact ⟨_, _, rfl, rfl, ‹_›, rfl⟩
    · cases h
  · cases h) fun F i j => .int _
theorem od_mod : OpD K g (rI (fun _ j => 0 < j) fun i j => .int (i % j)) modD := od_I (fun x y z h => by
  unfold modD at h; split at h
  · split at h
    · cases h; exact ⟨_, _, rfl, rfl, ‹_›, rfl⟩
    · cases h
  · cases h) fun F i j => .int _
theorem od_pow : OpD K g (rI CPow fun i j => .int (i ^ j.toNat)) powD := od_I (fun x y z h => by
  unfold powD at h; split at h
  · split at h
    · cases h; exact ⟨_, _, rfl, rfl, ‹_›, rfl⟩
    · cases h
  · cases h) fun F i j => .int _
/-- a relation of two texts -/
def rSS (f : Str → Str → V) : R2 := fun x y H Q => ∃ i j, x = .str i ∧ y = .str j ∧ Q (f i j) H
theorem od_SS {f : Str → Str → V} {fd : Str → Str → D} {r : D → D → Option D} (h : ∀ x y z, r x y = some z → ∃ i j, x = .str i ∧ y = .str j ∧ z = fd i j) (hf : ∀ F i j, Rep K g F (fd i j) (f i j)) : OpD K g (rSS f) r := fun c F H x y z v w Q' e nc rx ry hz k => by
  obtain ⟨i, j, rfl, rfl, rfl⟩ := h x y z hz
  exact ⟨i, j, rx.str', ry.str', k _ H F (New.refl e) (hf F i j)⟩
abbrev rCmp (fi : Int → Int → V) (fs : Str → Str → V) : R2 := fun x y H Q => rI0 fi x y H Q ∨ rSS fs x y H Q
theorem od_cmp {fi : Int → Int → Bool} {fs : Str → Str → Bool} {f : D → D → Option D} (h : ∀ x y z, f x y = some z → (∃ i j, x = .int i ∧ y = .int j ∧ z = .bl (fi i j)) ∨ (∃ i j, x = .str i ∧ y = .str j ∧ z = .bl (fs i j))) :
    OpD K g (rCmp (fun i j => .bl (fi i j)) (fun i j => .bl (fs i j))) f := fun c F H x y z v w Q' e nc rx ry hz k => by
  rcases h x y z hz with ⟨i, j, rfl, rfl, rfl⟩ | ⟨i, j, rfl, rfl, rfl⟩
  · exact .inl ⟨i, j, rx.int', ry.int', k _ H F (New.refl e) (.bl _)⟩
  · exact .inr ⟨i, j, rx.str', ry.str', k _ H F (New.refl e) (.bl _)⟩
variable {X : Cx}
theorem or_lt : OpR X (compareOp .Lt) (rCmp (fun i j => .bl (decide (i < j))) (fun i j => .bl (sLt i j))) := op_lt.or op_lt_str
theorem or_le : OpR X (compareOp .LtE) (rCmp (fun i j => .bl (decide (i ≤ j))) (fun i j => .bl (!sLt j i))) := op_le.or op_le_str
theorem or_gt : OpR X (compareOp .Gt) (rCmp (fun i j => .bl (decide (j < i))) (fun i j => .bl (sLt j i))) := op_gt.or op_gt_str
theorem or_ge : OpR X (compareOp .GtE) (rCmp (fun i j => .bl (decide (j ≤ i))) (fun i j => .bl (!sLt i j))) := op_ge.or op_ge_str
theorem od_lt : OpD K g (rCmp (fun i j => .bl (decide (i < j))) (fun i j => .bl (sLt i j))) ltD := od_cmp (fi := fun i j => decide (i < j)) (fs := fun i j => sLt i j) (fun x y z h => by
  cases x <;> cases y <;> simp only [ltD] at h <;> first | (cases h; exact .inl ⟨_, _, rfl, rfl, rfl⟩) | (cases h; exact .inr ⟨_, _, rfl, rfl, rfl⟩) | cases h)
theorem od_le : OpD K g (rCmp (fun i j => .bl (decide (i ≤ j))) (fun i j => .bl (!sLt j i))) leD := od_cmp (fi := fun i j => decide (i ≤ j)) (fs := fun i j => !sLt j i) (fun x y z h => by
  cases x <;> cases y <;> simp only [leD] at h <;> first | (cases h; exact .inl ⟨_, _, rfl, rfl, rfl⟩) | (cases h; exact .inr ⟨_, _, rfl, rfl, rfl⟩) | cases h)
theorem od_gt : OpD K g (rCmp (fun i j => .bl (decide (j < i))) (fun i j => .bl (sLt j i))) gtD := od_cmp (fi := fun i j => decide (j < i)) (fs := fun i j => sLt j i) (fun x y z h => by
  cases x <;> cases y <;> simp only [gtD] at h <;> first | (cases h; exact .inl ⟨_, _, rfl, rfl, rfl⟩) | (cases h; exact .inr ⟨_, _, rfl, rfl, rfl⟩) | cases h)
theorem od_ge : OpD K g (rCmp (fun i j => .bl (decide (j ≤ i))) (fun i j => .bl (!sLt i j))) geD := od_cmp (fi := fun i j => decide (j ≤ i)) (fs := fun i j => !sLt i j) (fun x y z h => by
  cases x <;> cases y <;> simp only [geD] at h <;> first | (cases h; exact .inl ⟨_, _, rfl, rfl, rfl⟩) | (cases h; exact .inr ⟨_, _, rfl, rfl, rfl⟩) | cases h)

/-! ### == at any depth -/
mutual
def D.py : D → PyData
  | .non => .none | .bl b => .bool b | .int i => .int i | .str s => .str s
  | .tup ds => .tuple (pyL ds) | .lst ds => .list (pyL ds) | .dic _ => .none | .web _ _ => .none
def pyL : List D → List PyData
  | [] => []
  | d :: r => d.py :: pyL r
end
mutual
def D.okd : D → Nat → Bool
  | .non, _ => true | .bl _, _ => true | .int _, _ => true | .str s, _ => PyData.strOk s
  | .tup ds, n => decide (0 < n) && okdL ds (n - 1) | .lst ds, n => decide (0 < n) && okdL ds (n - 1) | .dic _, _ => false | .web _ _, _ => false
def okdL : List D → Nat → Bool
  | [], _ => true
  | d :: r, n => d.okd n && okdL r n
end
mutual
theorem okd_lay : ∀ (d : D) (n : Nat), d.okd n = true → d.py.canLay0 = true ∧ d.py.depth ≤ n
  | .non, _, _ => ⟨by simp [D.py, PyData.canLay0], by simp [D.py, PyData.depth]⟩
  | .bl _, _, _ => ⟨by simp [D.py, PyData.canLay0], by simp [D.py, PyData.depth]⟩
  | .int _, _, _ => ⟨by simp [D.py, PyData.canLay0], by simp [D.py, PyData.depth]⟩
  | .str s, _, h => ⟨by simpa [D.py, PyData.canLay0, D.okd] using h, by simp [D.py, PyData.depth]⟩
  | .tup ds, n, h => by
    simp only [D.okd, Bool.and_eq_true, decide_eq_true_eq] at h
    obtain ⟨h1, h2⟩ := okdL_lay ds _ h.2
    exact ⟨by simpa [D.py, PyData.canLay0] using h1, by simp only [D.py, PyData.depth]; omega⟩
  | .lst ds, n, h => by
    simp only [D.okd, Bool.and_eq_true, decide_eq_true_eq] at h
    obtain ⟨h1, h2⟩ := okdL_lay ds _ h.2
    exact ⟨by simpa [D.py, PyData.canLay0] using h1, by simp only [D.py, PyData.depth]; omega⟩
  | .dic _, _, h => by simp [D.okd] at h
  | .web _ _, _, h => by simp [D.okd] at h
theorem okdL_lay : ∀ (ds : List D) (n : Nat), okdL ds n = true → PyData.canLayAll0 (pyL ds) = true ∧ PyData.depthAll (pyL ds) ≤ n
  | [], _, _ => ⟨by simp [pyL, PyData.canLayAll0], by simp [pyL, PyData.depthAll]⟩
  | d :: r, n, h => by
    simp only [okdL, Bool.and_eq_true] at h
    obtain ⟨h1, h2⟩ := okd_lay d n h.1
    obtain ⟨h3, h4⟩ := okdL_lay r n h.2
    exact ⟨by simp only [pyL, PyData.canLayAll0, h1, h3, Bool.and_self], by simp only [pyL, PyData.depthAll]; omega⟩
end
mutual
theorem rep_dp {F H : Hp} (e : Ex F H) : ∀ (d : D) (n : Nat) (v : V), d.okd n = true → Rep K g F d v → Dp K H v d.py
  | .non, _, _, _, h => by cases h; simp only [D.py]; exact .non
  | .bl b, _, _, _, h => by cases h; simp only [D.py]; exact .bl b
  | .int i, _, _, _, h => by cases h; simp only [D.py]; exact .int i
  | .str s, _, _, _, h => by cases h; simp only [D.py]; exact .str s
  | .tup ds, n, _, o, h => by
    simp only [D.okd, Bool.and_eq_true] at o
    cases h with
    | tup h r => simp only [D.py]; exact .tup (Evl.ex_t e h) (repL_dp e ds _ _ o.2 r)
  | .lst ds, n, _, o, h => by
    simp only [D.okd, Bool.and_eq_true] at o
    cases h with
    | lst h r => simp only [D.py]; exact .lst (SqL.of (e _ _ h)) (repL_dp e ds _ _ o.2 r)
  | .dic _, _, _, o, _ => by simp [D.okd] at o
  | .web _ _, _, _, o, _ => by simp [D.okd] at o
theorem repL_dp {F H : Hp} (e : Ex F H) : ∀ (ds : List D) (n : Nat) (vs : List V), okdL ds n = true → RepL K g F ds vs → DpAll K H vs (pyL ds)
  | [], _, _, _, h => by cases h; simp only [pyL]; exact .nil
  | d :: r, n, _, o, h => by
    simp only [okdL, Bool.and_eq_true] at o
    cases h with
    | cons h1 h2 => simp only [pyL]; exact .cons (rep_dp e d n _ o.1 h1) (repL_dp e r n _ o.2 h2)
end
theorem repT_dp {c : Option Addr} {F H : Hp} (e : Ex F H) {d : D} {n : Nat} {v : V} (o : d.okd n = true) (h : RepT K g c F H d v) : Dp K H v d.py := by
  cases d with
  | lst ds =>
    obtain ⟨p, xs, rfl, h1, h2, _⟩ := h
    simp only [D.okd, Bool.and_eq_true] at o
    simp only [D.py]
    exact .lst (SqL.of h1) (repL_dp e ds _ _ o.2 h2)
  | _ => exact rep_dp e _ n _ o h
theorem okd_shaped {d : D} (o : d.okd 60 = true) : SeqAt.shaped d.py = true := by
  obtain ⟨h1, h2⟩ := okd_lay d 60 o
  unfold SeqAt.shaped
  rw [h1, decide_eq_true (Nat.le_trans h2 (by decide))]
  rfl
def scalD : D → D → Option Bool
  | .str a, .str b => some (decide (a = b))
  | .int a, .int b => some (decide (a = b))
  | .bl a, .bl b => some (decide (a = b))
  | .non, .non => some true
  | .non, .str _ => some false | .str _, .non => some false | .non, .int _ => some false | .int _, .non => some false | .non, .bl _ => some false | .bl _, .non => some false
  | .int _, .str _ => some false | .str _, .int _ => some false | .bl _, .str _ => some false | .str _, .bl _ => some false
  | _, _ => none
def deepEq (x y : D) : Option Bool := if x.okd 60 && y.okd 60 then some (PyData.eqv x.py y.py) else none
def eqB (x y : D) : Option Bool := match scalD x y with | some b => some b | none => deepEq x y
def eqD (x y : D) : Option D := (eqB x y).map .bl
def neD (x y : D) : Option D := (eqB x y).map fun b => .bl (!b)
theorem scalD_ok {c : Option Addr} {F H : Hp} {x y : D} {v w : V} {b : Bool} (h : scalD x y = some b) (rx : RepT K g c F H x v) (ry : RepT K g c F H y w) : scal v w = true ∧ decide (v = w) = b := by
  cases x <;> cases y <;> simp only [scalD] at h <;> first
    | (cases h
       first
         | rw [rx.str', ry.str'] | rw [rx.int', ry.int'] | rw [rx.bl', ry.bl'] | rw [rx.non', ry.non'] | rw [rx.non', ry.str'] | rw [rx.str', ry.non'] | rw [rx.non', ry.int'] | rw [rx.int', ry.non'] | rw [rx.non', ry.bl'] | rw [rx.bl', ry.non']
         | rw [rx.int', ry.str'] | rw [rx.str', ry.int'] | rw [rx.bl', ry.str'] | rw [rx.str', ry.bl']
       exact ⟨rfl, by simp⟩)
    | cases h
def rEqG (K : PySem.W.Frag) : R2 := fun x y H Q => rEq x y H Q ∨ rEqD K x y H Q
def rNeG (K : PySem.W.Frag) : R2 := fun x y H Q => rNe x y H Q ∨ rNeD K x y H Q
theorem or_eq (hu : X.A.units + 64 < cLine) : OpR X (compareOp .Eq) (rEqG X.K) := op_eq.or (op_eqD hu)
theorem or_ne (hu : X.A.units + 64 < cLine) : OpR X (compareOp .NotEq) (rNeG X.K) := op_ne.or (op_neD hu)
theorem od_eq : OpD K g (rEqG K) eqD := fun c F H x y z v w Q' e nc rx ry hz k => by
  unfold eqD eqB at hz
  split at hz
  · rename_i b q
    cases hz
    obtain ⟨s1, s2⟩ := scalD_ok q rx ry
    exact .inl ⟨s1, by rw [s2]; exact k _ H F (New.refl e) (.bl b)⟩
  · unfold deepEq at hz
    split at hz
    · rename_i o
      cases hz
      rw [Bool.and_eq_true] at o
      exact .inr ⟨_, _, repT_dp e o.1 rx, repT_dp e o.2 ry, okd_shaped o.1, okd_shaped o.2, k _ H F (New.refl e) (.bl _)⟩
    · cases hz
theorem od_ne : OpD K g (rNeG K) neD := fun c F H x y z v w Q' e nc rx ry hz k => by
  unfold neD eqB at hz
  split at hz
  · rename_i b q
    cases hz
    obtain ⟨s1, s2⟩ := scalD_ok q rx ry
    exact .inl ⟨s1, by rw [s2]; exact k _ H F (New.refl e) (.bl _)⟩
  · unfold deepEq at hz
    split at hz
    · rename_i o
      cases hz
      rw [Bool.and_eq_true] at o
      exact .inr ⟨_, _, repT_dp e o.1 rx, repT_dp e o.2 ry, okd_shaped o.1, okd_shaped o.2, k _ H F (New.refl e) (.bl _)⟩
    · cases hz

/-! ### is None -/
def D.isN : D → Bool | .non => true | _ => false
def isND (x y : D) : Option D := match y with | .non => some (.bl x.isN) | _ => none
def notND (x y : D) : Option D := match y with | .non => some (.bl (!x.isN)) | _ => none
theorem rep_non_iff {c : Option Addr} {F H : Hp} {x : D} {v : V} (r : RepT K g c F H x v) : decide (v = .non) = x.isN := by
  cases x with
  | non => rw [r.non']; rfl
  | bl b => rw [r.bl']; rfl
  | int b => rw [r.int']; rfl
  | str b => rw [r.str']; rfl
  | tup ds => obtain ⟨a, xs, rfl, _⟩ := r.tup'; rfl
  | lst ds => obtain ⟨a, xs, rfl, _⟩ := r; rfl
  | dic ds => obtain ⟨a, xs, rfl, _⟩ := r.dic'; rfl
  | web p t => obtain ⟨a, _, _, rfl, _⟩ := r.web'; rfl
theorem od_isN : OpD K g (fun x y H Q => y = .non ∧ Q (.bl (decide (x = .non))) H) isND := fun c F H x y z v w Q' e nc rx ry hz k => by
  unfold isND at hz
  split at hz
  · cases hz
    exact ⟨ry.non', by rw [rep_non_iff rx]; exact k _ H F (New.refl e) (.bl _)⟩
  · cases hz
theorem od_notN : OpD K g (fun x y H Q => y = .non ∧ Q (.bl (!decide (x = .non))) H) notND := fun c F H x y z v w Q' e nc rx ry hz k => by
  unfold notND at hz
  split at hz
  · cases hz
    refine ⟨ry.non', ?_⟩
    rw [rep_non_iff rx]
    exact k _ H F (New.refl e) (.bl _)
  · cases hz

/-! ### in -/
def D.flat : D → Bool | .non => true | .bl _ => true | .int _ => true | .str _ => true | _ => false
/-- == of flat data -/
def fEq : D → D → Bool
  | .non, .non => true | .bl a, .bl b => a == b | .bl a, .int b => (if a then 1 else 0) == b | .int a, .bl b => a == (if b then 1 else 0) | .int a, .int b => a == b | .str a, .str b => a == b | _, _ => false
def inL (x : D) (ds : List D) : Bool := ds.any fun y => fEq y x
def inB (x y : D) : Option Bool := match x, y with
  | .str a, .str b => (match a.cps.toList with | [q] => some (decide (q ∈ b.cps.toList)) | _ => none)
  | x, .lst ds => if x.flat && ds.all D.flat then some (inL x ds) else none
  | x, .tup ds => if x.flat && ds.all D.flat then some (inL x ds) else none
  | _, _ => none
def inD (x y : D) : Option D := (inB x y).map .bl
def notInD (x y : D) : Option D := (inB x y).map fun b => .bl (!b)
theorem rep_flat {F : Hp} {x : D} {v : V} (h : Rep K g F x v) (f : x.flat = true) : flatV v = true := by
  cases h <;> first | rfl | (simp [D.flat] at f)
theorem rep_fEq {F : Hp} {x y : D} {v w : V} (h : Rep K g F x v) (h' : Rep K g F y w) (f : x.flat = true) (f' : y.flat = true) : eqV v w = fEq x y := by
  cases h <;> first | (simp [D.flat] at f; done) | (cases h' <;> first | (simp [D.flat] at f'; done) | rfl)
theorem repL_flat {F : Hp} : ∀ {ds : List D} {vs : List V}, RepL K g F ds vs → ds.all D.flat = true → vs.all flatV = true
  | _, _, .nil, _ => rfl
  | _, _, .cons h t, f => by
    simp only [List.all_cons, Bool.and_eq_true] at f ⊢
    exact ⟨rep_flat h f.1, repL_flat t f.2⟩
theorem repL_in {F : Hp} {x : D} {v : V} (h : Rep K g F x v) (f : x.flat = true) : ∀ {ds : List D} {vs : List V}, RepL K g F ds vs → ds.all D.flat = true → inV v vs = inL x ds
  | _, _, .nil, _ => rfl
  | _, _, .cons h1 t, f' => by
    simp only [List.all_cons, Bool.and_eq_true] at f'
    have := repL_in h f t f'.2
    unfold inV inL at this ⊢
    rw [List.any_cons, List.any_cons, this, rep_fEq h1 h f'.1 f]
def rSign (neg : Bool) : R2 := fun x y H Q => ∃ (c : Nat) (z : Str), x = .str ⟨#[c]⟩ ∧ y = .str z ∧ Q (.bl (if neg then !decide (c ∈ z.cps.toList) else decide (c ∈ z.cps.toList))) H
def rInG (K : PySem.W.Frag) (neg : Bool) : R2 := fun x y H Q => rSign neg x y H Q ∨ rIn K neg x y H Q
theorem or_in : OpR X (compareOp .In) (rInG X.K false) := OpR.or (r := rSign false) op_in_sign op_in_seq
theorem or_notin : OpR X (compareOp .NotIn) (rInG X.K true) := OpR.or (r := rSign true) op_notIn_sign op_notIn_seq
theorem repT_flat {c : Option Addr} {F H : Hp} {x : D} {v : V} (f : x.flat = true) (h : RepT K g c F H x v) : Rep K g F x v := by
  cases x <;> first | exact h | (simp [D.flat] at f)
theorem od_inG {neg : Bool} : OpD K g (rInG K neg) (fun x y => (inB x y).map fun b => .bl (if neg then !b else b)) := fun c F H x y z v w Q' e nc rx ry hz k => by
  obtain ⟨b, hb, rfl⟩ := Option.map_eq_some_iff.mp hz
  clear hz
  have k' := k _ H F (New.refl e) (.bl _)
  unfold inB at hb
  split at hb
  · rename_i a b'
    split at hb
    · rename_i q eq
      cases hb
      refine .inl ⟨q, b', ?_, ry.str', k'⟩
      rw [rx.str']
      obtain ⟨⟨l⟩⟩ := a
      simp only at eq
      rw [eq]
    · cases hb
  · split at hb
    · rename_i f
      cases hb
      rw [Bool.and_eq_true] at f
      obtain ⟨p, xs, rfl, h1, h2, _⟩ := ry
      have r1 := repT_flat f.1 rx
      refine .inr ⟨p, xs, rfl, .inl (SqL.of h1), rep_flat r1 f.1, repL_flat h2 f.2, ?_⟩
      rw [repL_in r1 f.1 h2 f.2]
      exact k'
    · cases hb
  · split at hb
    · rename_i f
      cases hb
      rw [Bool.and_eq_true] at f
      obtain ⟨p, xs, rfl, h1, h2⟩ := ry.tup'
      have r1 := repT_flat f.1 rx
      refine .inr ⟨p, xs, rfl, .inr (Evl.ex_t e h1), rep_flat r1 f.1, repL_flat h2 f.2, ?_⟩
      rw [repL_in r1 f.1 h2 f.2]
      exact k'
    · cases hb
  · cases hb
theorem od_in : OpD K g (rInG K false) inD := od_inG
theorem od_notin : OpD K g (rInG K true) notInD := od_inG

/-! ### subscripts -/
def ixD : D → D → Option D
  | .lst ds, .int i => atI ds i
  | .tup ds, .int i => atI ds i
  | .str s, .int i => if s.length ≤ LL then (atI s.cps.toList i).map fun c => .str ⟨#[c]⟩ else none
  | _, _ => none
theorem repL_at {F : Hp} {ds : List D} {vs : List V} {i : Int} {d : D} (h : RepL K g F ds vs) (e : atI ds i = some d) : ∃ v, atI vs i = some v ∧ Rep K g F d v := by
  unfold atI at e ⊢
  rw [h.length]
  cases q : ixN ds.length i with
  | none => rw [q] at e; cases e
  | some j =>
    rw [q] at e
    exact h.get e
theorem od_ix : OpD K g (rIx K) ixD := fun c F H x y z v w Q' e nc rx ry hz k => by
  unfold ixD at hz
  split at hz
  · obtain ⟨p, xs, rfl, h1, h2, _⟩ := rx
    obtain ⟨u, h3, h4⟩ := repL_at h2 hz
    exact .inl ⟨p, xs, _, u, rfl, ry.int', SqL.of h1, h3, k _ H F (New.refl e) h4⟩
  · obtain ⟨p, xs, rfl, h1, h2⟩ := rx.tup'
    obtain ⟨u, h3, h4⟩ := repL_at h2 hz
    exact .inr (.inl ⟨p, xs, _, u, rfl, ry.int', Evl.ex_t e h1, h3, k _ H F (New.refl e) h4⟩)
  · split at hz
    · rename_i s i hl
      cases q : atI s.cps.toList i with
      | none => rw [q] at hz; cases hz
      | some ch =>
        rw [q] at hz
        cases hz
        exact .inr (.inr ⟨s, i, ch, rx.str', ry.int', ll hl, q, k _ H F (New.refl e) (.str _)⟩)
    · cases hz
  · cases hz
theorem ge_ix {a b : Expr} {da db : DE} {pos : Pos} (ha : GB g X a da) (hb : GB g X b db) (hs : PlainIx b := by exact fun _ _ => rfl) : GE g X (.Subscript a b pos) (dOp ixD da db) := PE.weak (pe_ix ix_seq ha hb hs) (op_weak od_ix)
end
end G
namespace G
open PySem L2

structure DEnds where
  nx : Env' → Nat → Prop
  rt : D → Nat → Prop
  bk : Env' → Nat → Prop := fun _ _ => False
  ct : Env' → Nat → Prop := fun _ _ => False
abbrev DS := Env' → Nat → DEnds → Prop
/-- the addresses of lists of one's own -/
def Own (env : Env') (σ : St) (a : Addr) : Prop := ∃ (i : Nat) (ds : List D), env[i]? = some (.own ds) ∧ σ[i]? = some (some (.ref a))
structure Evo (c : Option Addr) (O : Addr → Prop) (F H : Hp) (O' : Addr → Prop) (F' H' : Hp) : Prop where
  ff : Ex F F'
  fh : Ex F' H'
  hh : ∀ a o, H a = some o → c ≠ some a → ¬ O a → H' a = some o
  new : ∀ a o, F' a = some o → F a = some o ∨ H a = none ∨ O a
  nc : ∀ a, c = some a → F' a = none
  own : ∀ a, O' a → c ≠ some a ∧ (O a ∨ H a = none)
section
variable {K : PySem.W.Frag} {g : Gp} {c : Option Addr} {F F' F1 F2 H H' H1 H2 : Hp} {env env' : Env'} {m m' : Nat} {σ σ' : St} {O O1 O2 : Addr → Prop}
theorem Evo.trans (a : Evo c O F H O1 F1 H1) (b : Evo c O1 F1 H1 O2 F2 H2) : Evo c O F H O2 F2 H2 where
  ff := a.ff.trans b.ff
  fh := b.fh
  hh := fun x o h n no => b.hh x o (a.hh x o h n no) n fun q => (a.own x q).2.elim no fun z => by rw [h] at z; cases z
  nc := b.nc
  new := fun x o h => by
    rcases b.new x o h with q | q | q
    · exact a.new x o q
    · cases z : H x with
      | none => exact .inr (.inl rfl)
      | some u =>
        by_cases n : c = some x
        · rw [b.nc x n] at h; cases h
        · by_cases y : O x
          · exact .inr (.inr y)
          · rw [a.hh x u z n y] at q; cases q
    · rcases (a.own x q).2 with z | z
      · exact .inr (.inr z)
      · exact .inr (.inl z)
  own := fun x q => by
    obtain ⟨n, z⟩ := b.own x q
    refine ⟨n, ?_⟩
    rcases z with z | z
    · exact (a.own x z).2
    · cases y : H x with
      | none => exact .inr rfl
      | some u =>
        by_cases w : O x
        · exact .inl w
        · rw [a.hh x u y n w] at z; cases z
theorem Evo.none (a : Evo c O F H O1 F1 H1) : Evo c O F H (fun _ => False) F1 H1 := ⟨a.ff, a.fh, a.hh, a.new, a.nc, fun _ h => h.elim⟩
theorem Evo.sub (a : Evo c O F H O1 F1 H1) (h : ∀ x, O2 x → O1 x) : Evo c O F H O2 F1 H1 := ⟨a.ff, a.fh, a.hh, a.new, a.nc, fun x q => a.own x (h x q)⟩
theorem Rel.ownc (r : Rel K g c F env m σ H) : ∀ a, Own env σ a → c ≠ some a := fun a ⟨i, ds, e1, e2⟩ z => by
  obtain ⟨p, xs, q, _, _, _, n⟩ := r.slot i _ e1
  rw [e2] at q
  cases q
  exact n z
theorem Rel.ownH (r : Rel K g c F env m σ H) {a : Addr} (h : Own env σ a) : F a = .none ∧ ∃ xs, H a = some (.lst xs) := by
  obtain ⟨i, ds, e1, e2⟩ := h
  obtain ⟨p, xs, q, h1, h2, _, n⟩ := r.slot i _ e1
  rw [e2] at q
  cases q
  exact ⟨h1, xs, h2⟩
theorem Rel.evo (r : Rel K g c F env m σ H) (f : Fresh c F H F' H') : Evo c (Own env σ) F H (Own env σ) F' H' :=
  ⟨f.ff, f.fh, fun a o h n _ => f.hh a o h n, fun a o h => (f.new a o h).imp id .inl, f.nc, fun a h => ⟨r.ownc a h, .inl h⟩⟩
/-- what is wanted behind a statement -/
structure Outs (K : PySem.W.Frag) (g : Gp) (c : Option Addr) (O : Addr → Prop) (F H : Hp) (E : DEnds) (D : Ends) : Prop where
  nx : ∀ σ' H' F' env' m', Rel K g c F' env' m' σ' H' → Evo c O F H (Own env' σ') F' H' → E.nx env' m' → D.nx σ' H'
  bk : ∀ σ' H' F' env' m', Rel K g c F' env' m' σ' H' → Evo c O F H (Own env' σ') F' H' → E.bk env' m' → D.bk σ' H'
  ct : ∀ σ' H' F' env' m', Rel K g c F' env' m' σ' H' → Evo c O F H (Own env' σ') F' H' → E.ct env' m' → D.ct σ' H'
  rt : ∀ v H' F' m' x, Ck g c m' F' H' → Evo c O F H (fun _ => False) F' H' → Rep K g F' x v → E.rt x m' → D.rt v H'
theorem Outs.shift {E : DEnds} {D : Ends} (o : Outs K g c O F H E D) (e : Evo c O F H O1 F1 H1) : Outs K g c O1 F1 H1 E D :=
  ⟨fun σ' H' F' env' m' r v => o.nx σ' H' F' env' m' r (e.trans v), fun σ' H' F' env' m' r v => o.bk σ' H' F' env' m' r (e.trans v), fun σ' H' F' env' m' r v => o.ct σ' H' F' env' m' r (e.trans v), fun v H' F' m' x k u => o.rt v H' F' m' x k (e.trans u)⟩
/-- another next -/
theorem Outs.next {E : DEnds} {D : Ends} {n : Env' → Nat → Prop} {N : St → Hp → Prop} (o : Outs K g c O F H E D) (h : ∀ σ' H' F' env' m', Rel K g c F' env' m' σ' H' → Evo c O F H (Own env' σ') F' H' → n env' m' → N σ' H') : Outs K g c O F H { E with nx := n } { D with nx := N } := ⟨h, o.bk, o.ct, o.rt⟩
end
def tSD (K : PySem.W.Frag) (g : Gp) (s : DS) : TS := fun D σ H => ∃ c F env m E, Rel K g c F env m σ H ∧ s env m E ∧ Outs K g c (Own env σ) F H E D
def GS (g : Gp) (X : Cx) (st : Stmt) (s : DS) : Prop := PS X st (tSD X.K g s)
def GSs (g : Gp) (X : Cx) (sts : List Stmt) (s : DS) : Prop := PSs X sts (tSD X.K g s)

theorem sl_no {d : D} : ∀ ds, Sl.val d ≠ .own ds := fun _ z => nomatch z
theorem sl_no0 : ∀ ds, Sl.no ≠ .own ds := fun _ z => nomatch z
/-! ### slots set -/
section
variable {K : PySem.W.Frag} {g : Gp} {c : Option Addr} {F F' H H' : Hp} {env : Env'} {m : Nat} {σ : St} {v : V}
theorem own_set {i : Nat} {s : Sl} {o : Option V} {a : Addr} (l : env.length = σ.length) (hs : ∀ ds, s ≠ .own ds) (h : Own (env.set i s) (σ.set i o) a) : Own env σ a := by
  obtain ⟨j, ds, e1, e2⟩ := h
  by_cases q : i = j
  · subst q
    by_cases z : i < env.length
    · rw [List.getElem?_set_self z] at e1; cases e1; exact absurd rfl (hs ds)
    · rw [List.set_eq_of_length_le (by omega)] at e1; exact absurd (List.getElem?_eq_some_iff.mp e1).1 (by omega)
  · rw [List.getElem?_set_ne q] at e1 e2
    exact ⟨j, ds, e1, e2⟩
theorem Rel.set {i : Nat} {s : Sl} {o : Option V} (r : Rel K g c F env m σ H) (hs : ∀ ds, s ≠ .own ds) (h : SlR K g c F H s (some o)) : Rel K g c F (env.set i s) m (σ.set i o) H where
  sub := r.sub
  len := by rw [List.length_set, List.length_set, r.len]
  ck := r.ck
  slot := fun j s' e => by
    by_cases q : i = j
    · subst q
      by_cases z : i < env.length
      · rw [List.getElem?_set_self z] at e; cases e
        rw [List.getElem?_set_self (by rw [← r.len]; exact z)]; exact h
      · rw [List.set_eq_of_length_le (by omega)] at e; exact absurd (List.getElem?_eq_some_iff.mp e).1 (by omega)
    · rw [List.getElem?_set_ne q] at e ⊢
      exact r.slot j s' e
  sep := fun j k dj dk p e1 e2 e3 e4 => by
    have no : ∀ j dj, (env.set i s)[j]? = some (.own dj) → i ≠ j := fun j dj e q => by
      subst q
      by_cases z : i < env.length
      · rw [List.getElem?_set_self z] at e; cases e; exact hs dj rfl
      · rw [List.set_eq_of_length_le (by omega)] at e; exact absurd (List.getElem?_eq_some_iff.mp e).1 (by omega)
    have n1 := no j dj e1
    have n2 := no k dk e2
    rw [List.getElem?_set_ne n1] at e1 e3
    rw [List.getElem?_set_ne n2] at e2 e4
    exact r.sep j k dj dk p e1 e2 e3 e4
theorem Rel.setV {i : Nat} {d : D} (r : Rel K g c F env m σ H) (h : Rep K g F d v) : Rel K g c F (env.set i (.val d)) m (σ.set i (some v)) H := r.set sl_no ⟨v, rfl, h⟩
theorem Rel.setNo {i : Nat} {o : Option V} (r : Rel K g c F env m σ H) : Rel K g c F (env.set i .no) m (σ.set i o) H := r.set sl_no0 trivial
theorem Rel.setO {i : Nat} {ds : List D} {p : Addr} {xs : List V} (r : Rel K g c F env m σ H) (nf : F p = none) (hp : H p = some (.lst xs)) (rl : RepL K g F ds xs) (nc : c ≠ some p) (no : ¬ Own env σ p) : Rel K g c F (env.set i (.own ds)) m (σ.set i (some (.ref p))) H where
  sub := r.sub
  len := by rw [List.length_set, List.length_set, r.len]
  ck := r.ck
  slot := fun j s' e => by
    by_cases q : i = j
    · subst q
      by_cases z : i < env.length
      · rw [List.getElem?_set_self z] at e; cases e
        rw [List.getElem?_set_self (by rw [← r.len]; exact z)]; exact ⟨p, xs, rfl, nf, hp, rl, nc⟩
      · rw [List.set_eq_of_length_le (by omega)] at e; exact absurd (List.getElem?_eq_some_iff.mp e).1 (by omega)
    · rw [List.getElem?_set_ne q] at e ⊢
      exact r.slot j s' e
  sep := fun j k dj dk q e1 e2 e3 e4 => by
    by_cases a : i = j
    · by_cases b : i = k
      · omega
      · rw [List.getElem?_set_ne b] at e2 e4
        subst a
        by_cases z : i < σ.length
        · rw [List.getElem?_set_self z] at e3; cases e3; exact absurd ⟨k, dk, e2, e4⟩ no
        · rw [List.set_eq_of_length_le (by omega)] at e3; exact absurd (List.getElem?_eq_some_iff.mp e3).1 (by omega)
    · rw [List.getElem?_set_ne a] at e1 e3
      by_cases b : i = k
      · subst b
        by_cases z : i < σ.length
        · rw [List.getElem?_set_self z] at e4; cases e4; exact absurd ⟨j, dj, e1, e3⟩ no
        · rw [List.set_eq_of_length_le (by omega)] at e4; exact absurd (List.getElem?_eq_some_iff.mp e4).1 (by omega)
      · rw [List.getElem?_set_ne b] at e2 e4
        exact r.sep j k dj dk q e1 e2 e3 e4
theorem own_setO {i : Nat} {ds : List D} {p a : Addr} (l : env.length = σ.length) (h : Own (env.set i (.own ds)) (σ.set i (some (.ref p))) a) : a = p ∨ Own env σ a := by
  obtain ⟨j, ds', e1, e2⟩ := h
  by_cases q : i = j
  · subst q
    by_cases z : i < σ.length
    · rw [List.getElem?_set_self z] at e2; cases e2; exact .inl rfl
    · rw [List.set_eq_of_length_le (by omega)] at e2; exact absurd (List.getElem?_eq_some_iff.mp e2).1 (by omega)
  · rw [List.getElem?_set_ne q] at e1 e2
    exact .inr ⟨j, ds', e1, e2⟩
end

/-! ### simple statements -/
section
variable {g : Gp} {X : Cx} {st : Stmt} {sts : List Stmt} {e : Expr} {d : DE} {dl : DL} {s s1 s2 : DS} {t : DT} {pos : Pos}
def dSeq (s1 s2 : DS) : DS := fun env m E => s1 env m { E with nx := fun env' m' => s2 env' m' E }
def dNext : DS := fun env m E => E.nx env m
theorem gss_nil : GSs g X [] dNext := PSs.weak pss_nil fun D σ H ⟨c, F, env, m, E, r, h, o⟩ => o.nx σ H F env m r (r.evo (Fresh.refl r.sub r.ck)) h
theorem gss_cons (h1 : GS g X st s1) (h2 : GSs g X sts s2) : GSs g X (st :: sts) (dSeq s1 s2) := PSs.weak (pss_cons h1 h2) fun D σ H ⟨c, F, env, m, E, r, h, o⟩ =>
  ⟨c, F, env, m, _, r, h, o.next fun σ' H' F' env' m' r' v q => ⟨c, F', env', m', E, r', q, o.shift v⟩⟩
theorem gss_one (h1 : GS g X st s1) : GSs g X [st] s1 := pss_one h1
def dNever : DS := fun _ _ _ => False
theorem gs_never : GS g X st dNever := PS.weak ps_never fun D σ H ⟨_, _, _, _, _, _, h, _⟩ => h
theorem gss_never : GSs g X sts dNever := PSs.weak pss_never fun D σ H ⟨_, _, _, _, _, _, h, _⟩ => h
theorem gs_pass : GS g X (.Pass pos) dNext := PS.weak ps_pass fun D σ H ⟨c, F, env, m, E, r, h, o⟩ => o.nx σ H F env m r (r.evo (Fresh.refl r.sub r.ck)) h
def dBreak : DS := fun env m E => E.bk env m
def dCont : DS := fun env m E => E.ct env m
theorem gs_break : GS g X (.Break pos) dBreak := PS.weak ps_break fun D σ H ⟨c, F, env, m, E, r, h, o⟩ => o.bk σ H F env m r (r.evo (Fresh.refl r.sub r.ck)) h
theorem gs_cont : GS g X (.Continue pos) dCont := PS.weak ps_continue fun D σ H ⟨c, F, env, m, E, r, h, o⟩ => o.ct σ H F env m r (r.evo (Fresh.refl r.sub r.ck)) h
def dDrop (d : DE) : DS := fun env m E => d env m fun _ m1 => E.nx env m1
theorem gs_expr (he : GE g X e d) (hs : swapsWith e none pos.line X.env = pure false := by rfl) : GS g X (.Expr e pos) (dDrop d) := PS.weak (ps_expr he hs) fun D σ H ⟨c, F, env, m, E, r, h, o⟩ =>
  ⟨c, F, env, m, _, r, h, fun v H' F' m' x r' f rp q => o.nx σ H' F' env m' r' (r.evo f) q⟩
def dRet (d : DE) : DS := fun env m E => d env m E.rt
theorem gs_ret (he : GE g X e d) : GS g X (.Return (some e) pos) (dRet d) := PS.weak (ps_ret he) fun D σ H ⟨c, F, env, m, E, r, h, o⟩ =>
  ⟨c, F, env, m, _, r, h, fun v H' F' m' x r' f rp q => o.rt v H' F' m' x r'.ck (r.evo f).none rp q⟩
def dRetN : DS := fun _ m E => E.rt .non m
theorem gs_retN : GS g X (.Return none pos) dRetN := PS.weak ps_retN fun D σ H ⟨c, F, env, m, E, r, h, o⟩ => o.rt .non H F m .non r.ck (r.evo (Fresh.refl r.sub r.ck)).none .non h
/-- return x, x a list of one's own -/
def dRetO (i : Nat) : DS := fun env m E => ∃ ds, env[i]? = some (.own ds) ∧ E.rt (.lst ds) m
theorem gs_retO (i : Nat) {x : Str} {p1 : Pos} (hN : X.N[i]? = some x := by rfl) (hv : Vis X.env.scope x := by first | exact Or.inl rfl | exact Or.inr (Or.inl rfl) | exact Or.inr (Or.inr rfl)) (hd : (x == ("__debug__" : Str)) = false := by decide)
    (hcd : (x == ("__classdict__" : Str)) = false := by decide) : GS g X (.Return (some (.Name x p1)) pos) (dRetO i) := PS.weak (ps_ret (pe_var hN hv hd hcd)) fun D σ H ⟨c, F, env, m, E, r, ⟨ds, e1, q⟩, o⟩ => by
  obtain ⟨p, xs, e2, h1, h2, h3, h4⟩ := r.slot i _ e1
  have hc : ∀ a, c = some a → a ≠ p := fun a h z => h4 (z ▸ h)
  refine ⟨.ref p, e2, o.rt _ H (upd F p (.lst xs)) m (.lst ds) (fun a h => ⟨by rw [upd_ne (hc a h)]; exact (r.ck a h).1, (r.ck a h).2⟩) ?_ (.lst upd_same (h3.mono (Evl.Ex.new h1))) q⟩
  refine ⟨Evl.Ex.new h1, fun a u z => ?_, fun a u h _ _ => h, fun a u z => ?_, fun a h => by rw [upd_ne (hc a h)]; exact r.nc a h, fun _ z => z.elim⟩
  · by_cases y : a = p
    · subst y; rw [upd_same] at z; rw [← z]; exact h2
    · rw [upd_ne y] at z; exact r.sub a u z
  · by_cases y : a = p
    · subst y; exact .inr (.inr ⟨i, ds, e1, e2⟩)
    · rw [upd_ne y] at z; exact .inl z
def dIf (t : DT) (s1 s2 : DS) : DS := fun env m E => t env m fun b m1 => if b = true then s1 env m1 E else s2 env m1 E
theorem gs_if {cc : Expr} {a b : List Stmt} (hc : GT g X cc t) (ha : GSs g X a s1) (hb : GSs g X b s2) : GS g X (.If cc a b pos) (dIf t s1 s2) := PS.weak (ps_if hc ha hb) fun D σ H ⟨c, F, env, m, E, r, h, o⟩ =>
  ⟨c, F, env, m, _, r, h, fun x H1 F1 m1 r1 f1 q1 => by
    cases x with
    | true => exact ⟨c, F1, env, m1, E, r1, q1, o.shift (r.evo f1)⟩
    | false => exact ⟨c, F1, env, m1, E, r1, q1, o.shift (r.evo f1)⟩⟩
/-- x = e -/
def dAsg (i : Nat) (d : DE) : DS := fun env m E => d env m fun x m1 => E.nx (env.set i (.val x)) m1
def dAsgN (i : Nat) (d : DL) : DS := fun env m E => d env m fun ds m1 => E.nx (env.set i (.own ds)) m1
theorem evo_setV {K : PySem.W.Frag} {c : Option Addr} {F H F' H' : Hp} {env : Env'} {m : Nat} {σ : St} {i : Nat} {x : D} {v : V} (r : Rel K g c F env m σ H) (f : Fresh c F H F' H') : Evo c (Own env σ) F H (Own (env.set i (.val x)) (σ.set i (some v))) F' H' :=
  (r.evo f).sub fun a h => own_set r.len sl_no h
theorem asg_weak {t : TE} {i : Nat} (w : ∀ σ H Q, tD X.K g d σ H Q → t σ H Q) : ∀ D σ H, tSD X.K g (dAsg i d) D σ H → tAsg t (gName i) D σ H := fun D σ H ⟨c, F, env, m, E, r, h, o⟩ =>
  w σ H _ ⟨c, F, env, m, _, r, h, fun v H' F' m' x r' f rp q => o.nx _ H' F' _ m' (r'.setV rp) (evo_setV r f) q⟩
theorem asgN_weak {t : TE} {i : Nat} (w : ∀ σ H Q, tN X.K g dl σ H Q → t σ H Q) : ∀ D σ H, tSD X.K g (dAsgN i dl) D σ H → tAsg t (gName i) D σ H := fun D σ H ⟨c, F, env, m, E, r, h, o⟩ =>
  w σ H _ ⟨c, F, env, m, _, r, h, fun p H' F' m' ds xs r' f h0 hp hc h1 h2 q => by
    have no : ¬ Own env σ p := fun z => by obtain ⟨_, _, y⟩ := r.ownH z; rw [h0] at y; cases y
    refine o.nx _ H' F' _ m' (r'.setO hp h1 h2 hc no) ?_ q
    have v := r.evo f
    refine ⟨v.ff, v.fh, v.hh, v.new, v.nc, fun a z => ?_⟩
    rcases own_setO r.len z with rfl | y
    · exact ⟨hc, .inr h0⟩
    · exact v.own a y⟩
theorem gs_set {i : Nat} {x : Str} {pos' : Pos} (hN : X.N.Nodup) (hi : X.N[i]? = some x) (hx : Loc X.env.scope x) (he : GE g X e d) (hs : swapsWith e (some (.Name x pos')) pos.line X.env = pure false := by rfl)
    (hf : X.fn x = true ∨ X.env.scope.names.lookup x = some .local := by first | exact .inl rfl | exact .inr rfl | assumption) : GS g X (.Assign [.Name x pos'] e pos) (dAsg i d) := PS.weak (ps_set hN hi hx he hs hf) (asg_weak fun _ _ _ h => h)
theorem gs_setN {i : Nat} {x : Str} {pos' : Pos} (hN : X.N.Nodup) (hi : X.N[i]? = some x) (hx : Loc X.env.scope x) (he : GN g X e dl) (hs : swapsWith e (some (.Name x pos')) pos.line X.env = pure false := by rfl)
    (hf : X.fn x = true ∨ X.env.scope.names.lookup x = some .local := by first | exact .inl rfl | exact .inr rfl | assumption) : GS g X (.Assign [.Name x pos'] e pos) (dAsgN i dl) := PS.weak (ps_set hN hi hx he hs hf) (asgN_weak fun _ _ _ h => h)

/-! ### targets -/
/-- d goes to the target: the slots js alone change -/
structure GG (g : Gp) (X : Cx) (tg : Expr) (T : TG) (f : D → Env' → Option Env') (js : List Nat) : Prop where
  pg : PG X tg T
  ok : ∀ (c : Option Addr) (F : Hp) (env : Env') (m : Nat) (σ : St) (H : Hp) (d : D) (v : V) (env2 : Env') (Q : St → Hp → Prop), Rel X.K g c F env m σ H → Rep X.K g F d v → f d env = some env2 →
    (∀ σ2, Rel X.K g c F env2 m σ2 H → (∀ a, Own env2 σ2 a → Own env σ a) → σ2.length = σ.length → (∀ i, i ∉ js → σ2[i]? = σ[i]?) → Q σ2 H) → T v σ H Q
def tgN (j : Nat) : D → Env' → Option Env' := fun d env => some (env.set j (.val d))
theorem gg_name {j : Nat} {x : Str} (hN : X.N.Nodup) (hi : X.N[j]? = some x) (hx : Loc X.env.scope x) (hf : X.fn x = true ∨ X.env.scope.names.lookup x = some .local := by first | exact .inl rfl | exact .inr rfl | assumption) : GG g X (.Name x pos) (gName j) (tgN j) [j] :=
  ⟨pg_name hN hi hx hf, fun c F env m σ H d v env2 Q r rp e k => by
    cases e
    exact k _ (r.setV rp) (fun a h => own_set r.len sl_no h) (List.length_set ..) fun i hi => List.getElem?_set_ne (fun z => hi (by simp [z]))⟩
/-- several targets -/
structure GGs (g : Gp) (X : Cx) (tgs : List Expr) (T : TGs) (f : List D → Env' → Option Env') (js : List Nat) : Prop where
  pg : PGs X tgs T
  ok : ∀ (c : Option Addr) (F : Hp) (env : Env') (m : Nat) (σ : St) (H : Hp) (ds : List D) (vs : List V) (env2 : Env') (Q : St → Hp → Prop), Rel X.K g c F env m σ H → RepL X.K g F ds vs → f ds env = some env2 →
    (∀ σ2, Rel X.K g c F env2 m σ2 H → (∀ a, Own env2 σ2 a → Own env σ a) → σ2.length = σ.length → (∀ i, i ∉ js → σ2[i]? = σ[i]?) → Q σ2 H) → T vs σ H Q
def tgNil : List D → Env' → Option Env' := fun ds env => match ds with | [] => some env | _ => none
def tgCons (f : D → Env' → Option Env') (fs : List D → Env' → Option Env') : List D → Env' → Option Env' := fun ds env => match ds with | d :: r => (f d env).bind (fs r) | [] => none
theorem ggs_nil : GGs g X [] gNil tgNil [] := ⟨pgs_nil, fun c F env m σ H ds vs env2 Q r rp e k => by
  cases ds with
  | nil => cases rp; cases e; exact ⟨rfl, k σ r (fun _ h => h) rfl fun _ _ => rfl⟩
  | cons _ _ => cases e⟩
theorem ggs_cons {tg : Expr} {tgs : List Expr} {T : TG} {Gs : TGs} {f : D → Env' → Option Env'} {fs : List D → Env' → Option Env'} {js ks : List Nat} (h1 : GG g X tg T f js) (h2 : GGs g X tgs Gs fs ks)
    (hs : (assignEach (tg :: tgs) X.env).map (·.2) = assign tg X.env :: (assignEach tgs X.env).map (·.2) := by rfl) : GGs g X (tg :: tgs) (gCons T Gs) (tgCons f fs) (js ++ ks) := ⟨pgs_cons h1.pg h2.pg hs, fun c F env m σ H ds vs env2 Q r rp e k => by
  cases ds with
  | nil => cases e
  | cons d ds =>
    cases rp with
    | cons rp1 rp2 =>
      obtain ⟨env1, e1, e2⟩ := Option.bind_eq_some_iff.mp (show (f d env).bind (fs ds) = some env2 from e)
      refine ⟨_, _, rfl, h1.ok c F env m σ H d _ env1 _ r rp1 e1 fun σ2 r2 o2 l2 a2 => h2.ok c F env1 m σ2 H ds _ env2 Q r2 rp2 e2 fun σ3 r3 o3 l3 a3 => k σ3 r3 (fun a h => o2 a (o3 a h)) (l3.trans l2) fun i hi => ?_⟩
      rw [List.mem_append] at hi
      exact (a3 i fun z => hi (.inr z)).trans (a2 i fun z => hi (.inl z))⟩
def tgT (fs : List D → Env' → Option Env') (n : Nat) : D → Env' → Option Env' := fun d env => match d with | .tup ds => if ds.length = n then fs ds env else none | _ => none
theorem gg_tup {tgs : List Expr} {Gs : TGs} {fs : List D → Env' → Option Env'} {js : List Nat} {k n : Nat} (hc : X.calm = true) (h : GGs g X tgs Gs fs js) (hn : (assignEach tgs X.env).length = n := by rfl) (hst : (assignEach tgs X.env).findIdx? (·.1) = none := by rfl) :
    GG g X (.Tuple tgs k pos) (gTup X.K n Gs) (tgT fs n) js := ⟨pg_tup hc h.pg hn hst, fun c F env m σ H d v env2 Q r rp e kk => by
  cases d with
  | tup ds =>
    simp only [tgT] at e
    split at e
    · rename_i hl
      cases rp with
      | tup q rl => exact ⟨_, _, rfl, Evl.ex_t r.sub q, by rw [rl.length]; exact hl, h.ok c F env m σ H ds _ env2 Q r rl e kk⟩
    · cases e
  | _ => cases e⟩
/-- target = e -/
def dAsgT (f : D → Env' → Option Env') (d : DE) : DS := fun env m E => d env m fun x m1 => ∃ env2, f x env = some env2 ∧ E.nx env2 m1
theorem gs_asg {tg : Expr} {T : TG} {f : D → Env' → Option Env'} {js : List Nat} (he : GE g X e d) (hg : GG g X tg T f js) (hs : swapsWithSole [tg] e pos.line X.env = pure false := by rfl) (hw : swappedStores [tg] e X.env = pure none := by rfl)
    (h1 : (assignEach [tg] X.env).map (·.2) = [assign tg X.env] := by rfl) : GS g X (.Assign [tg] e pos) (dAsgT f d) := PS.weak (ps_asg he hg.pg hs hw h1) fun D σ H ⟨c, F, env, m, E, r, h, o⟩ =>
  ⟨c, F, env, m, _, r, h, fun v H' F' m' x r' fr rp ⟨env2, e2, q⟩ => hg.ok c F' env m' σ H' x v env2 _ r' rp e2 fun σ2 r2 o2 _ _ => o.nx σ2 H' F' env2 m' r2 ((r.evo fr).sub o2) q⟩
/-- a, b = x, y (plain locals) -/
def dPar (i j : Nat) (d : DL) : DS := fun env m E => d env m fun ds m1 => ∃ x y, ds = [x, y] ∧ E.nx ((env.set i (.val x)).set j (.val y)) m1
theorem gs_par {i j : Nat} {x y : Str} {a b : Expr} {px py pt : Pos} {kt k2 pt2} (hc : X.calm = true) (hN : X.N.Nodup) (hi : X.N[i]? = some x) (hj : X.N[j]? = some y) (hij : i ≠ j)
    (hx : X.env.scope.names.lookup x = some .local) (hy : X.env.scope.names.lookup y = some .local) (ha : GAl g X [a, b] dl)
    (hw : swappedStores [.Tuple [.Name x px, .Name y py] kt pt] (.Tuple [a, b] k2 pt2) X.env = pure (some [x, y]))
    (hs : swapsWithSole [.Tuple [.Name x px, .Name y py] kt pt] (.Tuple [a, b] k2 pt2) pos.line X.env = pure false := by rfl) :
    GS g X (.Assign [.Tuple [.Name x px, .Name y py] kt pt] (.Tuple [a, b] k2 pt2) pos) (dPar i j dl) := PS.weak (ps_par hc hN hi hj hij hx hy ha hw hs) fun D σ H ⟨c, F, env, m, E, r, h, o⟩ =>
  ⟨c, F, env, m, _, r, h, fun vs H' F' m' ds r' f rp ⟨d1, d2, e1, q⟩ => by
    subst e1
    cases rp with
    | cons p1 t1 =>
      cases t1 with
      | cons p2 t2 =>
        cases t2
        refine ⟨_, _, rfl, o.nx _ H' F' _ m' ((r'.setV p1).setV p2) ((r.evo f).sub fun a h => ?_) q⟩
        exact own_set r.len sl_no (own_set (by rw [List.length_set, List.length_set, r.len]) sl_no h)⟩
end
end G
namespace G
open PySem L2

/-! ### what is walked: a list, a tuple, a text; alone, numbered, two of them side by side -/
inductive Src where
  | lst (a : Addr) | tup (a : Addr) | txt (x : Str)
def chars (x : Str) : List V := x.cps.toList.map fun c => V.str ⟨#[c]⟩
def Src.val : Src → V
  | .lst a => .ref a
  | .tup a => .ref a
  | .txt x => .str x
def Src.ok (K : PySem.W.Frag) (H : Hp) : Src → List V → Prop
  | .lst a, xs => SqL K H a xs
  | .tup a, xs => SqT K H a xs
  | .txt x, xs => xs = chars x
def Src.st (it : Addr) : Src → Nat → Heap → Prop
  | .lst a, i, h => h.IsListIter it a i
  | .tup a, i, h => h.IsTupleIter it a i
  | .txt x, i, h => ∃ t, h.IsStrIter it (strIterType x) x t i
theorem chars_get {x : Str} {i c : Nat} (h : x.cps[i]? = some c) : (chars x)[i]? = some (.str ⟨#[c]⟩) := by
  unfold chars
  rw [List.getElem?_map, Array.getElem?_toList, h]
  rfl
theorem chars_len (x : Str) : (chars x).length = x.cps.size := by unfold chars; rw [List.length_map, Array.length_toList]
section
variable {X : Cx} {pins : List (Addr × Obj)} {σ : St} {H : Hp} {s : Shared}
theorem Src.inj (I : Inv X pins σ H s) {S : Src} {xs ys : List V} (h : S.ok X.K H xs) (h' : S.ok X.K H ys) : xs = ys := by
  cases S with
  | lst a => exact I.list_inj h h'
  | tup a => exact I.tuple_inj h h'
  | txt x => exact Eq.trans h (Eq.symm h')
/-- a thing of the heap is none of the iterator's own objects -/
theorem sq_apart {P : Prop} (I : Inv X pins σ H s) {a b : Addr} (h : (∃ u, Rd H a u) ∨ ∃ o, X.K.lookup a = some o) (f : FpOk X pins H b) : a ≠ b := by
  intro e
  subst e
  obtain ⟨f0, _, _, f3, _⟩ := f
  rcases h with ⟨u, h⟩ | ⟨o, h⟩
  · rcases h with h | ⟨_, h⟩
    · rw [f0] at h; cases h
    · rw [f0] at h; cases h
  · have hb := I.ok.mod.kin a o h
    rcases f3 with q | q
    · exact I.ok.noex a o hb q
    · have := Heap.lt_size ((I.ok.bs a o hb).1)
      exact absurd this (Nat.not_lt.mpr q)
theorem sqL_there {K : PySem.W.Frag} {a : Addr} {xs : List V} (h : SqL K H a xs) : (∃ u, Rd H a u) ∨ ∃ o, K.lookup a = some o := by
  rcases h with h | ⟨o, _, _, h, _⟩
  · exact .inl ⟨_, h⟩
  · exact .inr ⟨o, h⟩
theorem sqT_there {K : PySem.W.Frag} {a : Addr} {xs : List V} (h : SqT K H a xs) : (∃ u, Rd H a u) ∨ ∃ o, K.lookup a = some o := by
  rcases h with h | ⟨o, _, _, h, _⟩
  · exact .inl ⟨_, h⟩
  · exact .inr ⟨o, h⟩
/-- what such an iterator draws, told where it stands -/
theorem Src.draws (I : Inv X pins σ H s) {A : Around} (hh : A.handled = none) {S : Src} {xs : List V} (ok : S.ok X.K H xs) {it : Addr} {i : Nat} (st : S.st it i s.heap) (f : FpOk X pins H it) :
    ∃ (fp : List Addr) (P : Nat → Value → Prop) (T : Nat → Heap → Prop), Draws X.prog X.w A it fp xs.length P T ∧ T i s.heap ∧ (∀ j h, T j h → S.st it j h) ∧ (∀ j u, P j u → ∃ v, xs[j]? = some v ∧ RelV v u) ∧ it ∈ fp ∧ ∀ b ∈ fp, b = it ∨ ∀ c, FpOk X pins H c → b ≠ c := by
  cases S with
  | lst a =>
    obtain ⟨its, rv, pl, _⟩ := I.list ok
    have na : a ≠ it := sq_apart (P := True) I (sqL_there ok) f
    have DD := Draws.list (prog := X.prog) (w := X.w) hh it a na its.toArray
    rw [List.size_toArray, ← rv.length] at DD
    refine ⟨[it, a], _, _, DD, ⟨st, pl.isList⟩, fun j h q => q.1, fun j u q => ?_, by simp, fun b hb => ?_⟩
    · have q' : its[j]? = some u := by simpa using q
      have hj : j < xs.length := by rw [rv.length]; exact (List.getElem?_eq_some_iff.mp q').1
      have e : xs[j]? = some xs[j] := List.getElem?_eq_getElem hj
      obtain ⟨u', h1, h2⟩ := rv.get e
      rw [q'] at h1
      cases h1
      exact ⟨_, e, h2⟩
    · rcases List.mem_cons.mp hb with e | e
      · exact .inl e
      · have e : b = a := by simpa using e
        subst e
        exact .inr fun c fc => sq_apart (P := True) I (sqL_there ok) fc
  | tup a =>
    obtain ⟨its, rv, pl, _⟩ := I.tuple ok
    have na : a ≠ it := sq_apart (P := True) I (sqT_there ok) f
    have DD := Draws.tuple (prog := X.prog) (w := X.w) hh it a na its.toArray
    rw [List.size_toArray, ← rv.length] at DD
    refine ⟨[it, a], _, _, DD, ⟨st, pl⟩, fun j h q => q.1, fun j u q => ?_, by simp, fun b hb => ?_⟩
    · have q' : its[j]? = some u := by simpa using q
      have hj : j < xs.length := by rw [rv.length]; exact (List.getElem?_eq_some_iff.mp q').1
      have e : xs[j]? = some xs[j] := List.getElem?_eq_getElem hj
      obtain ⟨u', h1, h2⟩ := rv.get e
      rw [q'] at h1
      cases h1
      exact ⟨_, e, h2⟩
    · rcases List.mem_cons.mp hb with e | e
      · exact .inl e
      · have e : b = a := by simpa using e
        subst e
        exact .inr fun c fc => sq_apart (P := True) I (sqT_there ok) fc
  | txt x =>
    have ok' : xs = chars x := ok
    subst ok'
    obtain ⟨t, st⟩ := st
    refine ⟨[it], _, _, chars_len x ▸ Draws.text hh it x t, st, fun j h q => ⟨t, q⟩, fun j u q => ?_, by simp, fun b hb => .inl (by simpa using hb)⟩
    obtain ⟨ch, u', h1, rfl⟩ := q
    exact ⟨_, chars_get h1, ⟨u', rfl⟩⟩
theorem Src.stay {S : Src} {it : Addr} {i : Nat} {h h' : Heap} (st : S.st it i h) (k : ∀ o, h.get? it = some o → h'.get? it = some o) : S.st it i h' := by
  cases S with
  | lst a => exact Heap.IsListIter.at st k
  | tup a => exact Heap.IsTupleIter.at st k
  | txt x => obtain ⟨t, o, ho, r⟩ := st; exact ⟨t, o, k o ho, r⟩
theorem Src.obj {S : Src} {it : Addr} {i : Nat} {h : Heap} (st : S.st it i h) : ∃ o, h.get? it = some o ∧ ∀ v, o.data ≠ .cell v := by
  cases S with
  | lst a => obtain ⟨o, e, _, d⟩ := st; exact ⟨o, e, fun v q => by rw [d] at q; cases q⟩
  | tup a => obtain ⟨o, e, _, d⟩ := st; exact ⟨o, e, fun v q => by rw [d] at q; cases q⟩
  | txt x => obtain ⟨t, o, e, _, d⟩ := st; exact ⟨o, e, fun v q => by rw [d] at q; cases q⟩
end
/-- how iter(v) begins, for a source -/
theorem Src.begins {X : Cx} {pins : List (Addr × Obj)} {σ : St} {H : Hp} {s : Shared} (I : Inv X pins σ H s) {S : Src} {xs : List V} (ok : S.ok X.K H xs) {u : Value} (r : RelV S.val u) :
    ∃ (o : Obj) (T : Heap → Prop), Begins u o T ∧ T s.heap ∧ ∀ (it : Addr) (h : Heap), h.get? it = some o → S.st it 0 h := by
  cases S with
  | lst a =>
    obtain ⟨its, rv, pl, _⟩ := I.list ok
    cases r
    exact ⟨_, _, begins_list a its.toArray, pl.isList, fun it h e => ⟨_, e, rfl, rfl⟩⟩
  | tup a =>
    obtain ⟨its, rv, pl, _⟩ := I.tuple ok
    cases r
    exact ⟨_, _, begins_tuple a its.toArray, pl, fun it h e => ⟨_, e, rfl, rfl⟩⟩
  | txt x =>
    obtain ⟨t, rfl⟩ := r
    exact ⟨_, _, begins_text x t, trivial, fun it h e => ⟨t, _, e, rfl, rfl⟩⟩

/-! ### zip of two sources -/
def ItZ (K : PySem.W.Frag) (S1 S2 : Src) : It :=
  ⟨fun i H => ∃ (xs ys : List V) (x y : V), S1.ok K H xs ∧ S2.ok K H ys ∧ xs[i]? = some x ∧ ys[i]? = some y,
   fun i H v H' => ∃ T x y, v = .ref T ∧ H T = none ∧ H' = upd H T (.tup [x, y]) ∧ (∀ xs, S1.ok K H xs → xs[i]? = some x) ∧ ∀ ys, S2.ok K H ys → ys[i]? = some y,
   fun i H => ∃ xs ys : List V, S1.ok K H xs ∧ S2.ok K H ys ∧ i = min xs.length ys.length⟩
def ZSt (S1 S2 : Src) (z TI TO i1 i2 : Addr) (i : Nat) (h : Heap) : Prop := IsZip h z TI TO .none ∧ IsTupOf2 h TI (.ref i1) (.ref i2) ∧ (∃ x y, IsTupOf2 h TO x y) ∧ S1.st i1 i h ∧ S2.st i2 i h
structure ZAp (z TI TO i1 i2 : Addr) : Prop where
  a : TI ≠ z
  b : TO ≠ z
  c : TI ≠ TO
  d : TI ≠ i1
  e : TI ≠ i2
  f : z ≠ i1
  g : z ≠ i2
  h : TO ≠ i1
  i : TO ≠ i2
  j : i1 ≠ i2
theorem zsep {X : Cx} {pins : List (Addr × Obj)} {H : Hp} {z TI TO i1 i2 : Addr} {fp1 fp2 : List Addr} (A : ZAp z TI TO i1 i2) (m1 : i1 ∈ fp1) (m2 : i2 ∈ fp2) (h1 : ∀ b ∈ fp1, b = i1 ∨ ∀ c, FpOk X pins H c → b ≠ c) (h2 : ∀ b ∈ fp2, b = i2 ∨ ∀ c, FpOk X pins H c → b ≠ c)
    (fz : FpOk X pins H z) (fT : FpOk X pins H TO) (f1 : FpOk X pins H i1) (f2 : FpOk X pins H i2) : ZipSep2 z TI TO i1 i2 fp1 fp2 :=
  { TIz := A.a, TOz := A.b, TITO := A.c, TIi1 := A.d, mem1 := m1, TIi2 := A.e, mem2 := m2,
    zf1 := fun q => (h1 z q).elim (fun e => A.f e) fun k => k z fz rfl, Tf1 := fun q => (h1 TO q).elim (fun e => A.h e) fun k => k TO fT rfl,
    zf2 := fun q => (h2 z q).elim (fun e => A.g e) fun k => k z fz rfl, Tf2 := fun q => (h2 TO q).elim (fun e => A.i e) fun k => k TO fT rfl,
    sep1_2 := fun q => (h2 i1 q).elim (fun e => A.j e) fun k => k i1 f1 rfl, sep2_1 := fun q => (h1 i2 q).elim (fun e => A.j e.symm) fun k => k i2 f2 rfl }
theorem turnZ {P : Program} {w : World} {K : PySem.W.Frag} {elts : List Expr} {kk : Nat} {tpos : Pos} {S1 S2 : Src} {z TI TO i1 i2 : Addr} (A : ZAp z TI TO i1 i2) :
    Turn P w K (.Tuple elts kk tpos) (ItZ K S1 S2) [z, TI, TO, i1, i2] z (ZSt S1 S2 z TI TO i1 i2) where
  mem := by simp
  obj := fun i h st c hc => by
    obtain ⟨hz, hTI, ⟨x, y, hTO⟩, s1, s2⟩ := st
    simp only [List.mem_cons, List.not_mem_nil, or_false] at hc
    rcases hc with rfl | rfl | rfl | rfl | rfl
    · exact ⟨_, hz, fun v q => nomatch q⟩
    · exact ⟨_, hTI, fun v q => nomatch q⟩
    · exact ⟨_, hTO, fun v q => nomatch q⟩
    · exact (Src.obj s1)
    · exact (Src.obj s2)
  keep := fun i h h' st k => by
    obtain ⟨hz, hTI, ⟨x, y, hTO⟩, s1, s2⟩ := st
    exact ⟨k z (by simp) _ hz, k TI (by simp) _ hTI, ⟨x, y, k TO (by simp) _ hTO⟩, Src.stay s1 (k i1 (by simp)), Src.stay s2 (k i2 (by simp))⟩
  item := by
    intro X hP hw hK hc i pins s σ H E I hf st hg
    subst hP hw hK
    obtain ⟨hz, hTI, ⟨x0, y0, hTO⟩, s1, s2⟩ := st
    obtain ⟨xs, ys, x, y, ok1, ok2, hx, hy⟩ := hg
    have hd : X.A.in1.handled = none := I.ok.hd hc
    obtain ⟨fp1, P1, T1, D1, t1, c1, r1, m1, a1⟩ := Src.draws I hd ok1 s1 (hf i1 (by simp))
    obtain ⟨fp2, P2, T2, D2, t2, c2, r2, m2, a2⟩ := Src.draws I hd ok2 s2 (hf i2 (by simp))
    have W := GoesN.zip2 (A := X.A) (elts := elts) (x1 := kk) (pos := tpos) (zsep A m1 m2 a1 a2 (hf z (by simp)) (hf TO (by simp)) (hf i1 (by simp)) (hf i2 (by simp))) D1 D2
    have l1 := (List.getElem?_eq_some_iff.mp hx).1
    have l2 := (List.getElem?_eq_some_iff.mp hy).1
    refine W.goes i s (fun u s2 => ∃ x H', Inv X pins σ H' s2 ∧ RelV x u ∧ (ItZ X.K S1 S2).yld i H x H' ∧ ZSt S1 S2 z TI TO i1 i2 (i + 1) s2.heap ∧ ∀ b ∈ [z, TI, TO, i1, i2], H' b = none) E (by omega) ⟨hz, hTI, ⟨x0, y0, hTO⟩, t1, t2⟩ fun v h' tk hY st' hk htk => ?_
    obtain ⟨T, u1, u2, rfl, hT, p1, p2, isT⟩ := hY
    obtain ⟨v1, e1, q1⟩ := r1 i u1 p1
    obtain ⟨v2, e2, q2⟩ := r2 i u2 p2
    rw [hx] at e1
    rw [hy] at e2
    cases e1
    cases e2
    have hn : H T = none := I.hok.fresh hT
    have new : ObjOk X.prog X.w (upd H T (.tup [x, y])) h' T (.tup [x, y]) := ⟨by show 2 ≤ sizeLine; decide, [u1, u2], .cons q1 (.cons q2 .nil), isT⟩
    have I1 := I.turnedNew (t' := tk) (h' := h') (ch := [z, TI, TO, i1, i2]) (fun b o hb e => hk b o (fun q => hb (by
      simp only [List.mem_cons, List.not_mem_nil, or_false] at q ⊢
      rcases q with q | q | q | q <;> simp [q])) e) hf hT new
    refine ⟨.ref T, _, I1, rfl, ⟨T, x, y, rfl, hn, rfl, fun l hl => by rw [Src.inj I hl ok1]; exact hx, fun l hl => by rw [Src.inj I hl ok2]; exact hy⟩, ?_, fun b hb => ?_⟩
    · obtain ⟨hz', hTI', hTO', t1', t2'⟩ := st'
      exact ⟨hz', hTI', hTO', c1 _ _ t1', c2 _ _ t2'⟩
    · have hb0 := (hf b hb).1
      have hne : b ≠ T := fun e => by
        subst e
        have : ∃ o, s.heap.get? b = some o := by
          simp only [List.mem_cons, List.not_mem_nil, or_false] at hb
          rcases hb with rfl | rfl | rfl | rfl | rfl
          · exact ⟨_, hz⟩
          · exact ⟨_, hTI⟩
          · exact ⟨_, hTO⟩
          · obtain ⟨o, e, _⟩ := (Src.obj s1); exact ⟨o, e⟩
          · obtain ⟨o, e, _⟩ := (Src.obj s2); exact ⟨o, e⟩
        obtain ⟨o, e⟩ := this
        exact absurd (Heap.lt_size e) (Nat.not_lt.mpr hT)
      rw [upd_ne hne]
      exact hb0
  done := by
    intro X hP hw hK hc i pins s σ H E I hf st hg
    subst hP hw hK
    obtain ⟨hz, hTI, ⟨x0, y0, hTO⟩, s1, s2⟩ := st
    obtain ⟨xs, ys, ok1, ok2, hi⟩ := hg
    have hd : X.A.in1.handled = none := I.ok.hd hc
    obtain ⟨fp1, P1, T1, D1, t1, c1, r1, m1, a1⟩ := Src.draws I hd ok1 s1 (hf i1 (by simp))
    obtain ⟨fp2, P2, T2, D2, t2, c2, r2, m2, a2⟩ := Src.draws I hd ok2 s2 (hf i2 (by simp))
    have W := GoesN.zip2 (A := X.A) (elts := elts) (x1 := kk) (pos := tpos) (zsep A m1 m2 a1 a2 (hf z (by simp)) (hf TO (by simp)) (hf i1 (by simp)) (hf i2 (by simp))) D1 D2
    refine W.stops s (fun s1 => Inv X pins σ H s1) E (by rw [← hi]; exact ⟨hz, hTI, ⟨x0, y0, hTO⟩, t1, t2⟩) fun h' tk hk htk => ?_
    exact I.turnedL (t' := tk) (ch := [z, TI, TO, i1, i2]) (fun b o hb e => hk b o (fun q => hb (by
      simp only [List.mem_cons, List.not_mem_nil, or_false] at q ⊢
      rcases q with q | q | q | q <;> simp [q])) e) hf
  self := fun A' i s Q E st h => wpAny_pyIter_zip st.1 h
def iZipG (K : PySem.W.Frag) (ta : TA) : TI := fun σ H R => ta σ H fun vs H1 => ∃ S1 S2 xs ys, vs = [S1.val, S2.val] ∧ S1.ok K H1 xs ∧ S2.ok K H1 ys ∧ R (ItZ K S1 S2) H1
theorem pi_zipG {X : Cx} {e e2 : Expr} {ta : TA} {p pos tpos : Pos} {elts : List Expr} {kk : Nat} (hg : Gl X "zip") (hm : X.mg "zip" = none) (ha : PA X [e, e2] ta)
    (hs : starEach [e, e2] X.env = (false, eval e X.env) :: starEach [e2] X.env := by rfl) (hpl : (backTo pos (starEach [e2] X.env)).any (·.1) = false := by rfl) :
    PI X (.Tuple elts kk tpos) (.Call (.Name "zip" p) [e, e2] [] pos) (iZipG X.K ta) := by
  refine ⟨fun pins s σ H R I h => ?_⟩
  refine PyProof.Rows.Call_ (ld_blt I hg hm PyProof.Rows.boot_zip (PyProof.Rows.callWith_type1 (thn (ha.run pos pins s σ H _ I h) fun us s1 ⟨vs, H1, I1, r1, q1⟩ => ?_) hs hpl))
  obtain ⟨S1, S2, xs, ys, ex, ok1, ok2, q⟩ := q1
  subst ex
  obtain ⟨u1, u2, rfl, ru1, ru2⟩ := r1.two
  obtain ⟨o1, T1, B1, t1, k1⟩ := Src.begins I1 ok1 ru1
  obtain ⟨o2, T2, B2, t2, k2⟩ := Src.begins I1 ok2 ru2
  refine zip_begins2 B1 B2 t1 t2 fun h' hz hTI hTO g1 g2 hsz hk => wpAny_pyIter_zip hz ?_
  have I2 : Inv X pins σ H1 { s1 with heap := h' } := I1.kept (t' := s1.toks) hk
  refine ⟨s1.heap.objs.size + 4, [s1.heap.objs.size + 4, s1.heap.objs.size + 2, s1.heap.objs.size + 3, s1.heap.objs.size, s1.heap.objs.size + 1], _, _, H1, rfl, I2, turnZ (S1 := S1) (S2 := S2) ?_, ⟨hz, hTI, ⟨_, _, hTO⟩, k1 _ _ g1, k2 _ _ g2⟩, fun b hb => ?_, q⟩
  · generalize s1.heap.objs.size = N
    exact ⟨show (N + 2 : Nat) ≠ N + 4 by omega, show (N + 3 : Nat) ≠ N + 4 by omega, show (N + 2 : Nat) ≠ N + 3 by omega, show (N + 2 : Nat) ≠ N by omega, show (N + 2 : Nat) ≠ N + 1 by omega, show (N + 4 : Nat) ≠ N by omega, show (N + 4 : Nat) ≠ N + 1 by omega, show (N + 3 : Nat) ≠ N by omega, show (N + 3 : Nat) ≠ N + 1 by omega, show (N : Nat) ≠ N + 1 by omega⟩
  · have hle : s1.heap.objs.size ≤ b := by
      simp only [List.mem_cons, List.not_mem_nil, or_false] at hb
      rcases hb with rfl | rfl | rfl | rfl | rfl
      · exact Nat.le_add_right _ _
      · exact Nat.le_add_right _ _
      · exact Nat.le_add_right _ _
      · exact Nat.le_refl _
      · exact Nat.le_add_right _ _
    exact I1.fpOk hle (I1.hok.fresh hle)

/-! ### enumerate of a source -/
set_option maxHeartbeats 1000000 in
theorem meets_enum1 {v : Value} {o : Obj} {T : Heap → Prop} (B : Begins v o T) :
    Meets (Builtin.«enumerate.__new__» ⟨[.type "enumerate", v], []⟩) (fun _ R s => T s.heap ∧
      R (.ok (.ret (.ref (s.heap.push o).objs.size))) { s with heap := (s.heap.push o).push { cls := .type "enumerate", data := .fields #[.none, .bool false, .ref s.heap.objs.size, rawInt 0, .none, .none] } }) :=
  .of_wp fun prog w A R s h => by
    obtain ⟨hp, gg, dd, tk, os⟩ := s
    obtain ⟨h1, h⟩ := h
    have hsub := sub_enumerate
    have q1 : ∀ {A' : Around} {E : Value → Shared → Prop} {Q : Value → Shared → Prop}, Q (.ref hp.objs.size) ⟨hp.push o, gg, dd, tk, os⟩ → wpAny (model prog w) A' (pyIter v) Q E ⟨hp, gg, dd, tk, os⟩ :=
      fun q => B.iter prog w _ _ ⟨hp, gg, dd, tk, os⟩ _ h1 q
    wp_walk using q1
    refine wpAny_stack_any fun st => wpAny_pure ?_
    split
    · rename_i cc _ _ _ _ _
      cases (cc == Value.type "enumerate") <;> (wp_walk using q1; exact ⟨_, rfl, h⟩)
    · wp_walk using q1
      exact ⟨_, rfl, h⟩
theorem enum1_begins {prog : Program} {w : World} {A : Around} {E : Value → Shared → Prop} {s : Shared} {v : Value} {o : Obj} {T : Heap → Prop} {Q : Value → Shared → Prop} (B : Begins v o T) (h1 : T s.heap)
    (h : ∀ h', IsEnum h' (s.heap.objs.size + 1) s.heap.objs.size 0 .none → h'.get? s.heap.objs.size = some o → h'.objs.size = s.heap.objs.size + 2 →
      (∀ b o, s.heap.get? b = some o → h'.get? b = some o) → Q (.ref (s.heap.objs.size + 1)) { s with heap := h' }) :
    wpAny (model prog w) A (call (.type "enumerate") [v]) Q E s := by
  refine callType_new F.called_enumerate (by decide) (F.typeCall_enumerate_1 _) (F.newCall_enumerate_1 _) (fun obj => F.args_object_init_2 obj _) F.entry_enumerate_new (meets_enum1 B) ⟨h1, ?_⟩
  have hz : (s.heap.push o).objs.size = s.heap.objs.size + 1 := Heap.size_push ..
  show _ ∧ _
  rw [hz]
  have he : IsEnum ((s.heap.push o).push { cls := .type "enumerate", data := .fields #[.none, .bool false, .ref s.heap.objs.size, rawInt 0, .none, .none] }) (s.heap.objs.size + 1) s.heap.objs.size 0 .none := by
    have := Heap.get?_push_size (s.heap.push o) (o := { cls := .type "enumerate", data := .fields #[.none, .bool false, .ref s.heap.objs.size, rawInt 0, .none, .none] }) rfl
    rw [hz] at this
    exact this
  exact ⟨⟨_, he, rfl⟩, h _ he (Heap.get?_push_of_some _ (Heap.get?_push_size _ B.free)) (by rw [Heap.size_push, hz]) fun b o x => Heap.get?_push_of_some _ (Heap.get?_push_of_some _ x)⟩
def ItE (K : PySem.W.Frag) (S : Src) : It :=
  ⟨fun i H => ∃ (xs : List V) (x : V), S.ok K H xs ∧ xs[i]? = some x,
   fun i H v H' => ∃ T x, v = .ref T ∧ H T = none ∧ H' = upd H T (.tup [.int (i : Nat), x]) ∧ ∀ xs, S.ok K H xs → xs[i]? = some x,
   fun i H => ∃ xs : List V, S.ok K H xs ∧ i = xs.length⟩
def ESt (S : Src) (e it : Addr) (i : Nat) (h : Heap) : Prop := (∃ old, IsEnum h e it (0 + (i : Int)) old) ∧ S.st it i h
theorem turnE {P : Program} {w : World} {K : PySem.W.Frag} {elts : List Expr} {kk : Nat} {tpos : Pos} {S : Src} {e it : Addr} (hne : e ≠ it) :
    Turn P w K (.Tuple elts kk tpos) (ItE K S) [e, it] e (ESt S e it) where
  mem := by simp
  obj := fun i h st c hc => by
    obtain ⟨⟨old, he⟩, s1⟩ := st
    simp only [List.mem_cons, List.not_mem_nil, or_false] at hc
    rcases hc with rfl | rfl
    · exact ⟨_, he, fun v q => nomatch q⟩
    · exact (Src.obj s1)
  keep := fun i h h' st k => by
    obtain ⟨⟨old, he⟩, s1⟩ := st
    exact ⟨⟨old, k e (by simp) _ he⟩, Src.stay s1 (k it (by simp))⟩
  item := by
    intro X hP hw hK hc i pins s σ H E I hf st hg
    subst hP hw hK
    obtain ⟨⟨old, he⟩, s1⟩ := st
    obtain ⟨xs, x, ok1, hx⟩ := hg
    have hd : X.A.in1.handled = none := I.ok.hd hc
    obtain ⟨fp1, P1, T1, D1, t1, c1, r1, m1, a1⟩ := Src.draws I hd ok1 s1 (hf it (by simp))
    have nef : e ∉ fp1 := fun q => (a1 e q).elim (fun z => hne z) fun k => k e (hf e (by simp)) rfl
    have W := GoesN.enumFrom (A := X.A) (elts := elts) (x1 := kk) (pos := tpos) 0 D1 e hne nef m1
    have l1 := (List.getElem?_eq_some_iff.mp hx).1
    refine W.goes i s (fun u s2 => ∃ x H', Inv X pins σ H' s2 ∧ RelV x u ∧ (ItE X.K S).yld i H x H' ∧ ESt S e it (i + 1) s2.heap ∧ ∀ b ∈ [e, it], H' b = none) E l1 ⟨⟨old, he⟩, t1⟩ fun v h' tk hY st' hk htk => ?_
    obtain ⟨T, t, u1, rfl, hT, p1, isT⟩ := hY
    obtain ⟨v1, e1, q1⟩ := r1 i u1 p1
    rw [hx] at e1
    cases e1
    have hn : H T = none := I.hok.fresh hT
    have new : ObjOk X.prog X.w (upd H T (.tup [.int (i : Nat), x])) h' T (.tup [.int (i : Nat), x]) := ⟨by show 2 ≤ sizeLine; decide, [.int (0 + (i : Int)) t, u1], .cons ⟨t, by rw [Int.zero_add]⟩ (.cons q1 .nil), isT⟩
    have I1 := I.turnedNew (t' := tk) (h' := h') (ch := [e, it]) (fun b o hb q => hk b o hb q) hf hT new
    refine ⟨.ref T, _, I1, rfl, ⟨T, x, rfl, hn, rfl, fun l hl => by rw [Src.inj I hl ok1]; exact hx⟩, ?_, fun b hb => ?_⟩
    · obtain ⟨he', t1'⟩ := st'
      exact ⟨he', c1 _ _ t1'⟩
    · have hb0 := (hf b hb).1
      have hne : b ≠ T := fun z => by
        subst z
        have : ∃ o, s.heap.get? b = some o := by
          simp only [List.mem_cons, List.not_mem_nil, or_false] at hb
          rcases hb with rfl | rfl
          · exact ⟨_, he⟩
          · obtain ⟨o, z, _⟩ := (Src.obj s1); exact ⟨o, z⟩
        obtain ⟨o, z⟩ := this
        exact absurd (Heap.lt_size z) (Nat.not_lt.mpr hT)
      rw [upd_ne hne]
      exact hb0
  done := by
    intro X hP hw hK hc i pins s σ H E I hf st hg
    subst hP hw hK
    obtain ⟨⟨old, he⟩, s1⟩ := st
    obtain ⟨xs, ok1, hi⟩ := hg
    have hd : X.A.in1.handled = none := I.ok.hd hc
    obtain ⟨fp1, P1, T1, D1, t1, c1, r1, m1, a1⟩ := Src.draws I hd ok1 s1 (hf it (by simp))
    have nef : e ∉ fp1 := fun q => (a1 e q).elim (fun z => hne z) fun k => k e (hf e (by simp)) rfl
    have W := GoesN.enumFrom (A := X.A) (elts := elts) (x1 := kk) (pos := tpos) 0 D1 e hne nef m1
    refine W.stops s (fun s1 => Inv X pins σ H s1) E (by rw [← hi]; exact ⟨⟨old, he⟩, t1⟩) fun h' tk hk htk => ?_
    exact I.turnedL (t' := tk) (ch := [e, it]) (fun b o hb q => hk b o hb q) hf
  self := fun A' i s Q E st h => let ⟨⟨_, he⟩, _⟩ := st; wpAny_pyIter_enum he h
def iEnumG (K : PySem.W.Frag) (ta : TA) : TI := fun σ H R => ta σ H fun vs H1 => ∃ S xs, vs = [S.val] ∧ S.ok K H1 xs ∧ R (ItE K S) H1
theorem pi_enumG {X : Cx} {e : Expr} {ta : TA} {p pos tpos : Pos} {elts : List Expr} {kk : Nat} (hg : Gl X "enumerate") (hm : X.mg "enumerate" = none) (ha : PA X [e] ta) (hs : starEach [e] X.env = [(false, eval e X.env)] := by rfl) :
    PI X (.Tuple elts kk tpos) (.Call (.Name "enumerate" p) [e] [] pos) (iEnumG X.K ta) := by
  refine ⟨fun pins s σ H R I h => ?_⟩
  refine PyProof.Rows.Call_ (ld_blt I hg hm PyProof.Rows.boot_enumerate (PyProof.Rows.callWith_type1 (thn (ha.run pos pins s σ H _ I h) fun us s1 ⟨vs, H1, I1, r1, q1⟩ => ?_) hs rfl))
  obtain ⟨S, xs, ex, ok1, q⟩ := q1
  subst ex
  obtain ⟨u1, rfl, ru1⟩ := r1.one
  obtain ⟨o1, T1, B1, t1, k1⟩ := Src.begins I1 ok1 ru1
  refine enum1_begins B1 t1 fun h' he g1 hsz hk => wpAny_pyIter_enum he ?_
  have I2 : Inv X pins σ H1 { s1 with heap := h' } := I1.kept (t' := s1.toks) hk
  refine ⟨s1.heap.objs.size + 1, [s1.heap.objs.size + 1, s1.heap.objs.size], _, _, H1, rfl, I2, turnE (S := S) (Nat.succ_ne_self _), ⟨⟨.none, he⟩, k1 _ _ g1⟩, fun b hb => ?_, q⟩
  have hle : s1.heap.objs.size ≤ b := by
    simp only [List.mem_cons, List.not_mem_nil, or_false] at hb
    rcases hb with rfl | rfl
    · exact Nat.le_add_right _ _
    · exact Nat.le_refl _
  exact I1.fpOk hle (I1.hok.fresh hle)

/-! ### a source alone -/
def Src.J (K : PySem.W.Frag) : Src → It
  | .lst a => Itl K a
  | .tup a => Itt K a
  | .txt x => Its x
def iSrc (K : PySem.W.Frag) (te : TE) : TI := fun σ H R => te σ H fun v H1 => ∃ S xs, v = Src.val S ∧ S.ok K H1 xs ∧ R (S.J K) H1
theorem pi_src {X : Cx} {tg l : Expr} {tl : TE} (hl : PE X l tl) : PI X tg l (iSrc X.K tl) := by
  refine ⟨fun pins s σ H R I h => ?_⟩
  refine thn (hl.run pins s σ H _ I h) fun v s1 ⟨x, H1, I1, r1, S, xs, ex, ok, q⟩ => ?_
  subst ex
  cases S with
  | txt x =>
    obtain ⟨t, rfl⟩ := r1
    cases ha : x.cps.all (· < 128)
    · refine wpAny_pyIter_wide ha ?_
      exact pi_one (tk := s1.toks) I1 _ (turn_str _ x t "str_iterator" (.inr rfl)) ⟨_, Heap.get?_push_size _ rfl, rfl, rfl⟩ q
    · refine wpAny_pyIter_ascii ha ?_
      exact pi_one (tk := s1.toks) I1 _ (turn_str _ x t "str_ascii_iterator" (.inl rfl)) ⟨_, Heap.get?_push_size _ rfl, rfl, rfl⟩ q
  | lst a =>
    cases r1
    obtain ⟨its, rv, p, hz⟩ := I1.list ok
    refine wpAny_pyIter_list p.isList ?_
    exact pi_one (tk := s1.toks) I1 _ (turn_list a _) ⟨_, Heap.get?_push_size _ rfl, rfl, rfl⟩ q
  | tup a =>
    cases r1
    obtain ⟨its, rv, p, hz⟩ := I1.tuple ok
    refine wpAny_pyIter_tuple (show s1.heap.IsTuple a its.toArray from p) ?_
    exact pi_one (tk := s1.toks) I1 _ (turn_tuple a _) ⟨_, Heap.get?_push_size _ rfl, rfl, rfl⟩ q
end G
namespace G
open PySem L2

/-! ### what is walked, by data -/
def charsD (x : Str) : List D := x.cps.toList.map fun c => D.str ⟨#[c]⟩
def srcD : D → Option (List D)
  | .lst ds => some ds
  | .tup ds => some ds
  | .str s => some (charsD s)
  | _ => none
def enumD (ds : List D) : List D := ds.zipIdx.map fun p => .tup [.int (p.2 : Nat), p.1]
def zipD (as bs : List D) : List D := List.zipWith (fun a b => .tup [a, b]) as bs
def rangeD (a b : Int) : List D := (List.range (b - a).toNat).map fun i => .int (a + (i : Nat))
def WalkD (K : PySem.W.Frag) (g : Gp) (F : Hp) (lk : List (Addr × HO)) (J : It) (its : List D) : Prop := ∀ (i : Nat) (F2 H2 : Hp), Ex F F2 → Ex F2 H2 → (∀ p ∈ lk, H2 p.1 = some p.2) →
  (∀ d, its[i]? = some d → J.go i H2 ∧ ∀ x H3, J.yld i H2 x H3 → ∃ F3, New F2 H2 F3 H3 ∧ Rep K g F3 d x) ∧ (i = its.length → J.stop i H2)
def tI (K : PySem.W.Frag) (g : Gp) (bor : Bool) (di : DL) : TI := fun σ H R => ∃ c F env m Q, Rel K g c F env m σ H ∧ di env m Q ∧
  ∀ J H' F' m' its lk, Rel K g c F' env m' σ H' → Fresh c F H F' H' → (bor = false → lk = []) → (∀ p ∈ lk, H' p.1 = some p.2 ∧ c ≠ some p.1) → WalkD K g F' lk J its → Q its m' → R J H'
def GI (bor : Bool) (g : Gp) (X : Cx) (tg iter : Expr) (di : DL) : Prop := PI X tg iter (tI X.K g bor di)
theorem PI.weak {X : Cx} {tg e : Expr} {t t' : TI} (h : PI X tg e t) (w : ∀ σ H Q, t' σ H Q → t σ H Q) : PI X tg e t' := ⟨fun pins s σ H Q I q => h.run pins s σ H Q I (w σ H Q q)⟩
section
variable {g : Gp} {X : Cx} {tg e e2 : Expr} {d da db : DE} {dl di : DL} {pos p : Pos}
theorem gi_bor (h : GI false g X tg e di) : GI true g X tg e di := PI.weak h fun σ H R ⟨c, F, env, m, Q, r, hd, k⟩ => ⟨c, F, env, m, Q, r, hd, fun J H' F' m' its lk r' f hl hk w q => k J H' F' m' its lk r' f (fun z => nomatch z) hk w q⟩
/-- a source: its items as they are represented -/
def SrcR (K : PySem.W.Frag) (g : Gp) (F : Hp) (lk : List (Addr × HO)) (S : Src) (ds : List D) : Prop := ∃ xs, RepL K g F ds xs ∧ ∀ F2 H2, Ex F F2 → Ex F2 H2 → (∀ p ∈ lk, H2 p.1 = some p.2) → S.ok K H2 xs
theorem chars_rep {K : PySem.W.Frag} {F : Hp} (x : Str) : RepL K g F (charsD x) (chars x) := by
  unfold charsD chars
  induction x.cps.toList with
  | nil => exact .nil
  | cons c r ih => exact .cons (.str _) ih
theorem src_rep {K : PySem.W.Frag} {F : Hp} {x : D} {v : V} {ds : List D} (h : Rep K g F x v) (e : srcD x = some ds) : ∃ S, v = Src.val S ∧ SrcR K g F [] S ds := by
  cases h with
  | str s => cases e; exact ⟨.txt s, rfl, _, chars_rep s, fun _ _ _ _ _ => rfl⟩
  | lst h r => cases e; exact ⟨.lst _, rfl, _, r, fun F2 H2 e1 e2 _ => SqL.of (e2 _ _ (e1 _ _ h))⟩
  | tup h r => cases e; exact ⟨.tup _, rfl, _, r, fun F2 H2 e1 e2 _ => Evl.ex_t e2 (Evl.ex_t e1 h)⟩
  | _ => cases e
theorem src_repT {K : PySem.W.Frag} {c : Option Addr} {F H : Hp} {x : D} {v : V} {ds : List D} (h : RepT K g c F H x v) (e : srcD x = some ds) : ∃ S lk, v = Src.val S ∧ SrcR K g F lk S ds ∧ ∀ p ∈ lk, H p.1 = some p.2 ∧ c ≠ some p.1 := by
  cases x with
  | lst es =>
    cases e
    obtain ⟨p, xs, rfl, h1, h2, h3⟩ := h
    exact ⟨.lst p, [(p, .lst xs)], rfl, ⟨xs, h2, fun F2 H2 e1 e2 k => SqL.of (k (p, .lst xs) (by simp))⟩, fun q hq => by simp only [List.mem_singleton] at hq; subst hq; exact ⟨h1, h3⟩⟩
  | _ =>
    obtain ⟨S, e1, e2⟩ := src_rep (show Rep K g F _ v from h) e
    exact ⟨S, [], e1, e2, fun _ q => by cases q⟩
theorem SrcR.more {K : PySem.W.Frag} {F F' : Hp} {lk lk' : List (Addr × HO)} {S : Src} {ds : List D} (h : SrcR K g F lk S ds) (e : Ex F F') (s : ∀ p ∈ lk, p ∈ lk') : SrcR K g F' lk' S ds := by
  obtain ⟨xs, r, k⟩ := h
  exact ⟨xs, r.mono e, fun F2 H2 e1 e2 q => k F2 H2 (e.trans e1) e2 fun p hp => q p (s p hp)⟩
theorem walk_src {K : PySem.W.Frag} {F : Hp} {lk : List (Addr × HO)} {S : Src} {ds : List D} (h : SrcR K g F lk S ds) : WalkD K g F lk (S.J K) ds := by
  obtain ⟨xs, r, k⟩ := h
  intro i F2 H2 e1 e2 q
  have ok := k F2 H2 e1 e2 q
  have r2 := r.mono e1
  refine ⟨fun d hd => ?_, fun hi => ?_⟩
  · obtain ⟨v, hv, rv⟩ := r2.get hd
    cases S with
    | lst a => exact ⟨⟨xs, v, ok, hv⟩, fun x H3 ⟨e, y⟩ => by subst e; have := y xs ok; rw [hv] at this; cases this; exact ⟨F2, New.refl e2, rv⟩⟩
    | tup a => exact ⟨⟨xs, v, ok, hv⟩, fun x H3 ⟨e, y⟩ => by subst e; have := y xs ok; rw [hv] at this; cases this; exact ⟨F2, New.refl e2, rv⟩⟩
    | txt x =>
      have ok' : xs = chars x := ok
      subst ok'
      have hl := (List.getElem?_eq_some_iff.mp hv).1
      rw [chars_len] at hl
      refine ⟨hl, fun y H3 ⟨e, c, hc, ey⟩ => ?_⟩
      subst e ey
      have := chars_get hc
      rw [hv] at this
      cases this
      exact ⟨F2, New.refl e2, rv⟩
  · have hl : i = xs.length := by rw [r.length]; exact hi
    cases S with
    | lst a => exact ⟨xs, ok, by omega⟩
    | tup a => exact ⟨xs, ok, by omega⟩
    | txt x =>
      have ok' : xs = chars x := ok
      subst ok'
      rw [chars_len] at hl
      show x.cps.size ≤ i
      omega
def dISrc (d : DE) : DL := fun env m Q => d env m fun x m1 => ∃ ds, srcD x = some ds ∧ Q ds m1
theorem gi_src (he : GE g X e d) : GI false g X tg e (dISrc d) := PI.weak (pi_src he) fun σ H R ⟨c, F, env, m, Q, r, hd, k⟩ =>
  ⟨c, F, env, m, _, r, hd, fun v H' F' m' x r' f rp ⟨ds, e1, q⟩ => by
    obtain ⟨S, rfl, sr⟩ := src_rep rp e1
    obtain ⟨xs, rl, ok⟩ := id sr
    exact ⟨S, xs, rfl, ok F' H' (fun _ _ h => h) r'.sub (fun _ z => by cases z), k _ H' F' m' ds [] r' f (fun _ => rfl) (fun _ z => by cases z) (walk_src sr) q⟩⟩
theorem gi_srcB (he : GB g X e d) : GI true g X tg e (dISrc d) := PI.weak (pi_src he) fun σ H R ⟨c, F, env, m, Q, r, hd, k⟩ =>
  ⟨c, F, env, m, _, r, hd, fun v H' F' m' x r' f rp ⟨ds, e1, q⟩ => by
    obtain ⟨S, lk, rfl, sr, hk⟩ := src_repT rp e1
    obtain ⟨xs, rl, ok⟩ := id sr
    exact ⟨S, xs, rfl, ok F' H' (fun _ _ h => h) r'.sub (fun p hp => (hk p hp).1), k _ H' F' m' ds lk r' f (fun z => nomatch z) hk (walk_src sr) q⟩⟩
/-! numbered -/
theorem enumD_get {ds : List D} {i : Nat} {d : D} (h : (enumD ds)[i]? = some d) : ∃ x, ds[i]? = some x ∧ d = .tup [.int (i : Nat), x] := by
  unfold enumD at h
  rw [List.getElem?_map, List.getElem?_zipIdx] at h
  cases q : ds[i]? with
  | none => rw [q] at h; cases h
  | some x => rw [q] at h; cases h; exact ⟨x, rfl, by simp⟩
theorem enumD_len (ds : List D) : (enumD ds).length = ds.length := by unfold enumD; rw [List.length_map, List.length_zipIdx]
theorem rep_pair {K : PySem.W.Frag} {F H : Hp} {T : Addr} {x y : V} {a b : D} (hT : H T = none) (e : Ex F H) (ra : Rep K g F a x) (rb : Rep K g F b y) : ∃ F3, New F H F3 (upd H T (.tup [x, y])) ∧ Rep K g F3 (.tup [a, b]) (.ref T) := by
  have n := New.fix (o := .tup [x, y]) e hT
  exact ⟨_, n, .tup (SqT.of upd_same) (.cons (ra.mono n.ff) (.cons (rb.mono n.ff) .nil))⟩
theorem walk_enum {K : PySem.W.Frag} {F : Hp} {lk : List (Addr × HO)} {S : Src} {ds : List D} (h : SrcR K g F lk S ds) : WalkD K g F lk (ItE K S) (enumD ds) := by
  obtain ⟨xs, r, k⟩ := h
  intro i F2 H2 e1 e2 q
  have ok := k F2 H2 e1 e2 q
  have r2 := r.mono e1
  refine ⟨fun d hd => ?_, fun hi => ?_⟩
  · obtain ⟨x, hx, rfl⟩ := enumD_get hd
    obtain ⟨v, hv, rv⟩ := r2.get hx
    refine ⟨⟨xs, v, ok, hv⟩, fun y H3 ⟨T, z, ey, hT, eH, hz⟩ => ?_⟩
    subst ey eH
    have := hz xs ok
    rw [hv] at this
    cases this
    exact rep_pair hT e2 (.int _) rv
  · exact ⟨xs, ok, by rw [r.length, ← enumD_len ds]; exact hi⟩
def dIEnum (d : DE) : DL := fun env m Q => d env m fun x m1 => ∃ ds, srcD x = some ds ∧ Q (enumD ds) m1
variable {elts : List Expr} {kk : Nat} {tpos : Pos}
/-- one argument by data (a list of arguments of one expression) -/
theorem PA.one_weak {t : TE} {t' : TA} {es : Expr} (h : PE X es t) (hs : starEach [es] X.env = [(false, eval es X.env)]) : PA X [es] (tCons t tNil) := pa_cons h pa_nil hs
theorem gi_enum (hg : Gl X "enumerate") (hm : X.mg "enumerate" = none) (he : GE g X e d) (hs : starEach [e] X.env = [(false, eval e X.env)] := by rfl) : GI false g X (.Tuple elts kk tpos) (.Call (.Name "enumerate" p) [e] [] pos) (dIEnum d) :=
  PI.weak (pi_enumG hg hm (pa_cons he pa_nil hs) hs) fun σ H R ⟨c, F, env, m, Q, r, hd, k⟩ =>
  ⟨c, F, env, m, _, r, hd, fun v H' F' m' x r' f rp ⟨ds, e1, q⟩ => by
    obtain ⟨S, rfl, sr⟩ := src_rep rp e1
    obtain ⟨xs, rl, ok⟩ := id sr
    exact ⟨S, xs, rfl, ok F' H' (fun _ _ h => h) r'.sub (fun _ z => by cases z), k _ H' F' m' _ [] r' f (fun _ => rfl) (fun _ z => by cases z) (walk_enum sr) q⟩⟩
theorem gi_enumB (hg : Gl X "enumerate") (hm : X.mg "enumerate" = none) (he : GB g X e d) (hs : starEach [e] X.env = [(false, eval e X.env)] := by rfl) : GI true g X (.Tuple elts kk tpos) (.Call (.Name "enumerate" p) [e] [] pos) (dIEnum d) :=
  PI.weak (pi_enumG hg hm (pa_cons he pa_nil hs) hs) fun σ H R ⟨c, F, env, m, Q, r, hd, k⟩ =>
  ⟨c, F, env, m, _, r, hd, fun v H' F' m' x r' f rp ⟨ds, e1, q⟩ => by
    obtain ⟨S, lk, rfl, sr, hk⟩ := src_repT rp e1
    obtain ⟨xs, rl, ok⟩ := id sr
    exact ⟨S, xs, rfl, ok F' H' (fun _ _ h => h) r'.sub (fun p hp => (hk p hp).1), k _ H' F' m' _ lk r' f (fun z => nomatch z) hk (walk_enum sr) q⟩⟩
/-! side by side -/
theorem zipD_get {as bs : List D} {i : Nat} {d : D} (h : (zipD as bs)[i]? = some d) : ∃ x y, as[i]? = some x ∧ bs[i]? = some y ∧ d = .tup [x, y] := by
  unfold zipD at h
  rw [List.getElem?_zipWith] at h
  cases q : as[i]? with
  | none => rw [q] at h; cases h
  | some x =>
    cases q2 : bs[i]? with
    | none => rw [q, q2] at h; cases h
    | some y => rw [q, q2] at h; cases h; exact ⟨x, y, rfl, rfl, rfl⟩
theorem zipD_len (as bs : List D) : (zipD as bs).length = min as.length bs.length := by unfold zipD; rw [List.length_zipWith]
theorem walk_zip {K : PySem.W.Frag} {F : Hp} {lk : List (Addr × HO)} {S1 S2 : Src} {as bs : List D} (h1 : SrcR K g F lk S1 as) (h2 : SrcR K g F lk S2 bs) : WalkD K g F lk (ItZ K S1 S2) (zipD as bs) := by
  obtain ⟨xs, r, k⟩ := h1
  obtain ⟨ys, r', k'⟩ := h2
  intro i F2 H2 e1 e2 q
  have ok := k F2 H2 e1 e2 q
  have ok' := k' F2 H2 e1 e2 q
  refine ⟨fun d hd => ?_, fun hi => ?_⟩
  · obtain ⟨x, y, hx, hy, rfl⟩ := zipD_get hd
    obtain ⟨v, hv, rv⟩ := (r.mono e1).get hx
    obtain ⟨w, hw, rw'⟩ := (r'.mono e1).get hy
    refine ⟨⟨xs, ys, v, w, ok, ok', hv, hw⟩, fun u H3 ⟨T, a, b, eu, hT, eH, ha, hb⟩ => ?_⟩
    subst eu eH
    have z1 := ha xs ok
    have z2 := hb ys ok'
    rw [hv] at z1
    rw [hw] at z2
    cases z1
    cases z2
    exact rep_pair hT e2 rv rw'
  · exact ⟨xs, ys, ok, ok', by rw [r.length, r'.length, ← zipD_len]; exact hi⟩
def dIZip (da db : DE) : DL := fun env m Q => da env m fun x m1 => db env m1 fun y m2 => ∃ as bs, srcD x = some as ∧ srcD y = some bs ∧ Q (zipD as bs) m2
theorem gi_zip (hg : Gl X "zip") (hm : X.mg "zip" = none) (he : GE g X e da) (he2 : GE g X e2 db) (hs : starEach [e, e2] X.env = (false, eval e X.env) :: starEach [e2] X.env := by rfl) (hs2 : starEach [e2] X.env = (false, eval e2 X.env) :: starEach [] X.env := by rfl)
    (hpl : (backTo pos (starEach [e2] X.env)).any (·.1) = false := by rfl) : GI false g X (.Tuple elts kk tpos) (.Call (.Name "zip" p) [e, e2] [] pos) (dIZip da db) :=
  PI.weak (pi_zipG hg hm (pa_cons he (pa_cons he2 pa_nil hs2) hs) hs hpl) fun σ H R ⟨c, F, env, m, Q, r, hd, k⟩ =>
  ⟨c, F, env, m, _, r, hd, fun v H1 F1 m1 x r1 f1 rp1 q1 => ⟨c, F1, env, m1, _, r1, q1, fun w H' F' m' y r' f' rp' ⟨as, bs, e1, e2, q⟩ => by
    obtain ⟨S1, rfl, s1⟩ := src_rep (rp1.mono f'.ff) e1
    obtain ⟨S2, rfl, s2⟩ := src_rep rp' e2
    obtain ⟨xs, _, ok⟩ := id s1
    obtain ⟨ys, _, ok'⟩ := id s2
    exact ⟨S1, S2, xs, ys, rfl, ok F' H' (fun _ _ h => h) r'.sub (fun _ z => by cases z), ok' F' H' (fun _ _ h => h) r'.sub (fun _ z => by cases z), k _ H' F' m' _ [] r' (f1.trans f') (fun _ => rfl) (fun _ z => by cases z) (walk_zip s1 s2) q⟩⟩⟩
/-! ranges -/
theorem rangeD_get {a b : Int} {i : Nat} {d : D} (h : (rangeD a b)[i]? = some d) : i < (b - a).toNat ∧ d = .int (a + (i : Nat)) := by
  unfold rangeD at h
  rw [List.getElem?_map] at h
  cases q : (List.range (b - a).toNat)[i]? with
  | none => rw [q] at h; cases h
  | some j =>
    rw [q] at h
    cases h
    obtain ⟨h1, h2⟩ := List.getElem?_eq_some_iff.mp q
    rw [List.getElem_range] at h2
    subst h2
    exact ⟨by simpa using h1, rfl⟩
theorem rangeD_len (a b : Int) : (rangeD a b).length = (b - a).toNat := by unfold rangeD; rw [List.length_map, List.length_range]
theorem walk_range {K : PySem.W.Frag} {F : Hp} (a b : Int) : WalkD K g F [] (Itr a (b - a).toNat) (rangeD a b) := by
  intro i F2 H2 e1 e2 q
  refine ⟨fun d hd => ?_, fun hi => ?_⟩
  · obtain ⟨hl, rfl⟩ := rangeD_get hd
    refine ⟨hl, fun x H3 ⟨e, ex⟩ => ?_⟩
    subst e ex
    exact ⟨F2, New.refl e2, .int _⟩
  · rw [rangeD_len] at hi
    show (b - a).toNat ≤ i
    omega
def dIRng (d : DE) : DL := fun env m Q => d env m fun x m1 => ∃ n : Int, x = .int n ∧ -(2 ^ 62) ≤ n ∧ n < 2 ^ 62 ∧ Q (rangeD 0 n) m1
theorem gi_range (hg : Gl X "range") (hm : X.mg "range" = none) (he : GE g X e d) (hs : starEach [e] X.env = [(false, eval e X.env)] := by rfl) : GI false g X tg (.Call (.Name "range" p) [e] [] pos) (dIRng d) :=
  PI.weak (pi_range1 hg hm (pa_cons he pa_nil hs) hs) fun σ H R ⟨c, F, env, m, Q, r, hd, k⟩ =>
  ⟨c, F, env, m, _, r, hd, fun v H' F' m' x r' f rp ⟨n, e1, h1, h2, q⟩ => by
    subst e1
    cases rp
    refine ⟨n, rfl, h1, h2, k _ H' F' m' _ [] r' f (fun _ => rfl) (fun _ z => by cases z) ?_ q⟩
    have w := walk_range (K := X.K) (g := g) (F := F') 0 n
    rw [Int.sub_zero] at w
    exact w⟩
def dIRng2 (da db : DE) : DL := fun env m Q => da env m fun x m1 => db env m1 fun y m2 => ∃ a n : Int, x = .int a ∧ y = .int n ∧ -(2 ^ 62) ≤ a ∧ a < 2 ^ 62 ∧ -(2 ^ 62) ≤ n ∧ n < 2 ^ 62 ∧ Q (rangeD a n) m2
theorem gi_range2 (hg : Gl X "range") (hm : X.mg "range" = none) (he : GE g X e da) (he2 : GE g X e2 db) (hs : starEach [e, e2] X.env = [(false, eval e X.env), (false, eval e2 X.env)] := by rfl) (hs2 : starEach [e2] X.env = [(false, eval e2 X.env)] := by rfl) : GI false g X tg (.Call (.Name "range" p) [e, e2] [] pos) (dIRng2 da db) :=
  PI.weak (pi_range2 hg hm (pa_cons he (pa_cons he2 pa_nil hs2) (by rw [hs, hs2])) hs hs2) fun σ H R ⟨c, F, env, m, Q, r, hd, k⟩ =>
  ⟨c, F, env, m, _, r, hd, fun v H1 F1 m1 x r1 f1 rp1 q1 => ⟨c, F1, env, m1, _, r1, q1, fun w H' F' m' y r' f' rp' ⟨a, n, e1, e2, h1, h2, h3, h4, q⟩ => by
    subst e1 e2
    cases rp1
    cases rp'
    exact ⟨a, n, rfl, ⟨h1, h2, h3, h4⟩, k _ H' F' m' _ [] r' (f1.trans f') (fun _ => rfl) (fun _ z => by cases z) (walk_range a n) q⟩⟩⟩
end

/-! ### for, while -/
def ForR (f : D → Env' → Option Env') (body : DS) : List D → Env' → Nat → DEnds → Prop
  | [], env, m, E => E.nx env m
  | d :: ds, env, m, E => ∃ env2, f d env = some env2 ∧ body env2 m { E with nx := fun e' m' => ForR f body ds e' m' E, ct := fun e' m' => ForR f body ds e' m' E, bk := E.nx }
def dFor (di : DL) (f : D → Env' → Option Env') (body : DS) : DS := fun env m E => di env m fun its m1 => ForR f body its env m1 E
def dWhile (t : DT) (body : DS) : DS := fun env m E => ∃ W : Nat → Env' → Nat → Prop, (∃ k, W k env m) ∧ ∀ k env m, W k env m → t env m fun b m1 =>
  if b = true then body env m1 { E with nx := fun e' m' => ∃ k', k' < k ∧ W k' e' m', ct := fun e' m' => ∃ k', k' < k ∧ W k' e' m', bk := E.nx } else E.nx env m1
section
variable {g : Gp} {X : Cx} {tg iter : Expr} {di : DL} {T : TG} {f : D → Env' → Option Env'} {js : List Nat} {body : List Stmt} {s : DS} {t : DT} {pos : Pos}
theorem gs_for (hp : PassesOwn (model X.prog X.w) X.A X.env X.xe) (hc : X.calm = true) (hi : GI false g X tg iter di) (hg : GG g X tg T f js) (hb : GSs g X body s) (hs : ∀ x, foldedSetIterable iter X.env x = pure x := by intro _; rfl) :
    GS g X (.For tg iter body [] pos) (dFor di f s) := PS.weak (ps_for hp hc hi hg.pg hb hs) fun D σ H ⟨c, F, env, m, E, r, h, o⟩ =>
  ⟨c, F, env, m, _, r, h, fun J H1 F1 m1 its lk r1 f1 hl hk w q => by
    have hl := hl rfl
    subst hl
    have v1 := r.evo f1
    refine ⟨fun i k σ' H' => ∃ F' env' m', k = its.length - i ∧ i ≤ its.length ∧ Rel X.K g c F' env' m' σ' H' ∧ Evo c (Own env σ) F H (Own env' σ') F' H' ∧ Ex F1 F' ∧ ForR f s (its.drop i) env' m' E, ⟨its.length, F1, env, m1, rfl, Nat.zero_le _, r1, v1, fun _ _ h => h, q⟩, ?_⟩
    rintro i k σ' H' ⟨F', env', m', rfl, hi, r', v', e', q'⟩
    obtain ⟨go, stop⟩ := w i F' H' e' r'.sub (fun _ z => by cases z)
    by_cases hlt : i < its.length
    · have hd : its[i]? = some its[i] := List.getElem?_eq_getElem hlt
      rw [List.drop_eq_getElem_cons hlt] at q'
      obtain ⟨g1, g2⟩ := go _ hd
      obtain ⟨env2, e2, q2⟩ := q'
      refine .inr ⟨g1, fun σ2 H2 => ∃ F2 env2 m2, Rel X.K g c F2 env2 m2 σ2 H2 ∧ Evo c (Own env σ) F H (Own env2 σ2) F2 H2 ∧ Ex F1 F2 ∧ ForR f s (its.drop (i + 1)) env2 m2 E, fun σ2 H2 ⟨F2, env2, m2, a1, a2, a3, a4⟩ => ⟨its.length - (i + 1), by omega, F2, env2, m2, rfl, by omega, a1, a2, a3, a4⟩, fun x H3 y => ?_⟩
      obtain ⟨F3, n3, rp3⟩ := g2 x H3 y
      have r3 := r'.new n3
      have v3 := v'.trans (r'.evo (n3.fresh r'.ck))
      refine hg.ok c F3 env' m' σ' H3 _ x env2 _ r3 rp3 e2 fun σ4 r4 o4 _ _ => ?_
      have v4 := v3.sub o4
      refine ⟨c, F3, env2, m', _, r4, q2, ⟨fun σ5 H5 F5 env5 m5 r5 v5 q5 => ?_, fun σ5 H5 F5 env5 m5 r5 v5 q5 => ?_, fun σ5 H5 F5 env5 m5 r5 v5 q5 => ?_, fun u H5 F5 m5 y k5 v5 rp5 q5 => ?_⟩⟩
      · exact ⟨F5, env5, m5, r5, v4.trans v5, (e'.trans n3.ff).trans v5.ff, q5⟩
      · exact o.nx σ5 H5 F5 env5 m5 r5 (v4.trans v5) q5
      · exact ⟨F5, env5, m5, r5, v4.trans v5, (e'.trans n3.ff).trans v5.ff, q5⟩
      · exact o.rt u H5 F5 m5 y k5 (v4.trans v5) rp5 q5
    · have hi' : i = its.length := by omega
      refine .inl ⟨stop hi', ?_⟩
      rw [List.drop_eq_nil_of_le (by omega)] at q'
      exact o.nx σ' H' F' env' m' r' v' q'⟩
theorem gs_while {cc : Expr} (hp : PassesOwn (model X.prog X.w) X.A X.env X.xe) (hc : GT g X cc t) (hb : GSs g X body s) : GS g X (.While cc body [] pos) (dWhile t s) := PS.weak (ps_while hp hc hb) fun D σ H ⟨c, F, env, m, E, r, ⟨W, ⟨k0, w0⟩, turn⟩, o⟩ => by
  refine ⟨fun k σ' H' => ∃ F' env' m', Rel X.K g c F' env' m' σ' H' ∧ Evo c (Own env σ) F H (Own env' σ') F' H' ∧ W k env' m', ⟨k0, F, env, m, r, r.evo (Fresh.refl r.sub r.ck), w0⟩, ?_⟩
  rintro k σ' H' ⟨F', env', m', r', v', w'⟩
  refine ⟨c, F', env', m', _, r', turn k env' m' w', fun b H1 F1 m1 r1 f1 q => ?_⟩
  have v1 := v'.trans (r'.evo f1)
  cases b with
  | true =>
    refine ⟨fun σ2 H2 => ∃ k' F2 env2 m2, k' < k ∧ Rel X.K g c F2 env2 m2 σ2 H2 ∧ Evo c (Own env σ) F H (Own env2 σ2) F2 H2 ∧ W k' env2 m2, fun σ2 H2 ⟨k', F2, env2, m2, hk, a1, a2, a3⟩ => ⟨k', hk, F2, env2, m2, a1, a2, a3⟩, ?_⟩
    refine ⟨c, F1, env', m1, _, r1, q, ⟨fun σ5 H5 F5 env5 m5 r5 v5 ⟨k', hk, q5⟩ => ⟨k', F5, env5, m5, hk, r5, v1.trans v5, q5⟩, fun σ5 H5 F5 env5 m5 r5 v5 q5 => o.nx σ5 H5 F5 env5 m5 r5 (v1.trans v5) q5, fun σ5 H5 F5 env5 m5 r5 v5 ⟨k', hk, q5⟩ => ⟨k', F5, env5, m5, hk, r5, v1.trans v5, q5⟩, fun u H5 F5 m5 y k5 v5 rp5 q5 => o.rt u H5 F5 m5 y k5 (v1.trans v5) rp5 q5⟩⟩
  | false => exact o.nx σ' H1 F1 env' m1 r1 v1 q
end

/-! ### list comprehensions -/
theorem new_weak {g : Gp} {X : Cx} {d : DL} : ∀ σ H Q, tD X.K g (dNew d) σ H Q → tN X.K g d σ H Q := fun σ H Q ⟨c, F, env, m, Q1, r, hd, k⟩ => ⟨c, F, env, m, _, r, hd, fun p H' F' m' ds xs r' f h0 hp hc h1 h2 q => by
  have n := fix_fresh (K := X.K) f h0 hp hc h1
  exact k _ H' _ m' (.lst ds) (r.fresh n fun a e => ⟨n.nc a e, (r'.ck a e).2⟩) n (.lst upd_same (RepL.mono (Evl.Ex.new hp) h2)) q⟩
def wipeE (env : Env') : List Nat → Env'
  | [] => env
  | v :: vs => (wipeE env vs).set v .no
theorem Rel.wipe {K : PySem.W.Frag} {g : Gp} {c : Option Addr} {F H : Hp} {env : Env'} {m : Nat} {σ : St} (r : Rel K g c F env m σ H) : ∀ vs : List Nat, Rel K g c F (wipeE env vs) m (wipe σ vs) H
  | [] => r
  | _ :: vs => (Rel.wipe r vs).setNo
theorem wipe_get : ∀ (vs : List Nat) (σ : St) (i : Nat), (wipe σ vs)[i]? = if i ∈ vs then (σ[i]?).map (fun _ => none) else σ[i]?
  | [], σ, i => by simp [wipe]
  | v :: vs, σ, i => by
    unfold wipe
    by_cases h : v = i
    · subst h
      by_cases hl : v < σ.length
      · rw [List.getElem?_set_self (by rw [wipe_length]; exact hl)]
        simp [List.getElem?_eq_getElem hl]
      · rw [List.set_eq_of_length_le (by rw [wipe_length]; omega), wipe_get vs σ v]
        simp [List.getElem?_eq_none (show σ.length ≤ v by omega)]
    · rw [List.getElem?_set_ne h, wipe_get vs σ i]
      have : (i ∈ v :: vs) ↔ i ∈ vs := by simp [Ne.symm h]
      simp only [this]
theorem wipe_same {σ σ2 : St} {vs : List Nat} (l : σ2.length = σ.length) (h : ∀ i, i ∉ vs → σ2[i]? = σ[i]?) : L2.wipe σ2 vs = L2.wipe σ vs := by
  refine List.ext_getElem? fun i => ?_
  rw [wipe_get, wipe_get]
  by_cases hi : i ∈ vs
  · rw [if_pos hi, if_pos hi]
    by_cases hl : i < σ.length
    · rw [List.getElem?_eq_getElem hl, List.getElem?_eq_getElem (by rw [l]; exact hl)]
      rfl
    · rw [List.getElem?_eq_none (show σ.length ≤ i by omega), List.getElem?_eq_none (show σ2.length ≤ i by omega)]
  · rw [if_neg hi, if_neg hi, h i hi]
theorem wipe_wipe (σ : St) (vs : List Nat) : L2.wipe (L2.wipe σ vs) vs = L2.wipe σ vs := wipe_same (wipe_length σ vs) fun i hi => by rw [wipe_get, if_neg hi]
def LcR (f : D → Env' → Option Env') (dt : DT) (de : DE) (env : Env') : List D → Nat → (List D → Nat → Prop) → Prop
  | [], m, Q => Q [] m
  | d :: ds, m, Q => ∃ env2, f d env = some env2 ∧ dt env2 m fun b m1 => if b = true then de env2 m1 fun y m2 => LcR f dt de env ds m2 fun ys m3 => Q (y :: ys) m3 else LcR f dt de env ds m1 Q
def dLc (di : DL) (f : D → Env' → Option Env') (dt : DT) (de : DE) (vs : List Nat) : DL := fun env m Q => di env m fun its m1 => its.length ≤ LL ∧ LcR f dt de (wipeE env vs) its m1 Q
def dYes : DT := fun _ m Q => Q true m
def GTs (g : Gp) (X : Cx) (ifs : List Expr) (d : DT) : Prop := PTs X ifs (tT X.K g d)
theorem PTs.weak {X : Cx} {e : List Expr} {t t' : TT} (h : PTs X e t) (w : ∀ σ H Q, t' σ H Q → t σ H Q) : PTs X e t' := ⟨fun pins s σ H Q I q => h.run pins s σ H Q I (w σ H Q q)⟩
theorem gts_nil {g : Gp} {X : Cx} : GTs g X [] dYes := PTs.weak pts_nil fun σ H Q ⟨c, F, env, m, Q1, r, h, k⟩ => k true H F m r (Fresh.refl r.sub r.ck) h
theorem gts_one {g : Gp} {X : Cx} {e : Expr} {d : DT} (h : GT g X e d) : GTs g X [e] d := pts_one h
section
variable {g : Gp} {X : Cx} {elt tg iter : Expr} {ifs : List Expr} {scope : Scope} {own : List (Str × Nat)} {pos : Pos} {di : DL} {T : TG} {f : D → Env' → Option Env'} {js : List Nat} {dt : DT} {de : DE}
theorem lc_weak (vs : List Nat) (hj : ∀ j ∈ js, j ∈ vs) (hg : ∀ (c : Option Addr) (F : Hp) (env : Env') (m : Nat) (σ : St) (H : Hp) (d : D) (v : V) (env2 : Env') (Q : St → Hp → Prop), Rel X.K g c F env m σ H → Rep X.K g F d v → f d env = some env2 →
    (∀ σ2, Rel X.K g c F env2 m σ2 H → (∀ a, Own env2 σ2 a → Own env σ a) → σ2.length = σ.length → (∀ i, i ∉ js → σ2[i]? = σ[i]?) → Q σ2 H) → T v σ H Q) :
    ∀ σ H Q, tN X.K g (dLc di f dt de vs) σ H Q → tLc (tI X.K g true di) T (tT X.K g dt) (tD X.K g de) vs σ H Q := fun σ H Q ⟨c, F, env, m, Q1, r, h, k⟩ =>
  ⟨c, F, env, m, _, r, h, fun J H1 F1 m1 its lk r1 f1 _ hk w ⟨hz, q⟩ => fun Dl hD => by
    have nD : F1 Dl = none := ex_none r1.sub hD
    have cD : c ≠ some Dl := fun z => by obtain ⟨_, xs, e, _⟩ := r1.ck Dl z; rw [hD] at e; cases e
    have hD0 : H Dl = none := by
      cases z : H Dl with
      | none => rfl
      | some o => rw [f1.hh Dl o z cD] at hD; cases hD
    refine ⟨fun i kk H' => ∃ F' m' acc accD, kk = its.length - i ∧ i ≤ its.length ∧ Fresh c F1 H1 F' H' ∧ Ck g c m' F' H' ∧ F' Dl = none ∧ H' Dl = some (.lst acc) ∧ RepL X.K g F' accD acc ∧ accD.length ≤ i ∧ LcR f dt de (wipeE env vs) (its.drop i) m' (fun ys m3 => Q1 (accD ++ ys) m3), ⟨its.length, F1, m1, [], [], rfl, Nat.zero_le _, ?_, ?_, nD, upd_same, .nil, Nat.le_refl _, q⟩, ?_⟩
    · have n := New.lay (F := F1) (o := .lst []) r1.sub hD
      exact n.fresh r1.ck
    · exact r1.ck.new (New.lay r1.sub hD)
    · rintro i kk H' ⟨F', m', acc, accD, rfl, hi, fr, ck, nF, hA, rA, lA, q'⟩
      have r' := r1.fresh fr ck
      have lk' : ∀ p ∈ lk, H' p.1 = some p.2 := fun p hp => fr.hh p.1 p.2 (hk p hp).1 (hk p hp).2
      obtain ⟨go, stop⟩ := w i F' H' fr.ff r'.sub lk'
      by_cases hlt : i < its.length
      · have hd : its[i]? = some its[i] := List.getElem?_eq_getElem hlt
        rw [List.drop_eq_getElem_cons hlt] at q'
        obtain ⟨g1, g2⟩ := go _ hd
        obtain ⟨env2, e2, q2⟩ := q'
        refine .inr ⟨g1, fun H2 => ∃ F2 m2 acc2 accD2, Fresh c F1 H1 F2 H2 ∧ Ck g c m2 F2 H2 ∧ F2 Dl = none ∧ H2 Dl = some (.lst acc2) ∧ RepL X.K g F2 accD2 acc2 ∧ accD2.length ≤ i + 1 ∧ LcR f dt de (wipeE env vs) (its.drop (i + 1)) m2 (fun ys m3 => Q1 (accD2 ++ ys) m3), fun H2 ⟨F2, m2, acc2, accD2, a1, a2, a3, a4, a5, a6, a7⟩ => ⟨its.length - (i + 1), by omega, F2, m2, acc2, accD2, rfl, by omega, a1, a2, a3, a4, a5, a6, a7⟩, fun x H3 y => ?_⟩
        obtain ⟨F3, n3, rp3⟩ := g2 x H3 y
        have r3 := (r'.wipe vs).new n3
        have fr3 := fr.trans (n3.fresh ck)
        have ck3 := ck.new n3
        refine hg c F3 _ m' _ H3 _ x env2 _ r3 rp3 e2 fun σ4 r4 o4 l4 a4 => ⟨?_, ?_⟩
        · refine Eq.trans (wipe_same l4 fun j hj' => a4 j fun z => hj' (hj j z)) (wipe_wipe σ vs)
        · have keep : ∀ {F5 H5 : Hp}, Fresh c F3 H3 F5 H5 → F5 Dl = none ∧ H5 Dl = some (.lst acc) := fun {F5 H5} f5 => by
            have h3 : H3 Dl = some (.lst acc) := n3.hh _ _ hA
            refine ⟨?_, f5.hh _ _ h3 cD⟩
            cases z : F5 Dl with
            | none => rfl
            | some o =>
              rcases f5.new Dl o z with y | y
              · rcases n3.new Dl o y with u | u
                · rw [nF] at u; cases u
                · rw [hA] at u; cases u
              · rw [h3] at y; cases y
          refine ⟨c, F3, env2, m', _, r4, q2, fun b H5 F5 m5 r5 f5 q5 => ?_⟩
          cases b with
          | false =>
            obtain ⟨k1, k2⟩ := keep f5
            exact ⟨F5, m5, acc, accD, fr3.trans f5, r5.ck, k1, k2, (rA.mono n3.ff).mono f5.ff, by omega, q5⟩
          | true =>
            refine ⟨c, F5, env2, m5, _, r5, q5, fun v6 H6 F6 m6 y6 r6 f6 rp6 q6 => ?_⟩
            obtain ⟨k1, k2⟩ := keep (f5.trans f6)
            have lacc : acc.length = accD.length := rA.length
            have fr6 := (fr3.trans f5).trans f6
            refine ⟨acc, k2, ll' (by have : accD.length ≤ its.length := by omega
                                     omega), F6, m6, acc ++ [v6], accD ++ [y6], ⟨fr6.ff, fun a o z => ?_, fun a o z n => ?_, fr6.new, fr6.nc⟩, fun a z => ?_, k1, upd_same, (((rA.mono n3.ff).mono f5.ff).mono f6.ff).append (.cons rp6 .nil), ?_, ?_⟩
            · have : a ≠ Dl := fun e => by subst e; rw [k1] at z; cases z
              rw [upd_ne this]; exact fr6.fh a o z
            · have : a ≠ Dl := fun e => by subst e; rw [hD] at z; cases z
              rw [upd_ne this]; exact fr6.hh a o z n
            · have : a ≠ Dl := fun e => by subst e; exact cD z
              obtain ⟨b1, xs, b2, b3⟩ := r6.ck a z
              exact ⟨b1, xs, by rw [upd_ne this]; exact b2, b3⟩
            · rw [List.length_append, List.length_singleton]; omega
            · have : (fun ys m3 => Q1 (accD ++ [y6] ++ ys) m3) = fun ys m3 => Q1 (accD ++ y6 :: ys) m3 := by funext ys m3; rw [List.append_assoc]; rfl
              rw [this]; exact q6
      · have hi' : i = its.length := by omega
        refine .inl ⟨stop hi', ?_⟩
        rw [List.drop_eq_nil_of_le (by omega)] at q'
        have q'' : Q1 (accD ++ []) m' := q'
        rw [List.append_nil] at q''
        exact k Dl H' F' m' accD acc r' (f1.trans fr) hD0 nF cD hA rA q''⟩
theorem gn_lc (hc : X.calm = true) (hN : X.N.Nodup) (hi : GI true g X tg iter di) (ok : BlkOk X.N X.env.scope scope own)
    (hg : ∀ (s : Shared) (H : Hp) (C : Addr) (cl : List (Str × Addr)) (fp : List Addr), GG g (X.blk s H scope (compEnvC scope cl C X.env) fp) tg T f js) (ht : ∀ (s : Shared) (H : Hp) (C : Addr) (cl : List (Str × Addr)) (fp : List Addr), GTs g (X.blk s H scope (compEnvC scope cl C X.env) fp) ifs dt)
    (he : ∀ (s : Shared) (H : Hp) (C : Addr) (cl : List (Str × Addr)) (fp : List Addr), GE g (X.blk s H scope (compEnvC scope cl C X.env) fp) elt de) (hj : ∀ j ∈ js, j ∈ own.map (·.2) := by decide) (hs : ∀ x, foldedSetIterable iter X.env x = pure x := by intro _; rfl) :
    GN g X (.ListComp elt [⟨tg, iter, ifs, 0⟩] scope pos) (dLc di f dt de (own.map (·.2))) :=
  ⟨fun pins s σ H Q I q => (pe_lc (wi := tI X.K g true di) (g := T) (tt := tT X.K g dt) (te := tD X.K g de) hc hN hi ok (fun s H C cl fp => (hg s H C cl fp).pg) (fun s H C cl fp => ht s H C cl fp) (fun s H C cl fp => he s H C cl fp) hs).run pins s σ H Q I (lc_weak (T := T) _ hj (hg s H 0 [] []).ok σ H Q q)⟩
/-- x = [..], x a plain local -/
theorem lcs_weak0 {i : Nat} {s : DS} {vs : List Nat} {dl : DL} (w : ∀ σ H Q, tN X.K g dl σ H Q → tLc (tI X.K g true di) T (tT X.K g dt) (tD X.K g de) vs σ H Q) : ∀ D σ H, tSD X.K g (dAsgN i dl) D σ H → tAsg (tLc (tI X.K g true di) T (tT X.K g dt) (tD X.K g de) vs) (gName i) D σ H := asgN_weak w
theorem gs_setLcN {i : Nat} {y : Str} {py spos : Pos} (hc : X.calm = true) (hN : X.N.Nodup) (hy : X.N[i]? = some y) (hyl : X.env.scope.names.lookup y = some .local)
    (hsw : swapsWith (.ListComp elt [⟨tg, iter, ifs, 0⟩] scope pos) (some (.Name y py)) spos.line X.env = pure true) (hi : GI true g X tg iter di) (ok : BlkOk X.N X.env.scope scope own)
    (hg : ∀ (s : Shared) (H : Hp) (C : Addr) (cl : List (Str × Addr)) (fp : List Addr), GG g (X.blk s H scope (compEnvC scope cl C X.env) fp) tg T f js) (ht : ∀ (s : Shared) (H : Hp) (C : Addr) (cl : List (Str × Addr)) (fp : List Addr), GTs g (X.blk s H scope (compEnvC scope cl C X.env) fp) ifs dt)
    (he : ∀ (s : Shared) (H : Hp) (C : Addr) (cl : List (Str × Addr)) (fp : List Addr), GE g (X.blk s H scope (compEnvC scope cl C X.env) fp) elt de) (hj : ∀ j ∈ js, j ∈ own.map (·.2) := by decide) (hs : ∀ x, foldedSetIterable iter X.env x = pure x := by intro _; rfl) :
    GS g X (.Assign [.Name y py] (.ListComp elt [⟨tg, iter, ifs, 0⟩] scope pos) spos) (dAsgN i (dLc di f dt de (own.map (·.2)))) :=
  ⟨fun pins s σ H D I q => (ps_setLc (wi := tI X.K g true di) (g := T) (tt := tT X.K g dt) (te := tD X.K g de) hc hN hy hyl hsw hi ok (fun s H C cl fp => (hg s H C cl fp).pg) (fun s H C cl fp => ht s H C cl fp) (fun s H C cl fp => he s H C cl fp) hs).run pins s σ H D I (asgN_weak (lc_weak (T := T) _ hj (hg s H 0 [] []).ok) D σ H q)⟩
theorem gs_setLc {i : Nat} {y : Str} {py spos : Pos} (hc : X.calm = true) (hN : X.N.Nodup) (hy : X.N[i]? = some y) (hyl : X.env.scope.names.lookup y = some .local)
    (hsw : swapsWith (.ListComp elt [⟨tg, iter, ifs, 0⟩] scope pos) (some (.Name y py)) spos.line X.env = pure true) (hi : GI true g X tg iter di) (ok : BlkOk X.N X.env.scope scope own)
    (hg : ∀ (s : Shared) (H : Hp) (C : Addr) (cl : List (Str × Addr)) (fp : List Addr), GG g (X.blk s H scope (compEnvC scope cl C X.env) fp) tg T f js) (ht : ∀ (s : Shared) (H : Hp) (C : Addr) (cl : List (Str × Addr)) (fp : List Addr), GTs g (X.blk s H scope (compEnvC scope cl C X.env) fp) ifs dt)
    (he : ∀ (s : Shared) (H : Hp) (C : Addr) (cl : List (Str × Addr)) (fp : List Addr), GE g (X.blk s H scope (compEnvC scope cl C X.env) fp) elt de) (hj : ∀ j ∈ js, j ∈ own.map (·.2) := by decide) (hs : ∀ x, foldedSetIterable iter X.env x = pure x := by intro _; rfl) :
    GS g X (.Assign [.Name y py] (.ListComp elt [⟨tg, iter, ifs, 0⟩] scope pos) spos) (dAsg i (dNew (dLc di f dt de (own.map (·.2))))) :=
  ⟨fun pins s σ H D I q => (ps_setLc (wi := tI X.K g true di) (g := T) (tt := tT X.K g dt) (te := tD X.K g de) hc hN hy hyl hsw hi ok (fun s H C cl fp => (hg s H C cl fp).pg) (fun s H C cl fp => ht s H C cl fp) (fun s H C cl fp => he s H C cl fp) hs).run pins s σ H D I (asg_weak (fun σ H Q z => lc_weak (T := T) _ hj (hg s H 0 [] []).ok σ H Q (new_weak σ H Q z)) D σ H q)⟩
end
end G
namespace G
open PySem L2
open PySem.W (dataLe AllAlike Sortable EachIs sorted_data dataLt alike alikeAll)

section
variable {X : Cx}
/-! ### a new object, told by what stood before -/
theorem objok_get {P : Program} {w : World} {H : Hp} {h : Heap} {a : Addr} {o : HO} (x : ObjOk P w H h a o) : ∃ ob, h.get? a = some ob := by
  induction o with
  | lst xs => obtain ⟨_, _, _, _, e⟩ := x; exact ⟨_, e⟩
  | tup xs => obtain ⟨_, _, _, o, e, _⟩ := x; exact ⟨o, e⟩
  | dK kvs => obtain ⟨_, _, _, _, o, _, _, e, _⟩ := x; exact ⟨o, e⟩
  | dT kvs => obtain ⟨_, _, _, _, o, _, _, e, _⟩ := x; exact ⟨o, e⟩
  | set S n => obtain ⟨o, _, _, _, e, _⟩ := x; exact ⟨o, e⟩
  | ins C dx fs => obtain ⟨_, _, _, e, _⟩ := x; exact ⟨_, e⟩
  | own y => exact x
  | xd fs => obtain ⟨_, ⟨o, _, _, e, _⟩, _⟩ := x; exact ⟨o, e⟩
  | rng lo hi => obtain ⟨_, _, _, e⟩ := x; exact ⟨_, e⟩
  | frz ob u ih => exact ⟨ob, x.1⟩
  | tbl ps => exact ⟨_, x⟩
  | met f y => exact ⟨_, x⟩
  | ext φ => exact x.2.1
theorem laidN {pins : List (Addr × Obj)} {σ : St} {H : Hp} {s : Shared} {a : Addr} {o : HO} {h' : Heap} {g' : Array GenState} {t' : Nat} {d' : Drawn} (I : Inv X pins σ H s) (k : ∀ b u, s.heap.get? b = some u → h'.get? b = some u) (hp : ∀ u, s.heap.get? a ≠ some u) (hg : PyProof.Rows.AllBare g')
    (new : ObjOk X.prog X.w (upd H a o) h' a o) : H a = none ∧ Inv X pins σ (upd H a o) { s with heap := h', gens := g', drawn := d', toks := t' } := by
  have hn : H a = none := by
    cases q : H a with
    | none => rfl
    | some u => obtain ⟨ob, e⟩ := objok_get (I.hok a u q); exact absurd e (hp ob)
  have ne : ∀ b u, s.heap.get? b = some u → b ≠ a := fun b u e z => hp u (z ▸ e)
  refine ⟨hn, I.call (ch := []) ⟨fun b u q _ _ _ => k b u q, fun b u q _ _ _ => ⟨u.slots, k b u q⟩, fun b u q n _ => by rw [upd_ne (ne b u q)]; exact n, fun b u q _ => ⟨u, k b u q⟩, fun b xs q => by rw [upd_ne (ne_of_none q hn)]; exact q, fun b u xs q => by rw [upd_ne (ne_of_none q hn)]; exact q, fun b ps q => ⟨#[], by rw [upd_ne (ne_of_none q hn), q]; simp⟩⟩ (fun b u e => ?_) hg (fun _ z => nomatch z)⟩
  by_cases hb : b = a
  · subst hb; rw [upd_same] at e; cases e; exact new
  · rw [upd_ne hb] at e
    exact (I.hok b u e).stay (fun c v _ q => k c v q) (fun c q => by rw [upd_ne (ne_of_none q hn)]; exact q) fun c xs q => by rw [upd_ne (ne_of_none q hn)]; exact q
/-! ### list(text), sorted(text) -/
theorem vals_chars {x : Str} {acc : Array Value} (h : ItemsOf (SignAt x) acc x.cps.size) : Vals (chars x) acc.toList := by
  obtain ⟨hl, h⟩ := h
  have go : ∀ (cs : List Nat) (us : List Value) (k : Nat), cs.length = us.length → (∀ (j : Nat) (v : Value), us[j]? = some v → ∃ (u : Tok) (c : Nat), cs[j]? = some c ∧ v = Value.str ⟨#[c]⟩ u) → Vals (cs.map fun c => V.str ⟨#[c]⟩) us := by
    intro cs
    induction cs with
    | nil => intro us k hl _; cases us with
      | nil => exact .nil
      | cons _ _ => simp at hl
    | cons c r ih =>
      intro us k hl h
      cases us with
      | nil => simp at hl
      | cons u us =>
        obtain ⟨t, c', e1, e2⟩ := h 0 u rfl
        simp at e1
        subst e1
        exact .cons ⟨t, e2⟩ (ih us k (by simpa using hl) fun j v hj => by
          obtain ⟨t, c', e1, e2⟩ := h (j + 1) v (by simpa using hj)
          exact ⟨t, c', by simpa using e1, e2⟩)
  refine go x.cps.toList acc.toList 0 (by simp [hl]) fun j v hj => ?_
  obtain ⟨c, u, h1, h2⟩ := h j v (by simpa using hj)
  exact ⟨u, c, by simpa using h1, h2⟩
theorem cr_listStr (hc : X.calm = true) : CallR X (.type "list") (fun xs H Q => ∃ z : Str, xs = [.str z] ∧ z.length ≤ LL ∧ ∀ p, H p = none → Q (.ref p) (upd H p (.lst (chars z)))) := by
  intro pins s σ H xs us Q I r h
  obtain ⟨z, rfl, hz, q⟩ := h
  obtain ⟨u, rfl, t, rfl⟩ := r.one
  refine call_list_str (I.ok.hd hc) z t (fun h' tk acc c' hk hS hacc => ?_) (ll hz)
  have hn := I.hok.fresh (Nat.le_refl s.heap.objs.size)
  exact ⟨.ref _, upd H s.heap.objs.size (.lst (chars z)), I.laid (t' := tk) hk (Nat.le_refl _) ⟨ll (by rw [chars_len]; exact hz), acc.toList, c', vals_chars hacc, by simpa using hS⟩, rfl, q _ hn⟩

/-! ### sorted of data -/
/-- values and what they are, sorted by what they are -/
def sortV (ps : List (V × PyData)) : List (V × PyData) := ps.mergeSort (dataLe false fun p => p.2)
def rSortG (K : PySem.W.Frag) : List V → Hp → VK → Prop := fun vs H Q => ∃ (a : Addr) (ps : List (V × PyData)), vs = [.ref a] ∧ SqL K H a (ps.map (·.1)) ∧ (∀ p ∈ ps, Dp K H p.1 p.2 ∧ p.2.depth ≤ 60) ∧ AllAlike (ps.map (·.2)) ∧ Sortable (ps.map (·.2)) ∧ ps.length ≤ LL ∧
  ∀ p, H p = none → Q (.ref p) (upd H p (.lst ((sortV ps).map (·.1))))
theorem each_of_vals {β : Type} {f : β → V} {Rr : Value → β → Prop} : ∀ {bs : List β} {us : List Value}, Vals (bs.map f) us → (∀ b ∈ bs, ∀ u, RelV (f b) u → Rr u b) → EachIs Rr us bs
  | [], us, h, _ => by cases us with
    | nil => exact .nil
    | cons _ _ => cases h
  | b :: bs, us, h, k => by
    cases us with
    | nil => cases h
    | cons u us => cases h with
      | cons h t => exact .cons (k b (by simp) _ h) (each_of_vals t fun b' hb => k b' (by simp [hb]))
theorem vals_of_each {β : Type} {f : β → V} : ∀ {us : List Value} {bs : List β}, EachIs (fun u b => RelV (f b) u) us bs → Vals (bs.map f) us
  | _, _, .nil => .nil
  | _, _, .cons h t => .cons h (vals_of_each t)
theorem cr_sortG (hu : X.A.units + 64 < cLine) : CallR X (.builtin "sorted") (rSortG X.K) := by
  intro pins s σ H vs us Q I r h
  obtain ⟨a, ps, rfl, hs, hd, ha, hk, hl, q⟩ := h
  obtain ⟨its, rv, pl, _⟩ := I.list hs
  rw [Vals.ref1 r]
  have e1 : EachIs (fun u (b : V × PyData) => RelV b.1 u) its ps := each_of_vals (f := fun p : V × PyData => p.1) rv fun b _ u h => h
  have e2 : EachIs (fun u (b : V × PyData) => ∃ as, Reads s.heap u b.2 as) its ps := each_of_vals (f := fun p : V × PyData => p.1) rv fun b hb u h => Dp.reads I b.2 b.1 u (hd b hb).1 h
  refine sorted_data (enc := fun p : V × PyData => p.2) pl.isList e1 e2 ha hk (ll hl) (fun b hb => by have := (hd b hb).2; omega) fun out hlen eo => ?_
  obtain ⟨ep, he'⟩ := PyProof.Rows.sortedAll_at s.heap its out.toArray
  have hn := I.hok.fresh (Nat.le_succ s.heap.objs.size)
  have hL : ((sortV ps).map (·.1)).length ≤ sizeLine := by
    unfold sortV
    rw [List.length_map, List.length_mergeSort]
    exact ll hl
  exact ⟨.ref _, upd H (s.heap.objs.size + 1) (.lst ((sortV ps).map (·.1))), I.laid (t' := s.toks) (fun _ _ => PyProof.Rows.sortedAll_old) (Nat.le_succ _) ⟨hL, out, ep, vals_of_each (f := fun p : V × PyData => p.1) eo, he'⟩, rfl, q _ hn⟩
/-- sorted(text) -/
theorem cr_sortStr (hc : X.calm = true) (hu : X.A.units + 64 < cLine) : CallR X (.builtin "sorted") (fun xs H Q => ∃ z : Str, xs = [.str z] ∧ z.length ≤ LL ∧
    ∀ p, H p = none → Q (.ref p) (upd H p (.lst ((sortV ((z.cps.toList.map fun c => ((.str ⟨#[c]⟩ : V), PyData.str ⟨#[c]⟩)))).map (·.1))))) := by
  intro pins s σ H vs us Q I r h
  obtain ⟨z, rfl, hz, q⟩ := h
  obtain ⟨u, rfl, t, rfl⟩ := r.one
  refine PySem.Calls.call_function_entry PyProof.Rows.kind_sorted PyProof.Rows.plain_sorted PyProof.Rows.entry_sorted (PyProof.Rows.args_sorted1 _) ?_
  unfold Builtin.«sorted»
  refine wpAny_bind (m := checkCount "sorted" 1 1 _) (wpAny_pure ?_)
  refine wpAny_bind (wpAny_collect_str (A := X.A.in1) (I.ok.hd hc) z t (fun s' acc hk hg hd ho hacc => ?_) (ll hz))
  obtain ⟨sz, _⟩ := id hacc
  have hlen : acc.toList.length ≤ sizeLine := by rw [Array.length_toList, sz]; exact ll hz
  refine wpAny_bind (wpAny_newList ?_ hlen)
  have vv := vals_chars hacc
  let ps := z.cps.toList.map fun c => ((V.str ⟨#[c]⟩ : V), PyData.str ⟨#[c]⟩)
  have vp : Vals (ps.map (·.1)) acc.toList := by
    have e : ps.map (·.1) = chars z := by simp only [ps, List.map_map]; rfl
    rw [e]; exact vv
  have lp : acc.toList.length = ps.length := by rw [← vp.length, List.length_map]
  have pd : ∀ b ∈ ps, ∃ x : Str, b = (V.str x, PyData.str x) := fun b hb => by obtain ⟨c, _, rfl⟩ := List.mem_map.mp hb; exact ⟨_, rfl⟩
  have e1 : EachIs (fun u (b : V × PyData) => RelV b.1 u) acc.toList ps := each_of_vals (f := fun p : V × PyData => p.1) vp fun b _ u h => h
  have er : ∀ h : Heap, EachIs (fun u (b : V × PyData) => ∃ as, Reads h u b.2 as) acc.toList ps := fun h => each_of_vals (f := fun p : V × PyData => p.1) vp fun b hb u r => by
    obtain ⟨x, rfl⟩ := pd b hb
    obtain ⟨t', rfl⟩ := r
    exact ⟨[], .str x t'⟩
  have ha : AllAlike (ps.map (·.2)) := fun d hd d' hd' => by
    obtain ⟨b, hb, rfl⟩ := List.mem_map.mp hd
    obtain ⟨b', hb', rfl⟩ := List.mem_map.mp hd'
    obtain ⟨x, rfl⟩ := pd b hb
    obtain ⟨y, rfl⟩ := pd b' hb'
    rfl
  have hk2 : Sortable (ps.map (·.2)) := .inr fun d hd => by
    obtain ⟨b, hb, rfl⟩ := List.mem_map.mp hd
    obtain ⟨x, rfl⟩ := pd b hb
    constructor
    · intro z; cases z
    · intro _ z; cases z
  have hdp : ∀ d ∈ ps.map (·.2), X.A.in1.in1.units + d.depth < cLine := fun d hd => by
    obtain ⟨b, hb, rfl⟩ := List.mem_map.mp hd
    obtain ⟨x, rfl⟩ := pd b hb
    show X.A.units + 1 + 1 + (PyData.str x).depth < cLine
    simp only [PyData.depth]
    omega
  have oa : ({ s' with heap := s'.heap.push { cls := .type "list", data := .seq acc.toList.toArray } } : Shared).heap.get? s'.heap.objs.size = some (PyProof.Rows.seqObj "list" acc.toList.toArray 0) := Heap.get?_push_size _ rfl
  refine wpAny_bind (wpAny_holding (wpAny_call_entry PyProof.Rows.slot_list_sort ⟨_, oa, rfl⟩ PyProof.Rows.entry_list_sort ?body (PyProof.Rows.args_list_sort _)))
  case body =>
    refine PySem.W.list_sort_vals oa (PySem.W.SortsAt.data (PySem.W.each_map (R := fun v d => ∃ as, Reads _ v d as) (fun p : V × PyData => p.2) (er _)) ha hk2 hdp) hlen ?_
    refine ⟨_, rfl, wpAny_pure ⟨_, rfl, ?_⟩⟩
    have eo := PySem.W.sortVals_data (h' := PySem.W.sortingHeap ({ s' with heap := s'.heap.push { cls := .type "list", data := .seq acc.toList.toArray } } : Shared).heap s'.heap.objs.size acc.toList) (enc := fun p : V × PyData => p.2) false e1 (er _) ha
    obtain ⟨ep, he⟩ := PyProof.Rows.sortedHeap_at (out := (PySem.W.sortVals (PySem.W.dataKind (PySem.W.sortingHeap ({ s' with heap := s'.heap.push { cls := .type "list", data := .seq acc.toList.toArray } } : Shared).heap s'.heap.objs.size acc.toList) (ps.map (·.2))) false acc.toList acc.toList).toArray) oa
    have old : ∀ b o, s.heap.get? b = some o → (PyProof.Rows.sortedHeap ({ s' with heap := s'.heap.push { cls := .type "list", data := .seq acc.toList.toArray } } : Shared).heap s'.heap.objs.size acc.toList (PySem.W.sortVals (PySem.W.dataKind (PySem.W.sortingHeap ({ s' with heap := s'.heap.push { cls := .type "list", data := .seq acc.toList.toArray } } : Shared).heap s'.heap.objs.size acc.toList) (ps.map (·.2))) false acc.toList acc.toList).toArray).get? b = some o := fun b o e => by
      have e' := hk b o e
      have hlt := Heap.lt_size e'
      rw [PyProof.Rows.sortedHeap_old (Nat.ne_of_lt hlt) (by show b < (s'.heap.push _).objs.size; rw [Heap.size_push]; exact Nat.lt_succ_of_lt hlt)]
      exact Heap.get?_push_of_some _ e'
    have hp : ∀ u, s.heap.get? s'.heap.objs.size ≠ some u := fun u e => absurd (Heap.lt_size (hk _ u e)) (Nat.lt_irrefl _)
    have hL : ((sortV ps).map (·.1)).length ≤ sizeLine := by
      unfold sortV
      rw [List.length_map, List.length_mergeSort, ← lp]
      exact hlen
    obtain ⟨hn, J⟩ := laidN (o := .lst ((sortV ps).map (·.1))) (t' := s'.toks) (g' := s'.gens) (d' := s'.drawn) I old hp (by rw [hg]; exact I.bare) ⟨hL, _, ep, vals_of_each (f := fun p : V × PyData => p.1) eo, he⟩
    have fin := q _ hn
    obtain ⟨h0, g0, d0, t0, o0⟩ := s'
    have ho' : o0 = s.os := ho
    subst ho'
    exact ⟨.ref _, _, J, rfl, fin⟩
end
end G
namespace G
open PySem L2
section
variable {X : Cx}
/-! ### min, max of two texts -/
theorem two_strs {op : CmpOp} {prog : Program} {w : World} {A : Around} {E : Value → Shared → Prop} {s : Shared} {a b : Str} {t u : Tok} {fn : String} {Q : Value → Shared → Prop} (hh : A.handled = none) (bt : Nat → Nat → Bool)
    (two : (wpAny (model prog w) A.in1 (pyIter (.ref s.heap.objs.size)) (fun it s₂ => ∃ I fp wr n P St bt, it = .ref I ∧ Walks prog w A.in1 I fp wr n P St ∧ St 0 s₂.heap ∧ (∀ b ∈ fp, b < s₂.heap.objs.size) ∧ 0 < n ∧ CmpOf prog w A.in1 op P bt ∧
      ∀ v h' tk, P (argBest bt (n - 1)) v → (∀ b o, b ∉ wr → s₂.heap.get? b = some o → h'.get? b = some o) → Q v { s₂ with heap := h', toks := tk }) E
      { s with heap := s.heap.push { cls := .type "tuple", data := .seq #[.str a t, .str b u] } }) → wpAny (model prog w) A (call (.builtin fn) [.str a t, .str b u]) Q E s)
    (cmp : CmpOf prog w A.in1 op (fun i v => (#[Value.str a t, Value.str b u] : Array Value)[i]? = some v) bt)
    (h : ∀ h' tk, (∀ c o, s.heap.get? c = some o → h'.get? c = some o) → Q (if bt 1 0 = true then .str b u else .str a t) { s with heap := h', toks := tk }) :
    wpAny (model prog w) A (call (.builtin fn) [.str a t, .str b u]) Q E s := by
  have hT : (s.heap.push { cls := .type "tuple", data := .seq #[.str a t, .str b u] }).IsTuple s.heap.objs.size #[.str a t, .str b u] := ⟨_, Heap.get?_push_size _ rfl, rfl, 0, rfl⟩
  refine two (wpAny_pyIter_tuple hT ?_)
  have hsz : (s.heap.push { cls := .type "tuple", data := .seq #[.str a t, .str b u] }).objs.size = s.heap.objs.size + 1 := Heap.size_push ..
  refine ⟨_, [_, s.heap.objs.size], [_], _, _, _, bt, rfl, Walks.tuple (A := A.in1) hh _ s.heap.objs.size (by rw [hsz]; exact Nat.ne_of_lt (Nat.lt_succ_self _)) #[.str a t, .str b u], ⟨⟨_, Heap.get?_push_size _ rfl, rfl, rfl⟩, hT.push _⟩, fun c hc => ?_, by simp, cmp, fun v h' tk hP hk => ?_⟩
  · show c < ((s.heap.push _).push _).objs.size
    rw [Heap.size_push, hsz]
    simp only [List.mem_cons, List.not_mem_nil, or_false] at hc
    rcases hc with rfl | rfl
    · rw [hsz]; exact Nat.lt_succ_self _
    · exact Nat.lt_succ_of_lt (Nat.lt_succ_self _)
  · have hold : ∀ c o, s.heap.get? c = some o → h'.get? c = some o := fun c o e => by
      refine hk c o (fun hm => ?_) (Heap.get?_push_of_some _ (Heap.get?_push_of_some _ e))
      have e1 := List.mem_singleton.mp hm
      have := Heap.lt_size e
      rw [e1, hsz] at this
      exact Nat.lt_irrefl _ (Nat.lt_of_succ_lt this)
    have hP' : (#[Value.str a t, Value.str b u] : Array Value)[argBest bt 1]? = some v := hP
    have hv : v = if bt 1 0 = true then .str b u else .str a t := by
      have eb : argBest bt 1 = if bt 1 0 then 1 else 0 := rfl
      rw [eb] at hP'
      cases q : bt 1 0 with
      | true => rw [q] at hP'; simp at hP'; simp [hP']
      | false => rw [q] at hP'; simp at hP'; simp [hP']
    rw [hv]
    exact h h' tk hold
def strAt (a b : Str) (i : Nat) : Str := if i = 0 then a else b
theorem strAt_is {a b : Str} {t u : Tok} {i : Nat} {v : Value} (h : (#[Value.str a t, Value.str b u] : Array Value)[i]? = some v) : ∃ k, v = .str (strAt a b i) k := by
  match i, h with
  | 0, h => simp at h; exact ⟨t, by simp [strAt, h]⟩
  | 1, h => simp at h; exact ⟨u, by simp [strAt, h]⟩
  | i + 2, h => simp at h
theorem cmp_strs_lt {prog : Program} {w : World} {A : Around} {a b : Str} {t u : Tok} : CmpOf prog w A .Lt (fun i v => (#[Value.str a t, Value.str b u] : Array Value)[i]? = some v) (fun i j => sLt (strAt a b i) (strAt a b j)) := fun i j vi vj s Q E hi hj h => by
  obtain ⟨k, rfl⟩ := strAt_is hi
  obtain ⟨l, rfl⟩ := strAt_is hj
  exact PyProof.Rows.lt_str h
theorem cmp_strs_gt {prog : Program} {w : World} {A : Around} {a b : Str} {t u : Tok} : CmpOf prog w A .Gt (fun i v => (#[Value.str a t, Value.str b u] : Array Value)[i]? = some v) (fun i j => sLt (strAt a b j) (strAt a b i)) := fun i j vi vj s Q E hi hj h => by
  obtain ⟨k, rfl⟩ := strAt_is hi
  obtain ⟨l, rfl⟩ := strAt_is hj
  exact PySem.P.gt_str h
theorem cr_min2S (hc : X.calm = true) : CallR X (.builtin "min") (fun xs H Q => ∃ a b, xs = [.str a, .str b] ∧ Q (.str (if sLt b a then b else a)) H) := by
  intro pins s σ H xs us Q I r h
  obtain ⟨a, b, rfl, q⟩ := h
  obtain ⟨u, w', rfl, ⟨t, rfl⟩, ⟨t', rfl⟩⟩ := vals2 r
  refine two_strs (I.ok.hd hc) _ call_min_two cmp_strs_lt fun h' tk k => ⟨_, H, I.kept k, ?_, q⟩
  show RelV _ (if sLt b a = true then Value.str b t' else Value.str a t)
  by_cases hj : sLt b a = true
  · rw [if_pos hj, if_pos hj]; exact ⟨_, rfl⟩
  · rw [if_neg hj, if_neg hj]; exact ⟨_, rfl⟩
theorem cr_max2S (hc : X.calm = true) : CallR X (.builtin "max") (fun xs H Q => ∃ a b, xs = [.str a, .str b] ∧ Q (.str (if sLt a b then b else a)) H) := by
  intro pins s σ H xs us Q I r h
  obtain ⟨a, b, rfl, q⟩ := h
  obtain ⟨u, w', rfl, ⟨t, rfl⟩, ⟨t', rfl⟩⟩ := vals2 r
  refine two_strs (I.ok.hd hc) _ call_max_two cmp_strs_gt fun h' tk k => ⟨_, H, I.kept k, ?_, q⟩
  show RelV _ (if sLt a b = true then Value.str b t' else Value.str a t)
  by_cases hj : sLt a b = true
  · rw [if_pos hj, if_pos hj]; exact ⟨_, rfl⟩
  · rw [if_neg hj, if_neg hj]; exact ⟨_, rfl⟩
/-! ### list.count of flat data -/
theorem count_eqU {x : V} : ∀ {xs : List V} {us : List Value}, Vals xs us → xs.all flatV = true → us.countP (eqU x) = xs.countP fun y => eqV y x
  | _, _, .nil, _ => rfl
  | _, _, .cons h t, f => by
    simp only [List.all_cons, Bool.and_eq_true] at f
    rw [List.countP_cons, List.countP_cons, count_eqU t f.2, eqU_of h f.1]
def rCntF (K : PySem.W.Frag) : V → List V → Hp → VK → Prop := fun x xs H Q => ∃ (p : Addr) (ys : List V) (y : V), x = .ref p ∧ xs = [y] ∧ SqL K H p ys ∧ flatV y = true ∧ ys.all flatV = true ∧ Q (.int (ys.countP fun z => eqV z y : Nat)) H
theorem mt_countF : MtR X "list.count" (rCntF X.K) := by
  intro pins s σ H x xs v us Q I rx rxs h
  obtain ⟨p, ys, y, rfl, rfl, hs, fy, fys, q⟩ := h
  cases rx
  obtain ⟨u, rfl, ru⟩ := rxs.one
  obtain ⟨its, rv, ⟨⟨cls, dd, data, sl⟩, n, ho, hc, hdn, hd⟩, hlen⟩ := I.list hs
  simp only at hc hd
  subst hc hd
  refine call_meets PySem.F.slot_list_count ⟨_, ho, rfl⟩ PySem.F.entry_list_count (PySem.F.args_list_count_2 _ _)
    (SeqAt.list_countAt p its.toArray n dd sl u (eqU y)) ⟨ho, fun w hw => mem_eqAt ru fy rv fys w (by simpa using hw), ?_⟩
  refine ⟨.int (ys.countP fun z => eqV z y : Nat), H, I.tok _, ⟨s.toks, ?_⟩, q⟩
  rw [show (its.toArray.toList.countP (eqU y)) = ys.countP (fun z => eqV z y) from count_eqU rv fys]
/-! ### set(tuple of ints) -/
theorem cr_setTup (hc : X.calm = true) : CallR X (.type "set") (fun xs H Q => ∃ (a : Addr) (ns : List Int), xs = [.ref a] ∧ SqT X.K H a (ns.map V.int) ∧ ns.length ≤ 50 ∧ ∀ p n, H p = none → n ≤ ns.length → Q (.ref p) (upd H p (SetO X.w p (fun j => decide (j ∈ ns)) n))) := by
  intro pins s σ H xs us Q I r h
  obtain ⟨a, ns, rfl, hs, hl, q⟩ := h
  obtain ⟨its, rv, pl, _⟩ := I.tuple hs
  rw [Vals.ref1 r]
  refine call_set_tupI ns (I.ok.hd hc) pl (by simpa using rv.ints) (Nat.lt_of_le_of_lt (Nat.succ_le_succ hl) (by decide)) fun h' tk c R hcn k => ?_
  exact ⟨.ref _, _, I.laid (t' := tk) (o := SetO X.w s.heap.objs.size (fun j => decide (j ∈ ns)) c) k (Nat.le_refl _) (setO_new R), rfl, q _ c (I.hok.fresh (Nat.le_refl _)) hcn⟩
/-! ### text[::-1] -/
def tRevS (te : TE) : TE := fun σ H Q => te σ H fun x H1 => ∃ z : Str, x = .str z ∧ z.length ≤ LL ∧ Q (.str ⟨z.cps.toList.reverse.toArray⟩) H1
theorem rev_pick (z : Str) : ((Builtin.Str.strSliceIndices none none (-1) z.length).filterMap (z.cps[·]?)) = z.cps.toList.reverse := by
  rw [PyProof.Rows.picked_rev, PyProof.Rows.filterMap_get]
  · refine List.ext_getElem? fun i => ?_
    rw [List.map_map, List.getElem?_map]
    show Option.map _ ((List.range z.cps.size)[i]?) = _
    by_cases hi : i < z.cps.size
    · rw [List.getElem?_eq_getElem (by simpa using hi), List.getElem?_reverse (by simpa using hi)]
      simp only [List.getElem_range, Option.map_some, Function.comp]
      rw [Array.length_toList, Array.getElem?_toList, Array.getD_eq_getD_getElem?]
      show some ((z.cps[z.cps.size - 1 - i]?).getD 0) = _
      rw [Array.getElem?_eq_getElem (by omega)]
      rfl
    · rw [List.getElem?_eq_none (by simpa using hi), List.getElem?_eq_none (by simpa using hi)]
      rfl
  · intro i hi
    obtain ⟨k, hk, rfl⟩ := List.mem_map.mp hi
    have hk' : k < z.cps.size := List.mem_range.mp hk
    show z.cps.size - 1 - k < z.cps.size
    omega
theorem pe_revS {e : Expr} {te : TE} {k : Nat} {p1 p2 p3 pos : Pos} (he : PE X e te) : PE X (.Subscript e (.Slice none none (some (.UnaryOp .USub (.Constant (.int 1) k p1) p2)) p3) pos) (tRevS te) := by
  refine ⟨fun pins s σ H Q I h => ?_⟩
  refine PyProof.Rows.Subscript_ (thn (he.run pins s σ H _ I h) fun v s1 ⟨x, H1, I1, r1, q1⟩ => ?_)
  obtain ⟨z, ex, hz, q⟩ := q1
  subst ex
  obtain ⟨t, rfl⟩ := r1
  have hst : PO X (some (.UnaryOp .USub (.Constant (.int 1) k p1) p2)) (tPart (tUn (rU fun i => .int (-i)) (tC (.int 1)))) := po_some (pe_un un_neg pe_int)
  refine wpAny_Slice (thn (po_none.run pins s1 σ H1 (fun o H2 => o = none ∧ H2 = H1) I1 ⟨rfl, rfl⟩) fun vl s2 ⟨l, H2, I2, pl, el, e2⟩ => ?_)
  subst el e2
  refine thn (po_none.run pins s2 σ H2 (fun o H3 => o = none ∧ H3 = H2) I2 ⟨rfl, rfl⟩) fun vu s3 ⟨u, H3, I3, pu, eu, e3⟩ => ?_
  subst eu e3
  refine thn (hst.run pins s3 σ H3 (fun o H4 => o = some (-1) ∧ H4 = H3) I3 ⟨1, rfl, -1, rfl, rfl, rfl⟩) fun vs s4 ⟨o, H4, I4, ps, eo, e4⟩ => ?_
  subst eo e4
  have I5 : Inv X pins σ H4 { s4 with heap := s4.heap.push { cls := .type "slice", data := .fields #[vl, vu, vs] } } := I4.kept (t' := s4.toks) fun b ob q => Heap.get?_push_of_some _ q
  have el : vl = .none := by cases pl; rfl
  have eu : vu = .none := by cases pu; rfl
  obtain ⟨tk, es⟩ : ∃ tk, vs = .int (-1) tk := by cases ps; exact ⟨_, rfl⟩
  subst el eu es
  show wpAny (model X.prog X.w) X.A (PyProof.Rows.subscriptTail e (.Slice none none (some (.UnaryOp .USub (.Constant (.int 1) k p1) p2)) p3) (.str z t) (.ref s4.heap.objs.size)) (EP X pins σ Q) X.xe { s4 with heap := s4.heap.push { cls := .type "slice", data := .fields #[.none, .none, .int (-1) tk] } }
  refine PyProof.Rows.tail_any (ops := [.str z t, .ref s4.heap.objs.size]) (PySem.typeIs_str _ _ _) (PySem.F.slot_str_getitem.lookup) ?_ (by with_unfolding_all rfl)
  refine wpAny_getItem_str_slice (l := none) (u := none) (st := some (-1, tk)) ⟨_, Heap.get?_push_size _ rfl, rfl, rfl⟩ rfl ?_
  have e1 : ⟨((Builtin.Str.strSliceIndices none none (-1) z.length).filterMap (z.cps[·]?)).toArray⟩ = (⟨z.cps.toList.reverse.toArray⟩ : Str) := by rw [rev_pick]
  show Made.post (if ((-1 : Int) == 1 && (Builtin.Str.strSliceIndices none none (-1) z.length).length == z.length) = true then Made.val (.str z t)
    else Made.str ⟨((Builtin.Str.strSliceIndices none none (-1) z.length).filterMap (z.cps[·]?)).toArray⟩) (EP X pins σ Q) _
  rw [if_neg (by simp), e1]
  refine ⟨?_, .str _, _, I5.tok _, ⟨_, rfl⟩, q⟩
  show (z.cps.toList.reverse.toArray).size ≤ sizeLine
  rw [List.size_toArray, List.length_reverse, Array.length_toList]
  exact ll hz
end
end G
namespace G
open PySem L2
open PySem.W (dataLe AllAlike Sortable dataLt alike alikeAll)

/-! ### built-ins by data -/
def CallD (K : PySem.W.Frag) (g : Gp) (r : List V → Hp → VK → Prop) (f : List D → Option D) : Prop := ∀ (c : Option Addr) (F H : Hp) (xs : List D) (z : D) (vs : List V) (Q' : VK), Ex F H → (∀ a, c = some a → F a = none) →
  RepTs K g c F H xs vs → f xs = some z → (∀ v' H' F', New F H F' H' → Rep K g F' z v' → Q' v' H') → r vs H Q'
def CallN (K : PySem.W.Frag) (g : Gp) (r : List V → Hp → VK → Prop) (f : List D → Option (List D)) : Prop := ∀ (c : Option Addr) (F H : Hp) (xs : List D) (ds : List D) (vs : List V) (Q' : VK), Ex F H → (∀ a, c = some a → F a = none) →
  RepTs K g c F H xs vs → f xs = some ds → (∀ p H' F' ws, New F H F' H' → H p = none → F' p = none → H' p = some (.lst ws) → RepL K g F' ds ws → Q' (.ref p) H') → r vs H Q'
def dCallB (f : List D → Option D) (dl : DL) : DE := fun env m Q => dl env m fun xs m1 => ∃ z, f xs = some z ∧ Q z m1
def dCallN (f : List D → Option (List D)) (dl : DL) : DL := fun env m Q => dl env m fun xs m1 => ∃ z, f xs = some z ∧ Q z m1
section
variable {K : PySem.W.Frag} {g : Gp} {X : Cx} {e o : Expr} {es : List Expr} {dl : DL} {d : DE} {pos p : Pos} {x : Str}
theorem cb_weak {r : List V → Hp → VK → Prop} {f : List D → Option D} (cd : CallD X.K g r f) : ∀ σ H Q, tD X.K g (dCallB f dl) σ H Q → tCB r (tAb X.K g dl) σ H Q := fun σ H Q ⟨c, F, env, m, Q1, rl, hd, k⟩ =>
  ⟨c, F, env, m, _, rl, hd, fun vs H1 F1 m1 xs r1 f1 rp ⟨z, hz, q1⟩ => cd c F1 H1 xs z vs Q r1.sub r1.nc rp hz fun v' H' F' n rp' => k v' H' F' m1 z (r1.new n) (f1.trans (n.fresh r1.ck)) rp' q1⟩
theorem cn_weak {r : List V → Hp → VK → Prop} {f : List D → Option (List D)} (cd : CallN X.K g r f) : ∀ σ H Q, tN X.K g (dCallN f dl) σ H Q → tCB r (tAb X.K g dl) σ H Q := fun σ H Q ⟨c, F, env, m, Q1, rl, hd, k⟩ =>
  ⟨c, F, env, m, _, rl, hd, fun vs H1 F1 m1 xs r1 f1 rp ⟨z, hz, q1⟩ => cd c F1 H1 xs z vs Q r1.sub r1.nc rp hz fun p H' F' ws n h0 hp h1 rl' => by
    have cp : c ≠ some p := fun z => by obtain ⟨_, _, e, _⟩ := r1.ck p z; rw [e] at h0; cases h0
    refine k p H' F' m1 z ws (r1.new n) (f1.trans (n.fresh r1.ck)) ?_ hp cp h1 rl' q1
    cases q : H p with
    | none => rfl
    | some o => rw [f1.hh p o q cp] at h0; cases h0⟩
theorem ge_callB {id : String} {r : List V → Hp → VK → Prop} {f : List D → Option D} (hc : CallR X (.builtin id) r) (cd : CallD X.K g r f) (hg : Gl X x) (hm : X.mg x = none) (hv : bootBuiltins x = some (.builtin id)) (ha : GAb g X (e :: es) dl) (hn : x ≠ "__name__" := by decide) (hdb : (x == ("__debug__" : Str)) = false := by decide)
    (he : starEach (e :: es) X.env = (false, eval e X.env) :: starEach es X.env := by rfl) (hpl : (backTo pos (starEach es X.env)).any (·.1) = false := by rfl) : GE g X (.Call (.Name x p) (e :: es) [] pos) (dCallB f dl) := PE.weak (pe_callB hc hg hm hv ha hn hdb he hpl) (cb_weak cd)
theorem ge_callTy {T : String} {r : List V → Hp → VK → Prop} {f : List D → Option D} (hc : CallR X (.type T) r) (cd : CallD X.K g r f) (hg : Gl X x) (hm : X.mg x = none) (hv : bootBuiltins x = some (.type T)) (ha : GAb g X (e :: es) dl) (hn : x ≠ "__name__" := by decide) (hdb : (x == ("__debug__" : Str)) = false := by decide)
    (he : starEach (e :: es) X.env = (false, eval e X.env) :: starEach es X.env := by rfl) (hpl : (backTo pos (starEach es X.env)).any (·.1) = false := by rfl) : GE g X (.Call (.Name x p) (e :: es) [] pos) (dCallB f dl) := PE.weak (pe_callTy hc hg hm hv ha hn hdb he hpl) (cb_weak cd)
theorem gn_callB {id : String} {r : List V → Hp → VK → Prop} {f : List D → Option (List D)} (hc : CallR X (.builtin id) r) (cd : CallN X.K g r f) (hg : Gl X x) (hm : X.mg x = none) (hv : bootBuiltins x = some (.builtin id)) (ha : GAb g X (e :: es) dl) (hn : x ≠ "__name__" := by decide) (hdb : (x == ("__debug__" : Str)) = false := by decide)
    (he : starEach (e :: es) X.env = (false, eval e X.env) :: starEach es X.env := by rfl) (hpl : (backTo pos (starEach es X.env)).any (·.1) = false := by rfl) : GN g X (.Call (.Name x p) (e :: es) [] pos) (dCallN f dl) := PE.weak (pe_callB hc hg hm hv ha hn hdb he hpl) (cn_weak cd)
theorem gn_callTy {T : String} {r : List V → Hp → VK → Prop} {f : List D → Option (List D)} (hc : CallR X (.type T) r) (cd : CallN X.K g r f) (hg : Gl X x) (hm : X.mg x = none) (hv : bootBuiltins x = some (.type T)) (ha : GAb g X (e :: es) dl) (hn : x ≠ "__name__" := by decide) (hdb : (x == ("__debug__" : Str)) = false := by decide)
    (he : starEach (e :: es) X.env = (false, eval e X.env) :: starEach es X.env := by rfl) (hpl : (backTo pos (starEach es X.env)).any (·.1) = false := by rfl) : GN g X (.Call (.Name x p) (e :: es) [] pos) (dCallN f dl) := PE.weak (pe_callTy hc hg hm hv ha hn hdb he hpl) (cn_weak cd)

/-! len -/
def lenD : List D → Option D
  | [.str s] => if s.length ≤ LL then some (.int s.length) else none
  | [.lst ds] => some (.int ds.length)
  | [.tup ds] => some (.int ds.length)
  | [.web _ ts] => some (.int ts.length)
  | _ => none
def lenD0 : List D → Option D
  | [.web _ _] => none
  | ds => lenD ds
def rLen (K : PySem.W.Frag) : List V → Hp → VK → Prop := fun xs H Q => ∃ x n, xs = [x] ∧ LenV K x H n ∧ Q (.int n) H
theorem cd_len0 : CallD K g (rLen K) lenD0 := fun c F H xs z vs Q' e nc rp hz k => by
  cases rp with
  | nil => simp [lenD0, lenD] at hz
  | cons r1 rt =>
    rename_i x v ds vs
    cases rt with
    | cons _ _ => cases x <;> simp [lenD0, lenD] at hz
    | nil =>
      cases x with
      | str s =>
        simp only [lenD0, lenD] at hz
        split at hz
        · rename_i hl; cases hz; cases r1.str'; exact ⟨_, s.length, rfl, ⟨ll hl, rfl⟩, k _ H F (New.refl e) (.int _)⟩
        · cases hz
      | lst es =>
        cases hz
        obtain ⟨p, ys, rfl, h1, h2, _⟩ := r1
        exact ⟨_, ys.length, rfl, .inl ⟨ys, SqL.of h1, rfl⟩, by rw [h2.length]; exact k _ H F (New.refl e) (.int _)⟩
      | tup es =>
        cases hz
        obtain ⟨p, ys, rfl, h1, h2⟩ := r1.tup'
        exact ⟨_, ys.length, rfl, .inr ⟨ys, Evl.ex_t e h1, rfl⟩, by rw [h2.length]; exact k _ H F (New.refl e) (.int _)⟩
      | _ => simp [lenD0, lenD] at hz
/-- len(web), by its own __len__ -/
def rLenW (K : PySem.W.Frag) (C : Addr) : List V → Hp → VK → Prop := fun xs H Q => ∃ (a dx t : Addr) (pl : Str) (ts : List Str), xs = [.ref a] ∧ H a = some (.ins C dx [("places", .str pl), ("ties", .ref t)]) ∧ SqT K H t (ts.map V.str) ∧ ∀ H', Ex H H' → Q (.int ts.length) H'
theorem cd_lenW : CallD K g (fun xs H Q => rLen K xs H Q ∨ rLenW K g.Cw xs H Q) lenD := fun c F H xs z vs Q' e nc rp hz k => by
  by_cases hw : ∃ pl ts, xs = [.web pl ts]
  · obtain ⟨pl, ts, rfl⟩ := hw
    cases rp with
    | cons r1 rt =>
      cases rt
      cases hz
      obtain ⟨a, dx, t, rfl, h1, h2⟩ := r1.web'
      exact .inr ⟨a, dx, t, pl, ts, rfl, e _ _ h1, Evl.ex_t e h2, fun H' e' => k _ H' F ⟨fun _ _ h => h, e.trans e', e', fun _ _ h => .inl h⟩ (.int _)⟩
  · refine .inl (cd_len0 c F H xs z vs Q' e nc rp ?_ k)
    unfold lenD0
    split
    · exact absurd ⟨_, _, rfl⟩ hw
    · exact hz
/-! abs, int, divmod, min, max -/
def absD : List D → Option D | [.int i] => some (.int (if i < 0 then -i else i)) | _ => none
theorem one_int {c : Option Addr} {F H : Hp} {i : Int} {vs : List V} (h : RepTs K g c F H [.int i] vs) : vs = [.int i] := by
  cases h with
  | cons h t => cases t; rw [h.int']
theorem cd_abs : CallD K g (fun xs H Q => ∃ i, xs = [.int i] ∧ Q (.int (if i < 0 then -i else i)) H) absD := fun c F H xs z vs Q' e nc rp hz k => by
  unfold absD at hz
  split at hz
  · cases hz; exact ⟨_, one_int rp, k _ H F (New.refl e) (.int _)⟩
  · cases hz
def intD : List D → Option D | [.int i] => some (.int i) | [.bl b] => some (.int (if b then 1 else 0)) | _ => none
theorem cd_int : CallD K g (fun xs H Q => (∃ i, xs = [.int i] ∧ Q (.int i) H) ∨ ∃ k, xs = [.bl k] ∧ Q (.int (if k then 1 else 0)) H) intD := fun c F H xs z vs Q' e nc rp hz k => by
  unfold intD at hz
  split at hz
  · cases hz; exact .inl ⟨_, one_int rp, k _ H F (New.refl e) (.int _)⟩
  · cases hz
    cases rp with
    | cons h t => cases t; rw [h.bl']; exact .inr ⟨_, rfl, k _ H F (New.refl e) (.int _)⟩
  · cases hz
def divmodD : List D → Option D | [.int i, .int j] => if 0 < j ∧ j < 1073741824 then some (.tup [.int (i / j), .int (i % j)]) else none | _ => none
theorem cd_divmod : CallD K g (fun xs H Q => ∃ i j, xs = [.int i, .int j] ∧ CDiv i j ∧ ∀ p, H p = none → Q (.ref p) (upd H p (.tup [.int (i / j), .int (i % j)]))) divmodD := fun c F H xs z vs Q' e nc rp hz k => by
  unfold divmodD at hz
  split at hz
  · rename_i i j
    split at hz
    · rename_i hj
      cases hz
      cases rp with
      | cons h t =>
        cases t with
        | cons h2 t2 =>
          cases t2
          refine ⟨i, j, by rw [h.int', h2.int'], hj, fun p hp => ?_⟩
          have n := New.fix (o := .tup [.int (i / j), .int (i % j)]) e hp
          exact k _ _ _ n (.tup (SqT.of upd_same) (.cons (.int _) (.cons (.int _) .nil)))
    · cases hz
  · cases hz
def minD2 : List D → Option D
  | [.int i, .int j] => some (.int (if j < i then j else i))
  | [.str a, .str b] => some (.str (if sLt b a then b else a))
  | _ => none
def maxD2 : List D → Option D
  | [.int i, .int j] => some (.int (if j > i then j else i))
  | [.str a, .str b] => some (.str (if sLt a b then b else a))
  | _ => none
theorem cd_min2 : CallD K g (fun xs H Q => (∃ i j, xs = [.int i, .int j] ∧ Q (.int (if j < i then j else i)) H) ∨ ∃ a b, xs = [.str a, .str b] ∧ Q (.str (if sLt b a then b else a)) H) minD2 := fun c F H xs z vs Q' e nc rp hz k => by
  unfold minD2 at hz
  split at hz
  · cases hz
    cases rp with
    | cons h t => cases t with
      | cons h2 t2 => cases t2; exact .inl ⟨_, _, by rw [h.int', h2.int'], k _ H F (New.refl e) (.int _)⟩
  · cases hz
    cases rp with
    | cons h t => cases t with
      | cons h2 t2 => cases t2; exact .inr ⟨_, _, by rw [h.str', h2.str'], k _ H F (New.refl e) (.str _)⟩
  · cases hz
theorem cd_max2 : CallD K g (fun xs H Q => (∃ i j, xs = [.int i, .int j] ∧ Q (.int (if j > i then j else i)) H) ∨ ∃ a b, xs = [.str a, .str b] ∧ Q (.str (if sLt a b then b else a)) H) maxD2 := fun c F H xs z vs Q' e nc rp hz k => by
  unfold maxD2 at hz
  split at hz
  · cases hz
    cases rp with
    | cons h t => cases t with
      | cons h2 t2 => cases t2; exact .inl ⟨_, _, by rw [h.int', h2.int'], k _ H F (New.refl e) (.int _)⟩
  · cases hz
    cases rp with
    | cons h t => cases t with
      | cons h2 t2 => cases t2; exact .inr ⟨_, _, by rw [h.str', h2.str'], k _ H F (New.refl e) (.str _)⟩
  · cases hz
theorem cr_min2 (hc : X.calm = true) : CallR X (.builtin "min") (fun xs H Q => (∃ i j, xs = [.int i, .int j] ∧ Q (.int (if j < i then j else i)) H) ∨ ∃ a b, xs = [.str a, .str b] ∧ Q (.str (if sLt b a then b else a)) H) := (call_min2 hc).or (cr_min2S hc)
theorem cr_max2 (hc : X.calm = true) : CallR X (.builtin "max") (fun xs H Q => (∃ i j, xs = [.int i, .int j] ∧ Q (.int (if j > i then j else i)) H) ∨ ∃ a b, xs = [.str a, .str b] ∧ Q (.str (if sLt a b then b else a)) H) := (call_max2 hc).or (cr_max2S hc)
/-! all, any -/
def bools : List D → Option (List Bool)
  | [] => some []
  | .bl b :: r => (bools r).map (b :: ·)
  | _ :: _ => none
theorem bools_map : ∀ {ds : List D} {bs : List Bool}, bools ds = some bs → ds = bs.map D.bl
  | [], _, h => by cases h; rfl
  | .bl b :: r, bs, h => by
    obtain ⟨cs, h1, rfl⟩ := Option.map_eq_some_iff.mp h
    rw [bools_map h1]; rfl
  | .non :: _, _, h => by cases h
  | .int _ :: _, _, h => by cases h
  | .str _ :: _, _, h => by cases h
  | .tup _ :: _, _, h => by cases h
  | .lst _ :: _, _, h => by cases h
  | .dic _ :: _, _, h => by cases h
  | .web _ _ :: _, _, h => by cases h
theorem bools_of (bs : List Bool) : bools (bs.map D.bl) = some bs := by
  induction bs with
  | nil => rfl
  | cons b r ih => rw [List.map_cons]; unfold bools; rw [ih]; rfl
def allD : List D → Option D | [.lst ds] => (bools ds).map fun bs => .bl (bs.all id) | _ => none
def anyD : List D → Option D | [.lst ds] => (bools ds).map fun bs => .bl (bs.any id) | _ => none
theorem cd_all : CallD K g (rAll K) allD := fun c F H xs z vs Q' e nc rp hz k => by
  unfold allD at hz
  split at hz
  · obtain ⟨bs, h1, rfl⟩ := Option.map_eq_some_iff.mp hz
    have h2 := bools_map h1
    subst h2
    cases rp with
    | cons h t =>
      cases t
      obtain ⟨p, ys, rfl, g1, g2, _⟩ := h
      have := repL_bls g2
      subst this
      exact ⟨p, bs, rfl, SqL.of g1, k _ H F (New.refl e) (.bl _)⟩
  · cases hz
theorem cd_any : CallD K g (rAny K) anyD := fun c F H xs z vs Q' e nc rp hz k => by
  unfold anyD at hz
  split at hz
  · obtain ⟨bs, h1, rfl⟩ := Option.map_eq_some_iff.mp hz
    have h2 := bools_map h1
    subst h2
    cases rp with
    | cons h t =>
      cases t
      obtain ⟨p, ys, rfl, g1, g2, _⟩ := h
      have := repL_bls g2
      subst this
      exact ⟨p, bs, rfl, SqL.of g1, k _ H F (New.refl e) (.bl _)⟩
  · cases hz
/-! list(..), tuple(..) -/
def listD : List D → Option (List D)
  | [.lst ds] => some ds
  | [.tup ds] => some ds
  | [.str s] => if s.length ≤ LL then some (charsD s) else none
  | _ => none
def rListG (K : PySem.W.Frag) : List V → Hp → VK → Prop := fun xs H Q => (∃ p ys, xs = [.ref p] ∧ (SqL K H p ys ∨ SqT K H p ys) ∧ ∀ l, H l = none → Q (.ref l) (upd H l (.lst ys))) ∨ ∃ z : Str, xs = [.str z] ∧ z.length ≤ LL ∧ ∀ p, H p = none → Q (.ref p) (upd H p (.lst (chars z)))
theorem cr_list (hc : X.calm = true) : CallR X (.type "list") (rListG X.K) := call_list_of.or (cr_listStr hc)
theorem new_lay {F H : Hp} {l : Addr} {ys : List V} (e : Ex F H) (hl : H l = none) : New F H F (upd H l (.lst ys)) ∧ F l = none ∧ upd H l (.lst ys) l = some (.lst ys) := ⟨New.lay e hl, ex_none e hl, upd_same⟩
theorem cn_list : CallN K g (rListG K) listD := fun c F H xs ds vs Q' e nc rp hz k => by
  unfold listD at hz
  split at hz
  · cases hz
    cases rp with
    | cons h t =>
      cases t
      obtain ⟨p, ys, rfl, g1, g2, _⟩ := h
      exact .inl ⟨p, ys, rfl, .inl (SqL.of g1), fun l hl => k l _ F ys (new_lay e hl).1 hl (new_lay e hl (ys := ys)).2.1 upd_same g2⟩
  · cases hz
    cases rp with
    | cons h t =>
      cases t
      obtain ⟨p, ys, rfl, g1, g2⟩ := h.tup'
      exact .inl ⟨p, ys, rfl, .inr (Evl.ex_t e g1), fun l hl => k l _ F ys (new_lay e hl).1 hl (new_lay e hl (ys := ys)).2.1 upd_same g2⟩
  · split at hz
    · rename_i s hl
      cases hz
      cases rp with
      | cons h t =>
        cases t
        rw [h.str']
        exact .inr ⟨s, rfl, hl, fun l hl => k l _ F _ (new_lay e hl).1 hl (new_lay e hl (ys := chars s)).2.1 upd_same (chars_rep s)⟩
    · cases hz
  · cases hz
def tupleD : List D → Option D
  | [.lst ds] => some (.tup ds)
  | [.tup ds] => some (.tup ds)
  | _ => none
def rTupG (K : PySem.W.Frag) : List V → Hp → VK → Prop := fun xs H Q => ∃ p ys, xs = [.ref p] ∧ ((SqL K H p ys ∧ ∀ l, H l = none → Q (.ref l) (upd H l (.tup ys))) ∨ (SqT K H p ys ∧ Q (.ref p) H))
theorem cr_tuple : CallR X (.type "tuple") (rTupG X.K) := call_tuple_of
theorem cd_tuple : CallD K g (rTupG K) tupleD := fun c F H xs z vs Q' e nc rp hz k => by
  unfold tupleD at hz
  split at hz
  · cases hz
    cases rp with
    | cons h t =>
      cases t
      obtain ⟨p, ys, rfl, g1, g2, _⟩ := h
      refine ⟨p, ys, rfl, .inl ⟨SqL.of g1, fun l hl => ?_⟩⟩
      have n := New.fix (o := .tup ys) e hl
      exact k _ _ _ n (.tup (SqT.of upd_same) (g2.mono n.ff))
  · cases hz
    cases rp with
    | cons h t =>
      cases t
      obtain ⟨p, ys, rfl, g1, g2⟩ := h.tup'
      exact ⟨p, ys, rfl, .inr ⟨Evl.ex_t e g1, k _ H F (New.refl e) (.tup g1 g2)⟩⟩
  · cases hz
/-! sorted -/
def D.lt (a b : D) : Bool := dataLt a.py b.py
def sortL (ds : List D) : List D := ds.mergeSort fun a b => !D.lt b a
def alikeL (ds : List D) : Bool := ds.all fun a => ds.all fun b => alike a.py b.py
def D.neT : D → Bool | .tup (_ :: _) => true | _ => false
def D.noT : D → Bool | .tup _ => false | .non => false | .dic _ => false | .web _ _ => false | _ => true
def sortOk (ds : List D) : Bool := alikeL ds && (ds.all D.neT || ds.all D.noT) && ds.all (·.okd 60) && decide (ds.length ≤ LL)
def sortedD : List D → Option (List D)
  | [.lst ds] => if sortOk ds then some (sortL ds) else none
  | [.str s] => if s.length ≤ LL then some (sortL (charsD s)) else none
  | _ => none
def rSortedG (K : PySem.W.Frag) : List V → Hp → VK → Prop := fun xs H Q => rSortG K xs H Q ∨ ∃ z : Str, xs = [.str z] ∧ z.length ≤ LL ∧ ∀ p, H p = none → Q (.ref p) (upd H p (.lst ((sortV ((z.cps.toList.map fun c => ((.str ⟨#[c]⟩ : V), PyData.str ⟨#[c]⟩)))).map (·.1))))
theorem cr_sorted' (hc : X.calm = true) (hu : X.A.units + 64 < cLine) : CallR X (.builtin "sorted") (rSortedG X.K) := (cr_sortG hu).or (cr_sortStr hc hu)
/-- sorting the values by what they are gives the data sorted -/
theorem sort_rep {F : Hp} {ds : List D} {xs : List V} (h : RepL K g F ds xs) : RepL K g F (sortL ds) ((sortV (xs.zip (ds.map D.py))).map (·.1)) := by
  -- triples of a datum and its value
  have key : ∀ (ps : List (D × V)), (∀ p ∈ ps, Rep K g F p.1 p.2) → RepL K g F (ps.map (·.1)) (ps.map (·.2)) := by
    intro ps hp
    induction ps with
    | nil => exact .nil
    | cons p r ih => exact .cons (hp p (by simp)) (ih fun q hq => hp q (by simp [hq]))
  have all : ∀ {ds : List D} {xs : List V}, RepL K g F ds xs → ∀ p ∈ ds.zip xs, Rep K g F p.1 p.2 := by
    intro ds
    induction ds with
    | nil => intro xs _ p hp; simp at hp
    | cons d r ih =>
      intro xs h p hp
      cases h with
      | cons h1 t1 =>
        simp only [List.zip_cons_cons, List.mem_cons] at hp
        rcases hp with rfl | hp
        · exact h1
        · exact ih t1 p hp
  have hl := h.length
  let ps := (ds.zip xs).mergeSort fun a b => !D.lt b.1 a.1
  have e1 : ps.map (·.1) = sortL ds := by
    have := List.map_mergeSort (r := fun a b : D × V => !D.lt b.1 a.1) (s := fun a b : D => !D.lt b a) (f := Prod.fst) (l := ds.zip xs) (fun a _ b _ => rfl)
    rw [List.map_fst_zip (by omega)] at this
    exact this
  have e2 : ps.map (·.2) = (sortV (xs.zip (ds.map D.py))).map (·.1) := by
    have := List.map_mergeSort (r := fun a b : D × V => !D.lt b.1 a.1) (s := dataLe false fun p : V × PyData => p.2) (f := fun p : D × V => (p.2, p.1.py)) (l := ds.zip xs) (fun a _ b _ => rfl)
    have e3 : (ds.zip xs).map (fun p : D × V => (p.2, p.1.py)) = xs.zip (ds.map D.py) := by
      clear this e1 h
      induction ds generalizing xs with
      | nil => cases xs <;> rfl
      | cons d r ih =>
        cases xs with
        | nil => simp at hl
        | cons x t => simp only [List.zip_cons_cons, List.map_cons]; rw [ih (by simpa using hl)]
    rw [e3] at this
    unfold sortV
    rw [← this, List.map_map]
    rfl
  rw [← e1, ← e2]
  exact key ps fun p hp => all h p (List.mergeSort_perm _ _ |>.mem_iff.mp hp)
theorem sortL_len (ds : List D) : (sortL ds).length = ds.length := by unfold sortL; rw [List.length_mergeSort]
theorem cn_sorted : CallN K g (rSortedG K) sortedD := fun c F H xs ds vs Q' e nc rp hz k => by
  unfold sortedD at hz
  split at hz
  · rename_i es
    split at hz
    · rename_i ok
      cases hz
      unfold sortOk at ok
      simp only [Bool.and_eq_true, Bool.or_eq_true, decide_eq_true_eq] at ok
      obtain ⟨⟨⟨o1, o2⟩, o3⟩, o4⟩ := ok
      cases rp with
      | cons h t =>
        cases t
        obtain ⟨p, ys, rfl, g1, g2, _⟩ := h
        have hl := g2.length
        have z1 : (ys.zip (es.map D.py)).map (·.1) = ys := List.map_fst_zip (by rw [List.length_map]; omega)
        have z2 : (ys.zip (es.map D.py)).map (·.2) = es.map D.py := List.map_snd_zip (by rw [List.length_map]; omega)
        refine .inl ⟨p, ys.zip (es.map D.py), rfl, by rw [z1]; exact SqL.of g1, ?_, ?_, ?_, ?_, fun l hl' => ?_⟩
        · intro q hq
          have o3' := List.all_eq_true.mp o3
          clear z1 z2 o1 o2 o4 hl
          clear g1 k
          induction es generalizing ys with
          | nil => cases g2; simp at hq
          | cons d r ih =>
            cases g2 with
            | cons h1 t1 =>
              simp only [List.map_cons, List.zip_cons_cons, List.mem_cons] at hq
              rcases hq with rfl | hq
              · have od := o3' d (by simp)
                exact ⟨rep_dp e d 60 _ od h1, (okd_lay d 60 od).2⟩
              · exact ih (by simp only [List.all_cons, Bool.and_eq_true] at o3; exact o3.2) _ t1 hq fun x hx => o3' x (by simp [hx])
        · rw [z2]
          intro d hd d' hd'
          obtain ⟨a, ha, rfl⟩ := List.mem_map.mp hd
          obtain ⟨b, hb, rfl⟩ := List.mem_map.mp hd'
          unfold alikeL at o1
          exact List.all_eq_true.mp (List.all_eq_true.mp o1 a ha) b hb
        · rw [z2]
          rcases o2 with o2 | o2
          · refine .inl fun d hd => ?_
            obtain ⟨a, ha, rfl⟩ := List.mem_map.mp hd
            have := List.all_eq_true.mp o2 a ha
            cases a with
            | tup l => cases l with
              | nil => cases this
              | cons x r => exact ⟨x.py, pyL r, by simp only [D.py, pyL]⟩
            | _ => cases this
          · refine .inr fun d hd => ?_
            obtain ⟨a, ha, rfl⟩ := List.mem_map.mp hd
            have := List.all_eq_true.mp o2 a ha
            cases a with
            | non => cases this
            | tup l => cases this
            | dic l => cases this
            | web a b => cases this
            | bl b => simp only [D.py]; exact ⟨(fun z => nomatch z), fun _ z => nomatch z⟩
            | int b => simp only [D.py]; exact ⟨(fun z => nomatch z), fun _ z => nomatch z⟩
            | str b => simp only [D.py]; exact ⟨(fun z => nomatch z), fun _ z => nomatch z⟩
            | lst b => simp only [D.py]; exact ⟨(fun z => nomatch z), fun _ z => nomatch z⟩
        · rw [List.length_zip, List.length_map]; omega
        · exact k l _ F _ (new_lay e hl').1 hl' (new_lay e hl' (ys := (sortV (ys.zip (es.map D.py))).map (·.1))).2.1 upd_same (sort_rep g2)
    · cases hz
  · rename_i s
    split at hz
    · rename_i hl
      cases hz
      cases rp with
      | cons h t =>
        cases t
        rw [h.str']
        refine .inr ⟨s, rfl, hl, fun l hl' => ?_⟩
        have sr := sort_rep (chars_rep (K := K) (g := g) (F := F) s)
        have e3 : (chars s).zip ((charsD s).map D.py) = s.cps.toList.map fun c => ((.str ⟨#[c]⟩ : V), PyData.str ⟨#[c]⟩) := by
          unfold chars charsD
          rw [List.map_map]
          generalize s.cps.toList = cs
          induction cs with
          | nil => rfl
          | cons c r ih => simp only [List.map_cons, List.zip_cons_cons]; rw [ih]; rfl
        rw [e3] at sr
        exact k l _ F _ (new_lay e hl').1 hl' (new_lay e hl' (ys := [])).2.1 upd_same sr
    · cases hz
  · cases hz
end
end G
namespace G
open PySem L2

/-! ### defs by data: arguments, the cask's bound, what is wanted of the answer and of the bound -/
abbrev Spec := List Sl → Nat → (D → Nat → Prop) → Prop
def spOf (K : PySem.W.Frag) (g : Gp) (S : Spec) : Sp := fun vs H Q _ => ∃ c F as m Q', Ex F H ∧ ArgsR K g c F as vs ∧ Ck g c m F H ∧ S as m Q' ∧
  ∀ v H' F' m' x, Fresh c F H F' H' → Ck g c m' F' H' → Rep K g F' x v → Q' x m' → Q v H'
theorem ArgsR.length {K : PySem.W.Frag} {g : Gp} {c : Option Addr} {F : Hp} {as : List Sl} {vs : List V} (h : ArgsR K g c F as vs) : as.length = vs.length := Paired.length h
def dCall (S : Spec) (da : DA) : DE := fun env m Q => da env m fun as m1 => S as m1 Q
section
variable {g : Gp} {X : Cx} {CX : CXT} {k : Nat} {f C : Addr} {fd : FuncData} {ps : List Str} {S : Spec} {x : Str} {p pos : Pos} {e : Expr} {es : List Expr} {da : DA}
theorem call_weak : ∀ σ H Q, tD X.K g (dCall S da) σ H Q → tCall (spOf X.K g S) [] E0 (tAr X.K g da) σ H Q := fun σ H Q ⟨c, F, env, m, Q1, r, h, kk⟩ =>
  ⟨c, F, env, m, _, r, h, fun vs H1 F1 m1 as r1 f1 ar q => by
    refine ⟨c, F1, as, m1, Q1, r1.sub, by rw [List.append_nil]; exact ar, r1.ck, q, fun v H' F' m' y f' ck' rp q' => kk v H' F' m' y (r1.fresh f' ck') (f1.trans f') rp q'⟩⟩
theorem ge_call (F : FnOk X.prog X.w X.K X.mg X.base CX0 k f fd ps (spOf X.K g S)) (hr : Room k X.A) (hg : Gl X x) (hm : X.mg x = some (.ref f)) (hk : PySem.W.keepIn X.K (.ref f) = true) (hb : Binds X.K fd ps [])
    (ha : GA g X (e :: es) da) (hdb : (x == ("__debug__" : Str)) = false := by decide) (he : starEach (e :: es) X.env = (false, eval e X.env) :: starEach es X.env := by rfl) (hpl : (backTo pos (starEach es X.env)).any (·.1) = false := by rfl) :
    GE g X (.Call (.Name x p) (e :: es) [] pos) (dCall S da) := PE.weak (pe_call F hr hg hm hk hb .nil pass0 ha hdb he hpl) call_weak
/-- keywords alone: the values in the order of ks, brought into the parameters' order by pm -/
def KB0 (K : PySem.W.Frag) (fd : FuncData) (ps ks : List Str) (pm : {α : Type} → List α → List α) : Prop :=
  ∀ (s : Shared) (ws : List Value), K.In s.heap → ws.length = ks.length → BindsTo s fd ⟨[], ks.zip ws⟩ (ps.zip (pm ws))
def tCallK0 (sp : Sp) (pm : List V → List V) (t : TA) : TE := fun σ H Q => t σ H fun vs H1 => sp (pm vs) H1 Q E0
theorem pe_callK0 {sp : Sp} {ks : List Str} {kws : List Keyword} {t : TA} {pm : {α : Type} → List α → List α} (F : FnOk X.prog X.w X.K X.mg X.base CX0 k f fd ps sp) (hr : Room k X.A) (hg : Gl X x) (hm : X.mg x = some (.ref f)) (hk : PySem.W.keepIn X.K (.ref f) = true) (hb : KB0 X.K fd ps ks pm)
    (hpm : ∀ (vs : List V) (us : List Value), Vals vs us → Vals (pm vs) (pm us)) (hkl : kws.length = ks.length) (hkw : PK X kws t) (hall : (backToKw pos (keywordEach kws X.env)).all (·.1.isSome) = true := by rfl) (hks : (backToKw pos (keywordEach kws X.env)).filterMap (·.1) = ks := by rfl)
    (hlen : ∀ (us : List Value), us.length = kws.length → us.length = ks.length := by intro us h; exact h)
    (hdb : (x == ("__debug__" : Str)) = false := by decide) (hpl : ((backTo pos (starEach [] X.env)).any (·.1) || (backToKw pos (keywordEach kws X.env)).any (·.1.isNone)) = false := by rfl)
    (hn : ∀ σ H Q, t σ H Q → t σ H fun vs H1 => vs.length = kws.length ∧ Q vs H1) :
    PE X (.Call (.Name x p) [] kws pos) (tCallK0 sp pm t) := by
  refine ⟨fun pins s σ H Q I h => ?_⟩
  refine wpAny_Call_Name_kw (ld_glob I hg hm ?_ hdb)
  refine PySem.W.callWith_KW0 (h₀ := X.base) I.ok.mod.kin hk hall (thn (hkw.run pos pins s σ H _ I (hn σ H _ h)) fun ws s1 ⟨zs, H1, I1, rz, hl, q⟩ => ⟨I1.kIn, ?_⟩) hpl
  rw [hks]
  have hw : ws.length = ks.length := by rw [← rz.length, hl, hkl]
  have r2 := hpm zs ws rz
  refine wpAny_call (codeAny_mono (F.run X.A X.stack s1 H1 ⟨[], ks.zip ws⟩ (pm ws) (pm zs) Q E0 hr I1.env0 (hb s1 ws I1.kIn hw) r2 q) fun r s' hq => ?_)
  cases r with
  | error e => exact hq.elim
  | ok fl =>
    cases fl with
    | ret u => exact I1.after hq
    | next => exact False.elim hq
    | brk => exact False.elim hq
    | cont => exact False.elim hq
/-- keywords by data -/
def GK (g : Gp) (X : Cx) (kws : List Keyword) (d : DA) (n : Nat) : Prop := PK X kws (tAr X.K g d) ∧ ∀ env m Q, d env m Q → d env m fun as m1 => as.length = n ∧ Q as m1
theorem PK.weak {kws : List Keyword} {t t' : TA} (h : PK X kws t) (w : ∀ σ H Q, t' σ H Q → t σ H Q) : PK X kws t' := ⟨fun pos pins s σ H Q I q => h.run pos pins s σ H Q I (w σ H Q q)⟩
theorem gk_nil : GK g X [] dNilA 0 := ⟨PK.weak pk_nil fun σ H Q ⟨c, F, env, m, Q1, rl, hd, k⟩ => k [] H F m [] rl (Fresh.refl rl.sub rl.ck) .nil hd, fun env m Q h => ⟨rfl, h⟩⟩
theorem gk_cons {nm : Option Str} {kpos : Pos} {kws : List Keyword} {d : DE} {dr : DA} {n : Nat} (ha : GE g X e d) (mono : ∀ env m Q Q', (∀ y m', Q y m' → Q' y m') → d env m Q → d env m Q') (hr : GK g X kws dr n) : GK g X (⟨nm, e, kpos⟩ :: kws) (dConsA d dr) (n + 1) :=
  ⟨PK.weak (pk_cons ha hr.1) fun σ H Q ⟨c, F, env, m, Q1, rl, hd, k⟩ =>
    ⟨c, F, env, m, _, rl, hd, fun v H1 F1 m1 x r1 f1 rp q1 => ⟨c, F1, env, m1, _, r1, q1, fun vs H2 F2 m2 as r2 f2 rps q2 => k _ H2 F2 m2 _ r2 (f1.trans f2) (.cons (rp.mono f2.ff) rps) q2⟩⟩,
   fun env m Q h => mono env m _ _ (fun y m' q => by
     have := hr.2 env m' _ q
     exact (by
       refine (fun (h2 : dr env m' fun as m2 => as.length = n ∧ Q (.val y :: as) m2) => ?_) this
       have e : (fun (as : List Sl) m2 => as.length = n ∧ Q (.val y :: as) m2) = fun as m2 => (Sl.val y :: as).length = n + 1 ∧ Q (.val y :: as) m2 := by
         funext as m2
         rw [List.length_cons, Nat.add_right_cancel_iff]
       rw [e] at h2
       exact h2)) h⟩
def dCallK (S : Spec) (pm : List Sl → List Sl) (da : DA) : DE := fun env m Q => da env m fun as m1 => S (pm as) m1 Q
theorem ge_callK {ks : List Str} {kws : List Keyword} {n : Nat} {pm : {α : Type} → List α → List α} (F : FnOk X.prog X.w X.K X.mg X.base CX0 k f fd ps (spOf X.K g S)) (hr : Room k X.A) (hg : Gl X x) (hm : X.mg x = some (.ref f)) (hk : PySem.W.keepIn X.K (.ref f) = true) (hb : KB0 X.K fd ps ks pm)
    (hpm : ∀ {α β : Type} (R : α → β → Prop) (vs : List α) (us : List β), Paired R vs us → Paired R (pm vs) (pm us)) (hkl : kws.length = ks.length) (hkw : GK g X kws da n) (hn : kws.length = n) (hall : (backToKw pos (keywordEach kws X.env)).all (·.1.isSome) = true := by rfl) (hks : (backToKw pos (keywordEach kws X.env)).filterMap (·.1) = ks := by rfl)
    (hdb : (x == ("__debug__" : Str)) = false := by decide) (hpl : ((backTo pos (starEach [] X.env)).any (·.1) || (backToKw pos (keywordEach kws X.env)).any (·.1.isNone)) = false := by rfl) :
    GE g X (.Call (.Name x p) [] kws pos) (dCallK S pm da) := by
  refine PE.weak (pe_callK0 (t := tAr X.K g da) (pm := pm) F hr hg hm hk hb (fun vs us h => hpm RelV vs us h) hkl hkw.1 hall hks (fun us h => by rw [h, hkl]) hdb hpl (fun σ H Q ⟨c, F, env, m, Q1, r, h, kk⟩ => ?_)) fun σ H Q ⟨c, F, env, m, Q1, r, h, kk⟩ => ?_
  · exact ⟨c, F, env, m, _, r, hkw.2 env m Q1 h, fun vs H1 F1 m1 as r1 f1 ar ⟨hl, q⟩ => ⟨by rw [← ar.length, hl, hn], kk vs H1 F1 m1 as r1 f1 ar q⟩⟩
  · exact ⟨c, F, env, m, _, r, h, fun vs H1 F1 m1 as r1 f1 ar q => ⟨c, F1, pm as, m1, Q1, r1.sub, hpm _ as vs ar, r1.ck, q, fun v H' F' m' y f' ck' rp q' => kk v H' F' m' y (r1.fresh f' ck') (f1.trans f') rp q'⟩⟩
end

/-! ### a def keeps its promise -/
def pad (N : List Str) (as : List Sl) : Env' := as ++ List.replicate (N.length - as.length) .no
section
variable {P : Program} {w : World} {K : PySem.W.Frag} {mg : Str → Option Value} {base : Heap} {g : Gp}
theorem start_rel {N : List Str} {c : Option Addr} {F H : Hp} {as : List Sl} {vs : List V} {m : Nat} (e : Ex F H) (ar : ArgsR K g c F as vs) (ck : Ck g c m F H) : Rel K g c F (pad N as) m (L2.start N vs) H ∧ ∀ a, ¬ Own (pad N as) (L2.start N vs) a := by
  have hl := ar.length
  have get : ∀ (i : Nat) (s : Sl), (pad N as)[i]? = some s → s = .no ∨ ∃ v, (L2.start N vs)[i]? = some (some v) ∧ as[i]? = some s ∧ vs[i]? = some v := fun i s h => by
    unfold pad at h
    by_cases hi : i < as.length
    · rw [List.getElem?_append_left hi] at h
      refine .inr ⟨vs[i]'(by omega), ?_, h, List.getElem?_eq_getElem _⟩
      unfold L2.start
      rw [List.getElem?_append_left (by rw [List.length_map]; omega), List.getElem?_map, List.getElem?_eq_getElem (by omega)]
      rfl
    · rw [List.getElem?_append_right (by omega)] at h
      exact .inl (List.eq_of_mem_replicate (List.mem_of_getElem? h))
  have rel : ∀ {as : List Sl} {vs : List V}, ArgsR K g c F as vs → ∀ (i : Nat) (s : Sl) (v : V), as[i]? = some s → vs[i]? = some v → SlR K g c F H s (some (some v)) ∧ ∀ ds, s ≠ .own ds := by
    intro as vs ar
    induction ar with
    | nil => intro i s v h _; simp at h
    | cons h t ih =>
      intro i s v h1 h2
      cases i with
      | zero =>
        simp at h1 h2
        subst h1 h2
        rename_i s v _ _
        cases s with
        | val d => exact ⟨⟨v, rfl, h⟩, fun _ z => nomatch z⟩
        | cask => obtain ⟨a, c1, rfl⟩ := h; exact ⟨⟨a, c1, rfl⟩, fun _ z => nomatch z⟩
        | scr ns => obtain ⟨a, rfl, c1⟩ := h; exact ⟨⟨a, rfl, c1⟩, fun _ z => nomatch z⟩
        | no => exact h.elim
        | own ds => exact h.elim
      | succ i => exact ih i s v (by simpa using h1) (by simpa using h2)
  have noown : ∀ (i : Nat) (ds : List D), (pad N as)[i]? ≠ some (.own ds) := fun i ds h => by
    rcases get i _ h with z | ⟨v, _, h1, h2⟩
    · cases z
    · exact (rel ar i _ v h1 h2).2 ds rfl
  refine ⟨⟨e, ?_, fun i s h => ?_, fun i j di dj p h => absurd h (noown i di), ck⟩, fun a ⟨i, ds, h, _⟩ => noown i ds h⟩
  · unfold pad L2.start
    simp only [List.length_append, List.length_map, List.length_replicate]
    omega
  · rcases get i s h with rfl | ⟨v, h0, h1, h2⟩
    · trivial
    · rw [h0]; exact (rel ar i s v h1 h2).1
theorem def_ok {x qual : Str} {st : Stmt} {f : Addr} {fd : FuncData} {N ps : List Str} {k : Nat} {S : Spec} (F : Fun K x qual st f fd) (SC : FnScope N ps (defScope st)) (len : ∀ as m Q, S as m Q → as.length = ps.length)
    (hbody : ∀ (cdv : Value) (A : Around) (outer : List Env) (s : Shared) (H : Hp) (E : XK), Room k (A.deeper (PyProof.Rows.envOfC qual (defScope st) s.heap.objs.size f cdv)) →
      ∃ d, GSs g (cxOf CX0 P w K mg base N qual (defScope st) f cdv A outer s H E).nox (defBody st) d ∧ ∀ as m Q, S as m Q → d (pad N as) m { nx := fun _ m' => Q .non m', rt := Q }) :
    FnOk P w K mg base CX0 (k + 1) f fd ps (spOf K g S) := by
  refine F.ok SC (fun vs H Q E h => ?_) (fun cdv A outer s H vs Q E hr h => ?_)
  · obtain ⟨c, F, as, m, Q', _, ar, _, hs, _⟩ := h
    rw [← ar.length]; exact len as m Q' hs
  · obtain ⟨c, F, as, m, Q', e, ar, ck, hs, kk⟩ := h
    obtain ⟨d, gs, hd⟩ := hbody cdv A outer s H E hr
    obtain ⟨rel, no⟩ := start_rel (N := N) e ar ck
    have toF : ∀ {O' : Addr → Prop} {F' H' : Hp}, Evo c (Own (pad N as) (L2.start N vs)) F H O' F' H' → Fresh c F H F' H' := fun v => ⟨v.ff, v.fh, fun a o h n => v.hh a o h n (no a), fun a o h => (v.new a o h).imp id fun z => z.elim id fun y => (no a y).elim, v.nc⟩
    refine ⟨_, gs, c, F, _, m, _, rel, hd as m Q' hs, ⟨fun σ' H' F' env' m' r' v q => ?_, fun _ _ _ _ _ _ _ q => q.elim, fun _ _ _ _ _ _ _ q => q.elim, fun v H' F' m' y ck' ev rp q => ?_⟩⟩
    · exact kk .non H' F' m' .non (toF v) r'.ck .non q
    · exact kk v H' F' m' y (toF ev) ck' rp q
end

/-! ### lists of one's own, changed -/
section
variable {K : PySem.W.Frag} {g : Gp} {c : Option Addr} {F F' H H' : Hp} {env : Env'} {m : Nat} {σ : St}
theorem Rel.mut {i : Nat} {ds ds' : List D} {p : Addr} {ys : List V} (r : Rel K g c F env m σ H) (ho : env[i]? = some (.own ds)) (hs : σ[i]? = some (some (.ref p))) (rl : RepL K g F ds' ys) :
    Rel K g c F (env.set i (.own ds')) m σ (upd H p (.lst ys)) ∧ Evo c (Own env σ) F H (Own (env.set i (.own ds')) σ) F (upd H p (.lst ys)) := by
  obtain ⟨p', xs, e, h1, h2, h3, h4⟩ := r.slot i _ ho
  rw [hs] at e
  cases e
  have hi : i < env.length := (List.getElem?_eq_some_iff.mp ho).1
  have np : ∀ a o, F a = some o → a ≠ p := fun a o h z => by subst z; rw [h1] at h; cases h
  have sub : Ex F (upd H p (.lst ys)) := fun a o h => by rw [upd_ne (np a o h)]; exact r.sub a o h
  have ck : Ck g c m F (upd H p (.lst ys)) := fun a h => by
    obtain ⟨b1, zs, b2, b3⟩ := r.ck a h
    exact ⟨b1, zs, by rw [upd_ne (show a ≠ p from fun z => h4 (by rw [← z]; exact h))]; exact b2, b3⟩
  have ownEq : ∀ (j : Nat) (dj : List D), (env.set i (Sl.own ds'))[j]? = some (Sl.own dj) → ∃ dk : List D, env[j]? = some (Sl.own dk) := fun j dj h => by
    by_cases q : i = j
    · subst q; exact ⟨ds, ho⟩
    · rw [List.getElem?_set_ne q] at h; exact ⟨dj, h⟩
  refine ⟨⟨sub, by rw [List.length_set]; exact r.len, fun j s h => ?_, fun j k dj dk q e1 e2 e3 e4 => ?_, ck⟩, fun _ _ h => h, sub, fun a o h n no => ?_, fun a o h => .inl h, r.nc, fun a ⟨j, dj, e1, e2⟩ => ?_⟩
  · by_cases q : i = j
    · subst q
      rw [List.getElem?_set_self hi] at h
      cases h
      exact ⟨p, ys, hs, h1, upd_same, rl, h4⟩
    · rw [List.getElem?_set_ne q] at h
      have w := r.slot j s h
      cases s with
      | own dj =>
        obtain ⟨p2, xs2, e2, g1, g2, g3, g4⟩ := w
        have : p2 ≠ p := fun z => q (r.sep i j ds dj p ho h hs (by rw [← z]; exact e2))
        exact ⟨p2, xs2, e2, g1, by rw [upd_ne this]; exact g2, g3, g4⟩
      | no => trivial
      | val d => exact w
      | cask => exact w
      | scr ns => exact w
  · obtain ⟨a, ha⟩ := ownEq j dj e1
    obtain ⟨b, hb⟩ := ownEq k dk e2
    exact r.sep j k a b q ha hb e3 e4
  · rw [upd_ne (fun z => no ⟨i, ds, ho, by rw [z]; exact hs⟩)]; exact h
  · obtain ⟨dk, h⟩ := ownEq j dj e1
    exact ⟨r.ownc a ⟨j, dk, h, e2⟩, .inl ⟨j, dk, h, e2⟩⟩
end
section
variable {g : Gp} {X : Cx} {e : Expr} {d : DE} {pos p1 p2 p3 : Pos}
theorem own_at {K : PySem.W.Frag} {c : Option Addr} {F H : Hp} {env : Env'} {m : Nat} {σ : St} {i : Nat} {ds : List D} (r : Rel K g c F env m σ H) (ho : env[i]? = some (.own ds)) : ∃ p xs, σ[i]? = some (some (.ref p)) ∧ H p = some (.lst xs) ∧ RepL K g F ds xs ∧ c ≠ some p := by
  obtain ⟨p, xs, e, _, h2, h3, h4⟩ := r.slot i _ ho
  exact ⟨p, xs, e, h2, h3, h4⟩
/-- x.append(e) -/
def dApp (i : Nat) (d : DE) : DS := fun env m E => ∃ ds, env[i]? = some (.own ds) ∧ d env m fun x m1 => ds.length < LL ∧ E.nx (env.set i (.own (ds ++ [x]))) m1
theorem gs_append (i : Nat) {x : Str} (he : GE g X e d) (hN : X.N[i]? = some x := by rfl) (hv : Vis X.env.scope x := by first | exact Or.inl rfl | exact Or.inr (Or.inl rfl) | exact Or.inr (Or.inr rfl)) (hd : (x == ("__debug__" : Str)) = false := by decide)
    (hcd : (x == ("__classdict__" : Str)) = false := by decide) (hs : starEach [e] X.env = (false, eval e X.env) :: starEach [] X.env := by rfl) (hbase : attributeBase (.Name x p1) "append" X.env (eval (.Name x p1) X.env) = eval (.Name x p1) X.env := by rfl)
    (hfew : ((backTo p3 (starEach [e] X.env)).all (fun x => !x.1) && (backToKw p3 (keywordEach [] X.env)).all (fun x => x.1.isSome) && decide ([e].length + ([] : List Keyword).length + (if ([] : List Keyword).isEmpty then 0 else 1) < 30)) = true := by rfl)
    (hline : (p2.endLine == p3.line) = true := by rfl) (hsw : swapsWith (.Call (.Attribute (.Name x p1) "append" p2) [e] [] p3) none pos.line X.env = pure false := by rfl) :
    GS g X (.Expr (.Call (.Attribute (.Name x p1) "append" p2) [e] [] p3) pos) (dApp i d) :=
  PS.weak (ps_expr (pe_bm PySem.F.plainAttrs_list PySem.F.slot_list_append PySem.F.type_list_append mt_append (pe_var hN hv hd hcd) (pa_cons he pa_nil hs) hbase hfew hline hs rfl) hsw) fun D σ H ⟨c, F, env, m, E, r, ⟨ds, ho, q⟩, o⟩ => by
    obtain ⟨p, xs, es, hp, rl, nc⟩ := own_at r ho
    refine ⟨.ref p, es, .inl ⟨rfl, xs, SqL.of hp⟩, c, F, env, m, _, r, q, fun v H1 F1 m1 y r1 f1 rp ⟨hl, q1⟩ => ?_⟩
    obtain ⟨p', xs', es', hp', rl', nc'⟩ := own_at r1 ho
    rw [es] at es'
    cases es'
    obtain ⟨r2, v2⟩ := r1.mut ho es (rl'.append (.cons rp .nil))
    exact ⟨p, xs', v, rfl, rfl, hp', ll' (by rw [rl'.length]; exact hl), o.nx σ _ F1 _ m1 r2 ((r.evo f1).trans v2) q1⟩
/-- x.append(y.pop(e)), both one's own -/
def dAppPop (i j : Nat) (d : DE) : DS := fun env m E => ∃ ds es, env[i]? = some (.own ds) ∧ env[j]? = some (.own es) ∧ i ≠ j ∧ d env m fun x m1 => ∃ (k : Nat) (y : D), x = .int k ∧ es[k]? = some y ∧ es.length ≤ LL ∧ ds.length < LL ∧ E.nx ((env.set j (.own (es.eraseIdx k))).set i (.own (ds ++ [y]))) m1
theorem gs_appendPop (i j : Nat) {x y : Str} {q1 q2 q3 : Pos} (he : GE g X e d) (hN : X.N[i]? = some x := by rfl) (hv : Vis X.env.scope x := by first | exact Or.inl rfl | exact Or.inr (Or.inl rfl) | exact Or.inr (Or.inr rfl)) (hd : (x == ("__debug__" : Str)) = false := by decide)
    (hcd : (x == ("__classdict__" : Str)) = false := by decide) (hN2 : X.N[j]? = some y := by rfl) (hv2 : Vis X.env.scope y := by first | exact Or.inl rfl | exact Or.inr (Or.inl rfl) | exact Or.inr (Or.inr rfl)) (hd2 : (y == ("__debug__" : Str)) = false := by decide)
    (hcd2 : (y == ("__classdict__" : Str)) = false := by decide) (hs : starEach [e] X.env = (false, eval e X.env) :: starEach [] X.env := by rfl)
    (hb2 : attributeBase (.Name y q1) "pop" X.env (eval (.Name y q1) X.env) = eval (.Name y q1) X.env := by rfl) (hl2 : (q2.endLine == q3.line) = true := by rfl)
    (hf2 : ((backTo q3 (starEach [e] X.env)).all (fun x => !x.1) && (backToKw q3 (keywordEach [] X.env)).all (fun x => x.1.isSome) && decide ([e].length + ([] : List Keyword).length + (if ([] : List Keyword).isEmpty then 0 else 1) < 30)) = true := by rfl)
    (hs1 : starEach [.Call (.Attribute (.Name y q1) "pop" q2) [e] [] q3] X.env = (false, eval (.Call (.Attribute (.Name y q1) "pop" q2) [e] [] q3) X.env) :: starEach [] X.env := by rfl)
    (hbase : attributeBase (.Name x p1) "append" X.env (eval (.Name x p1) X.env) = eval (.Name x p1) X.env := by rfl)
    (hfew : ((backTo p3 (starEach [.Call (.Attribute (.Name y q1) "pop" q2) [e] [] q3] X.env)).all (fun x => !x.1) && (backToKw p3 (keywordEach [] X.env)).all (fun x => x.1.isSome) && decide ([(.Call (.Attribute (.Name y q1) "pop" q2) [e] [] q3 : Expr)].length + ([] : List Keyword).length + (if ([] : List Keyword).isEmpty then 0 else 1) < 30)) = true := by rfl)
    (hline : (p2.endLine == p3.line) = true := by rfl) (hsw : swapsWith (.Call (.Attribute (.Name x p1) "append" p2) [.Call (.Attribute (.Name y q1) "pop" q2) [e] [] q3] [] p3) none pos.line X.env = pure false := by rfl) :
    GS g X (.Expr (.Call (.Attribute (.Name x p1) "append" p2) [.Call (.Attribute (.Name y q1) "pop" q2) [e] [] q3] [] p3) pos) (dAppPop i j d) :=
  PS.weak (ps_expr (pe_bm PySem.F.plainAttrs_list PySem.F.slot_list_append PySem.F.type_list_append mt_append (pe_var hN hv hd hcd) (pa_cons (pe_bm PySem.F.plainAttrs_list PySem.F.slot_list_pop PySem.F.type_list_pop mt_popAt (pe_var hN2 hv2 hd2 hcd2) (pa_cons he pa_nil hs) hb2 hf2 hl2 hs rfl) pa_nil hs1) hbase hfew hline hs1 rfl) hsw) fun D σ H ⟨c, F, env, m, E, r, ⟨ds, es, ho, ho2, hij, q⟩, o⟩ => by
    obtain ⟨p, xs, e1, hp, rl, nc⟩ := own_at r ho
    obtain ⟨p', xs', e2, hp', rl', nc'⟩ := own_at r ho2
    refine ⟨.ref p, e1, .inl ⟨rfl, xs, SqL.of hp⟩, .ref p', e2, .inl ⟨rfl, xs', SqL.of hp'⟩, c, F, env, m, _, r, q, fun v H1 F1 m1 w r1 f1 rp ⟨k, y, ew, hy, hl, hl2, q1⟩ => ?_⟩
    subst ew
    cases rp
    obtain ⟨pa, xa, ea, ha, ra, na⟩ := own_at r1 ho2
    rw [e2] at ea
    cases ea
    obtain ⟨u, hu, ru⟩ := ra.get hy
    have hk : k < xa.length := (List.getElem?_eq_some_iff.mp hu).1
    have hxl : xa.length ≤ LL := by rw [ra.length]; exact hl
    obtain ⟨r2, v2⟩ := r1.mut ho2 e2 (ra.eraseIdx k)
    have ho' : (env.set j (.own (es.eraseIdx k)))[i]? = some (.own ds) := by rw [List.getElem?_set_ne (Ne.symm hij)]; exact ho
    obtain ⟨pb, xb, eb, hb, rb, nb⟩ := own_at r2 ho'
    rw [e1] at eb
    cases eb
    obtain ⟨r3, v3⟩ := r2.mut ho' e1 (rb.append (.cons ru .nil))
    have hk2 : (k : Int) < 2 ^ 63 := by
      have : k < 100000 := Nat.lt_of_lt_of_le hk hxl
      omega
    refine ⟨p', xa, (k : Int), k, u, rfl, rfl, ha, by omega, hk2, PySem.seqIndex_of (by omega) (by omega), hu, p, xb, u, rfl, rfl, hb, ll' (by rw [rb.length]; exact hl2), o.nx σ _ F1 _ m1 r3 (((r.evo f1).trans v2).trans v3) q1⟩
end
end G
namespace G
open PySem L2

/-! ### methods of lists and texts, by data -/
def D.isL : D → Bool | .lst _ => true | _ => false
def D.isS : D → Bool | .str _ => true | _ => false
def MtD (K : PySem.W.Frag) (g : Gp) (r : V → List V → Hp → VK → Prop) (f : D → List D → Option D) : Prop := ∀ (c : Option Addr) (F H : Hp) (x : D) (xs : List D) (z : D) (v : V) (vs : List V) (Q' : VK), Ex F H → (∀ a, c = some a → F a = none) →
  RepT K g c F H x v → RepTs K g c F H xs vs → f x xs = some z → (∀ v' H' F', New F H F' H' → Rep K g F' z v' → Q' v' H') → r v vs H Q'
def dMt (p : D → Bool) (f : D → List D → Option D) (d : DE) (dl : DL) : DE := fun env m Q => d env m fun x m1 => p x = true ∧ dl env m1 fun xs m2 => ∃ z, f x xs = some z ∧ Q z m2
section
variable {K : PySem.W.Frag} {g : Gp} {X : Cx} {e o : Expr} {es : List Expr} {dl : DL} {d : DE} {pos apos cpos p : Pos} {x : Str}
theorem mt_weak {T : String} {P : D → Bool} {r : V → List V → Hp → VK → Prop} {f : D → List D → Option D} (md : MtD X.K g r f) (ty : ∀ (c : Option Addr) (F H : Hp) (x : D) (v : V), P x = true → RepT X.K g c F H x v → tyV X.K T v H) :
    ∀ σ H Q, tD X.K g (dMt P f d dl) σ H Q → tBM X.K T r (tB X.K g d) (tAb X.K g dl) σ H Q := fun σ H Q ⟨c, F, env, m, Q1, rl, hd, k⟩ =>
  ⟨c, F, env, m, _, rl, hd, fun v H1 F1 m1 x r1 f1 rp ⟨hp, q1⟩ => ⟨ty c F1 H1 x v hp rp, c, F1, env, m1, _, r1, q1, fun vs H2 F2 m2 xs r2 f2 rps ⟨z, hz, q2⟩ =>
    md c F2 H2 x xs z v vs Q r2.sub r2.nc (rp.mono f2) rps hz fun v' H' F' n rp' => k v' H' F' m2 z (r2.new n) ((f1.trans f2).trans (n.fresh r2.ck)) rp' q2⟩⟩
theorem ty_list {c : Option Addr} {F H : Hp} {x : D} {v : V} (h : x.isL = true) (r : RepT K g c F H x v) : tyV K "list" v H := by
  cases x with
  | lst ds => obtain ⟨p, xs, rfl, h1, _, _⟩ := r; exact .inl ⟨rfl, xs, SqL.of h1⟩
  | _ => cases h
theorem ty_str {c : Option Addr} {F H : Hp} {x : D} {v : V} (h : x.isS = true) (r : RepT K g c F H x v) : tyV K "str" v H := by
  cases x with
  | str s => rw [r.str']; exact rfl
  | _ => cases h
theorem ge_mtL {name : Str} {id : String} {r : V → List V → Hp → VK → Prop} {f : D → List D → Option D} (slot : Slot "list" name id) (hty : typeOf (.builtin id) = pure (.type "method_descriptor")) (hm : MtR X id r) (md : MtD X.K g r f) (ho : GB g X o d) (ha : GAb g X (e :: es) dl)
    (hbase : attributeBase o name X.env (eval o X.env) = eval o X.env := by rfl)
    (hfew : ((backTo cpos (starEach (e :: es) X.env)).all (fun x => !x.1) && (backToKw cpos (keywordEach [] X.env)).all (fun x => x.1.isSome) && decide ((e :: es).length + ([] : List Keyword).length + (if ([] : List Keyword).isEmpty then 0 else 1) < 30)) = true := by rfl)
    (hline : (apos.endLine == cpos.line) = true := by rfl) (hs : starEach (e :: es) X.env = (false, eval e X.env) :: starEach es X.env := by rfl) (hplain : (backTo cpos (starEach es X.env)).any (·.1) = false := by rfl) :
    GE g X (.Call (.Attribute o name apos) (e :: es) [] cpos) (dMt D.isL f d dl) := PE.weak (pe_bm PySem.F.plainAttrs_list slot hty hm ho ha hbase hfew hline hs hplain) (mt_weak md fun _ _ _ _ _ => ty_list)
theorem ge_mtS {name : Str} {id : String} {r : V → List V → Hp → VK → Prop} {f : D → List D → Option D} (slot : Slot "str" name id) (hty : typeOf (.builtin id) = pure (.type "method_descriptor")) (hm : MtR X id r) (md : MtD X.K g r f) (ho : GB g X o d) (ha : GAb g X (e :: es) dl)
    (hbase : attributeBase o name X.env (eval o X.env) = eval o X.env := by rfl)
    (hfew : ((backTo cpos (starEach (e :: es) X.env)).all (fun x => !x.1) && (backToKw cpos (keywordEach [] X.env)).all (fun x => x.1.isSome) && decide ((e :: es).length + ([] : List Keyword).length + (if ([] : List Keyword).isEmpty then 0 else 1) < 30)) = true := by rfl)
    (hline : (apos.endLine == cpos.line) = true := by rfl) (hs : starEach (e :: es) X.env = (false, eval e X.env) :: starEach es X.env := by rfl) (hplain : (backTo cpos (starEach es X.env)).any (·.1) = false := by rfl) :
    GE g X (.Call (.Attribute o name apos) (e :: es) [] cpos) (dMt D.isS f d dl) := PE.weak (pe_bm PySem.F.plainAttrs_str slot hty hm ho ha hbase hfew hline hs hplain) (mt_weak md fun _ _ _ _ _ => ty_str)
/-! join -/
def strsD : List D → Option (List Str)
  | [] => some []
  | .str s :: r => (strsD r).map (s :: ·)
  | _ :: _ => none
theorem strsD_map : ∀ {ds : List D} {bs : List Str}, strsD ds = some bs → ds = bs.map D.str
  | [], _, h => by cases h; rfl
  | .str b :: r, bs, h => by
    obtain ⟨cs, h1, rfl⟩ := Option.map_eq_some_iff.mp h
    rw [strsD_map h1]; rfl
  | .non :: _, _, h => by cases h
  | .int _ :: _, _, h => by cases h
  | .bl _ :: _, _, h => by cases h
  | .tup _ :: _, _, h => by cases h
  | .lst _ :: _, _, h => by cases h
  | .dic _ :: _, _, h => by cases h
  | .web _ _ :: _, _, h => by cases h
theorem strsD_of (bs : List Str) : strsD (bs.map D.str) = some bs := by
  induction bs with
  | nil => rfl
  | cons b r ih => rw [List.map_cons]; unfold strsD; rw [ih]; rfl
def joinOk (a : Str) (ys : List Str) : Bool := decide ((ys.map (·.length)).sum + ys.length * a.length ≤ 16777216)
def joinD : D → List D → Option D
  | .str a, [.lst ds] => (strsD ds).bind fun ys => if joinOk a ys then some (.str (Txt.join a ys)) else none
  | .str a, [.tup ds] => (strsD ds).bind fun ys => if joinOk a ys then some (.str (Txt.join a ys)) else none
  | _, _ => none
theorem md_join : MtD K g (fun x xs H Q => ∃ a p, ∃ ys : List Str, x = .str a ∧ xs = [.ref p] ∧ (SqL K H p (ys.map V.str) ∨ SqT K H p (ys.map V.str)) ∧
    (ys.map (·.length)).sum + ys.length * a.length ≤ 16777216 ∧ Q (.str (Txt.join a ys)) H) joinD := fun c F H x xs z v vs Q' e nc rx rs hz k => by
  unfold joinD at hz
  split at hz
  · obtain ⟨ys, h1, h2⟩ := Option.bind_eq_some_iff.mp hz
    split at h2
    · rename_i ok
      cases h2
      have := strsD_map h1
      subst this
      cases rs with
      | cons h t =>
        cases t
        obtain ⟨p, ws, rfl, g1, g2, _⟩ := h
        have := repL_strs g2
        subst this
        exact ⟨_, p, ys, rx.str', rfl, .inl (SqL.of g1), of_decide_eq_true ok, k _ H F (New.refl e) (.str _)⟩
    · cases h2
  · obtain ⟨ys, h1, h2⟩ := Option.bind_eq_some_iff.mp hz
    split at h2
    · rename_i ok
      cases h2
      have := strsD_map h1
      subst this
      cases rs with
      | cons h t =>
        cases t
        obtain ⟨p, ws, rfl, g1, g2⟩ := h.tup'
        have := repL_strs g2
        subst this
        exact ⟨_, p, ys, rx.str', rfl, .inr (Evl.ex_t e g1), of_decide_eq_true ok, k _ H F (New.refl e) (.str _)⟩
    · cases h2
  · cases hz
/-! count, index: items that are flat -/
def D.fv : D → Option V | .non => some .non | .bl b => some (.bl b) | .int i => some (.int i) | .str s => some (.str s) | _ => none
def flats : List D → Option (List V)
  | [] => some []
  | d :: r => d.fv.bind fun v => (flats r).map (v :: ·)
theorem flat_rep {F : Hp} {x : D} {v w : V} (h : x.fv = some v) (r : Rep K g F x w) : w = v ∧ flatV v = true := by
  cases x <;> simp only [D.fv] at h <;> first | (cases h; cases r; exact ⟨rfl, rfl⟩) | cases h
theorem flat_repT {c : Option Addr} {F H : Hp} {x : D} {v w : V} (h : x.fv = some v) (r : RepT K g c F H x w) : w = v ∧ flatV v = true := by
  cases x with
  | lst ds => cases h
  | non => exact flat_rep (g := g) (K := K) (F := F) h r
  | bl _ => exact flat_rep (g := g) (K := K) (F := F) h r
  | int _ => exact flat_rep (g := g) (K := K) (F := F) h r
  | str _ => exact flat_rep (g := g) (K := K) (F := F) h r
  | tup _ => cases h
  | dic _ => cases h
  | web _ _ => cases h
theorem flats_rep {F : Hp} : ∀ {ds : List D} {vs ws : List V}, flats ds = some vs → RepL K g F ds ws → ws = vs ∧ vs.all flatV = true
  | [], _, _, h, .nil => by cases h; exact ⟨rfl, rfl⟩
  | d :: r, vs, _, h, .cons h1 t1 => by
    obtain ⟨v, e1, e2⟩ := Option.bind_eq_some_iff.mp h
    obtain ⟨us, e3, rfl⟩ := Option.map_eq_some_iff.mp e2
    obtain ⟨a1, a2⟩ := flat_rep e1 h1
    obtain ⟨b1, b2⟩ := flats_rep e3 t1
    exact ⟨by rw [a1, b1], by rw [List.all_cons, a2, b2]; rfl⟩
def countD : D → List D → Option D
  | .lst ds, [x] => (flats ds).bind fun vs => x.fv.map fun v => .int ((vs.countP fun z => eqV z v : Nat))
  | _, _ => none
theorem md_count : MtD K g (rCntF K) countD := fun c F H x xs z v vs Q' e nc rx rs hz k => by
  unfold countD at hz
  split at hz
  · obtain ⟨ws, h1, h2⟩ := Option.bind_eq_some_iff.mp hz
    obtain ⟨w, h3, rfl⟩ := Option.map_eq_some_iff.mp h2
    obtain ⟨p, ys, rfl, g1, g2, _⟩ := rx
    obtain ⟨rfl, fl⟩ := flats_rep h1 g2
    cases rs with
    | cons h t =>
      cases t
      obtain ⟨rfl, fv⟩ := flat_repT h3 h
      exact ⟨p, ys, _, rfl, rfl, SqL.of g1, fv, fl, k _ H F (New.refl e) (.int _)⟩
  · cases hz
def indexD : D → List D → Option D
  | .lst ds, [x] => (flats ds).bind fun vs => x.fv.bind fun v => (vs.findIdx? fun z => eqV z v).map fun (i : Nat) => .int i
  | _, _ => none
theorem md_index : MtD K g (rIndex K) indexD := fun c F H x xs z v vs Q' e nc rx rs hz k => by
  unfold indexD at hz
  split at hz
  · obtain ⟨ws, h1, h2⟩ := Option.bind_eq_some_iff.mp hz
    obtain ⟨w, h3, h4⟩ := Option.bind_eq_some_iff.mp h2
    obtain ⟨i, h5, rfl⟩ := Option.map_eq_some_iff.mp h4
    obtain ⟨p, ys, rfl, g1, g2, _⟩ := rx
    obtain ⟨rfl, fl⟩ := flats_rep h1 g2
    cases rs with
    | cons h t =>
      cases t
      obtain ⟨rfl, fv⟩ := flat_repT h3 h
      rw [List.findIdx?_eq_some_iff_getElem] at h5
      obtain ⟨l1, l2, l3⟩ := h5
      refine ⟨p, ys, _, i, ys[i], rfl, rfl, SqL.of g1, fv, fl, List.getElem?_eq_getElem l1, l2, fun j z' hj hz' => ?_, k _ H F (New.refl e) (.int _)⟩
      obtain ⟨hl, rfl⟩ := List.getElem?_eq_some_iff.mp hz'
      simpa using l3 j hj
  · cases hz

/-! ### attributes of a web -/
def dPl (d : DE) : DE := fun env m Q => d env m fun x m1 => ∃ pl ts, x = .web pl ts ∧ Q (.str pl) m1
def dTs (d : DE) : DE := fun env m Q => d env m fun x m1 => ∃ pl ts, x = .web pl ts ∧ Q (.tup (ts.map D.str)) m1
theorem ge_places (hc : Cls X.K g.Cw) (hn : NoAttr X.K g.Cw "places") (he : GE g X e d) (hb : attributeBase e "places" X.env (eval e X.env) = eval e X.env := by rfl) : GE g X (.Attribute e "places" pos) (dPl d) :=
  PE.weak (pe_fld he hb) fun σ H Q ⟨c, F, env, m, Q1, rl, hd, k⟩ => ⟨c, F, env, m, _, rl, hd, fun v H1 F1 m1 x r1 f1 rp ⟨pl, ts, ex, q⟩ => by
    subst ex
    cases rp with
    | web h1 h2 => exact ⟨_, _, _, _, _, rfl, r1.sub _ _ h1, hc, hn, rfl, k _ H1 F1 m1 _ r1 f1 (.str _) q⟩⟩
theorem ge_ties (hc : Cls X.K g.Cw) (hn : NoAttr X.K g.Cw "ties") (he : GE g X e d) (hb : attributeBase e "ties" X.env (eval e X.env) = eval e X.env := by rfl) : GE g X (.Attribute e "ties" pos) (dTs d) :=
  PE.weak (pe_fld he hb) fun σ H Q ⟨c, F, env, m, Q1, rl, hd, k⟩ => ⟨c, F, env, m, _, rl, hd, fun v H1 F1 m1 x r1 f1 rp ⟨pl, ts, ex, q⟩ => by
    subst ex
    cases rp with
    | web h1 h2 => exact ⟨_, _, _, _, _, rfl, r1.sub _ _ h1, hc, hn, rfl, k _ H1 F1 m1 _ r1 f1 (.tup h2 (repL_of_strs _)) q⟩⟩

/-! ### isinstance -/
def tyD (g : Gp) : D → Value
  | .non => .type "NoneType" | .bl _ => .type "bool" | .int _ => .type "int" | .str _ => .type "str" | .tup _ => .type "tuple" | .lst _ => .type "list" | .dic _ => .type "dict" | .web _ _ => .ref g.Cw
structure WebTy (K : PySem.W.Frag) (g : Gp) : Prop where
  cls : Cls K g.Cw
  ha : PySem.W.findIn K (.ref g.Cw) "__class__" = some (some (.builtin "object.__class__"))
  hn : PySem.W.specialIn K (.builtin "object.__class__") "__get__" = some (some (.builtin "getset_descriptor.__get__"))
  htk : PySem.W.takesIn K (.builtin "object.__class__") = true
  hm : PySem.W.mroIn K g.Cw (.type "object") = some true
theorem tyx_tup {H : Hp} {a : Addr} {xs : List V} (h : SqT K H a xs) : TyX K H (.ref a) (.type "tuple") := by
  rcases h with (h | ⟨o, h⟩) | ⟨o, its, n, h1, h2, _⟩
  · exact .base (.tup h)
  · exact .fTuple h
  · exact .kTuple h1 h2
theorem tyx_of (W : WebTy K g) {c : Option Addr} {F H : Hp} {x : D} {v : V} (e : Ex F H) (r : RepT K g c F H x v) : TyX K H v (tyD g x) := by
  cases x with
  | non => rw [r.non']; exact .base .non
  | bl b => rw [r.bl']; exact .base (.bl b)
  | int b => rw [r.int']; exact .base (.int b)
  | str b => rw [r.str']; exact .base (.str b)
  | tup ds => obtain ⟨a, xs, rfl, h1, _⟩ := r.tup'; exact tyx_tup (Evl.ex_t e h1)
  | lst ds => obtain ⟨a, xs, rfl, h1, _⟩ := r; exact .base (.lst h1)
  | dic ds => obtain ⟨a, xs, rfl, h1, _⟩ := r.dic'; exact .base (.dK (e _ _ h1))
  | web p t => obtain ⟨a, _, _, rfl, h1, _⟩ := r.web'; exact .base (.ins (e _ _ h1) W.cls W.ha W.hn W.htk W.hm)
def dIsi (f : D → Option Bool) (d : DE) : DE := fun env m Q => d env m fun x m1 => ∃ b, f x = some b ∧ Q (.bl b) m1
theorem ge_isi {cx : Expr} {cv : V} {u : Value} {f : D → Option Bool} (W : WebTy X.K g) (cl : ClsV cv u) (hcx : PE X cx (tC cv)) (hf : ∀ x b, f x = some b → PySem.W.kitOne X.K (tyD g x) u = some b) (hg : Gl X "isinstance") (hm : X.mg "isinstance" = none)
    (he : GB g X e d) (hs : starEach [e, cx] X.env = (false, eval e X.env) :: starEach [cx] X.env := by rfl) (hs2 : starEach [cx] X.env = (false, eval cx X.env) :: starEach [] X.env := by rfl) :
    GE g X (.Call (.Name "isinstance" p) [e, cx] [] pos) (dIsi f d) :=
  PE.weak (pe_callB call_isi hg hm rfl (pa_cons he (pa_cons hcx pa_nil hs2) hs) (by decide) (by decide) hs (by rw [hs2]; rfl)) fun σ H Q ⟨c, F, env, m, Q1, rl, hd, k⟩ =>
    ⟨c, F, env, m, _, rl, hd, fun v H1 F1 m1 x r1 f1 rp ⟨b, hb, q⟩ => ⟨v, cv, _, u, b, rfl, cl, tyx_of W r1.sub rp, hf x b hb, k _ H1 F1 m1 _ r1 f1 (.bl b) q⟩⟩
def isStrD : D → Option Bool | .str _ => some true | _ => none
def isTupD : D → Option Bool | .tup _ => some true | _ => none
def isWebD : D → Option Bool | .web _ _ => some true | _ => none

/-! ### slices of lists: xs[i:] -/
def dDrop' (d di : DE) : DL := fun env m Q => d env m fun x m1 => di env m1 fun y m2 => ∃ ds, ∃ i : Nat, x = .lst ds ∧ y = .int i ∧ Q (ds.drop i) m2
theorem sIx_nat (n i : Nat) : HT.sIx n 0 (some (i : Int)) = min i n := by
  unfold HT.sIx
  simp
  omega
theorem cutV_drop (xs : List V) (i : Nat) : cutV xs (some (i : Int)) none = xs.drop i := by
  unfold cutV
  rw [sIx_nat]
  have : HT.sIx xs.length xs.length none = xs.length := rfl
  rw [this]
  by_cases h : i ≤ xs.length
  · rw [Nat.min_eq_left h, List.take_of_length_le (by rw [List.length_drop]; omega)]
  · rw [Nat.min_eq_right (by omega), List.drop_length, List.drop_eq_nil_of_le (by omega), List.take_nil]
theorem gn_drop {lo : Expr} {di : DE} {p2 : Pos} (he : GB g X e d) (hl : GE g X lo di) : GN g X (.Subscript e (.Slice (some lo) none none p2) pos) (dDrop' d di) :=
  PE.weak (pe_slice sl_list he (po_some hl) po_none) fun σ H Q ⟨c, F, env, m, Q1, rl, hd, k⟩ =>
    ⟨c, F, env, m, _, rl, hd, fun v H1 F1 m1 x r1 f1 rp q1 => ⟨c, F1, env, m1, _, r1, q1, fun w H2 F2 m2 y r2 f2 rp2 ⟨ds, i, ex, ey, q⟩ => by
      subst ex ey
      cases rp2
      obtain ⟨p, xs, rfl, h1, h2, h3⟩ := rp.mono f2
      refine ⟨(i : Int), rfl, p, xs, rfl, SqL.of h1, fun l hl => ?_⟩
      have hc : c ≠ some l := fun z => by obtain ⟨_, _, e, _⟩ := r2.ck l z; rw [e] at hl; cases hl
      have n := New.lay (F := F2) (o := .lst (cutV xs (some (i : Int)) none)) r2.sub hl
      have f12 := f1.trans f2
      have h0 : H l = none := by
        cases z : H l with
        | none => rfl
        | some o => rw [f12.hh l o z hc] at hl; cases hl
      exact k l _ F2 m2 (ds.drop i) _ (r2.new n) (f12.trans (n.fresh r2.ck)) h0 (ex_none r2.sub hl) hc upd_same (by rw [cutV_drop]; exact h2.drop i) q⟩⟩

/-! ### sorted(set(t)), t a tuple of few ints -/
def intsD : List D → Option (List Int)
  | [] => some []
  | .int i :: r => (intsD r).map (i :: ·)
  | _ :: _ => none
theorem intsD_map : ∀ {ds : List D} {bs : List Int}, intsD ds = some bs → ds = bs.map D.int
  | [], _, h => by cases h; rfl
  | .int b :: r, bs, h => by
    obtain ⟨cs, h1, rfl⟩ := Option.map_eq_some_iff.mp h
    rw [intsD_map h1]; rfl
  | .non :: _, _, h => by cases h
  | .str _ :: _, _, h => by cases h
  | .bl _ :: _, _, h => by cases h
  | .tup _ :: _, _, h => by cases h
  | .lst _ :: _, _, h => by cases h
  | .dic _ :: _, _, h => by cases h
  | .web _ _ :: _, _, h => by cases h
theorem intsD_of (bs : List Int) : intsD (bs.map D.int) = some bs := by
  induction bs with
  | nil => rfl
  | cons b r ih => rw [List.map_cons]; unfold intsD; rw [ih]; rfl
def dSortSet (d : DE) : DL := fun env m Q => d env m fun x m1 => ∃ ns : List Int, x = .tup (ns.map D.int) ∧ ns.length ≤ 50 ∧ ∀ ms : List Int, ms.Pairwise (· < ·) → (∀ k, k ∈ ms ↔ k ∈ ns) → Q (ms.map D.int) m1
theorem gn_sortSet {p2 pos2 : Pos} (hc : X.calm = true) (hg : Gl X "sorted") (hm : X.mg "sorted" = none) (hg2 : Gl X "set") (hm2 : X.mg "set" = none) (he : GE g X e d) (hs : starEach [e] X.env = (false, eval e X.env) :: starEach [] X.env := by rfl)
    (hs2 : starEach [.Call (.Name "set" p2) [e] [] pos2] X.env = (false, eval (.Call (.Name "set" p2) [e] [] pos2) X.env) :: starEach [] X.env := by rfl) :
    GN g X (.Call (.Name "sorted" p) [.Call (.Name "set" p2) [e] [] pos2] [] pos) (dSortSet d) :=
  PE.weak (pe_callB (cr_sortedSet hc) hg hm rfl (pa_cons (pe_callTy (cr_setTup hc) hg2 hm2 rfl (pa_cons he pa_nil hs) (by decide) (by decide) hs rfl) pa_nil hs2) (by decide) (by decide) hs2 rfl) fun σ H Q ⟨c, F, env, m, Q1, rl, hd, k⟩ =>
    ⟨c, F, env, m, _, rl, hd, fun v H1 F1 m1 x r1 f1 rp ⟨ns, ex, hn, q⟩ => by
      subst ex
      cases rp with
      | tup h1 h2 =>
        have := repL_ints h2
        subst this
        refine ⟨_, ns, rfl, Evl.ex_t r1.sub h1, hn, fun a n ha hle => ⟨a, _, n, rfl, upd_same, by omega, fun ms l hp hm hl hfree => ?_⟩⟩
        have n1 := New.lay (F := F1) (o := SetO X.w a (fun j => decide (j ∈ ns)) n) r1.sub ha
        have r2 := r1.new n1
        have n2 := New.lay (F := F1) (o := .lst (ms.map V.int)) r2.sub hfree
        have hcl : c ≠ some l := fun z => by obtain ⟨_, _, e, _⟩ := r2.ck l z; rw [e] at hfree; cases hfree
        have f2 := (f1.trans (n1.fresh r1.ck)).trans (n2.fresh r2.ck)
        have h0 : H l = none := by
          cases z : H l with
          | none => rfl
          | some o => rw [(f1.trans (n1.fresh r1.ck)).hh l o z hcl] at hfree; cases hfree
        exact k l _ F1 m1 _ _ (r2.new n2) f2 h0 (ex_none r2.sub hfree) hcl upd_same (repL_of_ints ms) (q ms hp fun j => by rw [hm j]; simp)⟩
end
end G
namespace G
open PySem L2

/-! ### two at once, some of them lists of one's own -/
section
variable {g : Gp} {X : Cx} {a b : Expr} {d : DE} {dl dl2 : DL} {pos : Pos}
theorem fresh_keeps {c : Option Addr} {F H F' H' : Hp} {p : Addr} {xs : List V} (f : Fresh c F H F' H') (hF : F p = none) (hH : H p = some (.lst xs)) (hc : c ≠ some p) : F' p = none ∧ H' p = some (.lst xs) := by
  refine ⟨?_, f.hh _ _ hH hc⟩
  cases z : F' p with
  | none => rfl
  | some o =>
    rcases f.new p o z with y | y
    · rw [hF] at y; cases y
    · rw [hH] at y; cases y
theorem not_own {K : PySem.W.Frag} {c : Option Addr} {F H : Hp} {env : Env'} {m : Nat} {σ : St} {p : Addr} (r : Rel K g c F env m σ H) (h : H p = none) : ¬ Own env σ p := fun z => by
  obtain ⟨_, _, y⟩ := r.ownH z
  rw [h] at y; cases y
/-- a, b = e, [..] -/
def dParEN (i j : Nat) (d : DE) (dl : DL) : DS := fun env m E => d env m fun x m1 => dl env m1 fun ds m2 => E.nx ((env.set i (.val x)).set j (.own ds)) m2
theorem gs_parEN {i j : Nat} {x y : Str} {px py pt : Pos} {kt k2 pt2} (hc : X.calm = true) (hN : X.N.Nodup) (hi : X.N[i]? = some x) (hj : X.N[j]? = some y) (hij : i ≠ j)
    (hx : X.env.scope.names.lookup x = some .local) (hy : X.env.scope.names.lookup y = some .local) (ha : GE g X a d) (hb : GN g X b dl)
    (hw : swappedStores [.Tuple [.Name x px, .Name y py] kt pt] (.Tuple [a, b] k2 pt2) X.env = pure (some [x, y]))
    (hs : swapsWithSole [.Tuple [.Name x px, .Name y py] kt pt] (.Tuple [a, b] k2 pt2) pos.line X.env = pure false := by rfl)
    (h1 : starEach [a, b] X.env = (false, eval a X.env) :: starEach [b] X.env := by rfl) (h2 : starEach [b] X.env = (false, eval b X.env) :: starEach [] X.env := by rfl) :
    GS g X (.Assign [.Tuple [.Name x px, .Name y py] kt pt] (.Tuple [a, b] k2 pt2) pos) (dParEN i j d dl) := PS.weak (ps_par hc hN hi hj hij hx hy (pa_cons ha (pa_cons hb pa_nil h2) h1) hw hs) fun D σ H ⟨c, F, env, m, E, r, h, o⟩ =>
  ⟨c, F, env, m, _, r, h, fun v H1 F1 m1 z r1 f1 rp q1 => ⟨c, F1, env, m1, _, r1, q1, fun p H2 F2 m2 ds xs r2 f2 h0 hp hcp hH rl q2 => by
    have no : ¬ Own env σ p := not_own r1 h0
    have no2 : ¬ Own (env.set i (.val z)) (σ.set i (some v)) p := fun w => no (own_set r.len sl_no w)
    refine ⟨v, .ref p, rfl, o.nx _ H2 F2 _ m2 ((r2.setV (rp.mono f2.ff)).setO hp hH rl hcp no2) ?_ q2⟩
    have e := r.evo (f1.trans f2)
    refine ⟨e.ff, e.fh, e.hh, e.new, e.nc, fun w hw => ?_⟩
    rcases own_setO (by rw [List.length_set, List.length_set, r.len]) hw with rfl | hw
    · refine ⟨hcp, .inr ?_⟩
      cases y : H w with
      | none => rfl
      | some u => rw [f1.hh w u y hcp] at h0; cases h0
    · exact e.own w (own_set r.len sl_no hw)⟩⟩
/-- a, b = [..], [..] -/
def dParNN (i j : Nat) (dl dl2 : DL) : DS := fun env m E => dl env m fun ds m1 => dl2 env m1 fun es m2 => E.nx ((env.set i (.own ds)).set j (.own es)) m2
theorem nn_rel {K : PySem.W.Frag} {c : Option Addr} {F H F1 H1 F2 H2 : Hp} {env : Env'} {m m2 : Nat} {σ : St} {p q : Addr} {ds es : List D} {xs ys : List V} {i j : Nat} (hij : i ≠ j) (r : Rel K g c F env m σ H) (f1 : Fresh c F H F1 H1) (h0 : H p = none) (hp : F1 p = none) (hcp : c ≠ some p) (hH : H1 p = some (.lst xs)) (rl : RepL K g F1 ds xs)
    (r2 : Rel K g c F2 env m2 σ H2) (f2 : Fresh c F1 H1 F2 H2) (h0' : H1 q = none) (hq : F2 q = none) (hcq : c ≠ some q) (hH2 : H2 q = some (.lst ys)) (rl2 : RepL K g F2 es ys) :
    Rel K g c F2 ((env.set i (.own ds)).set j (.own es)) m2 ((σ.set i (some (.ref p))).set j (some (.ref q))) H2 ∧ Evo c (Own env σ) F H (Own ((env.set i (.own ds)).set j (.own es)) ((σ.set i (some (.ref p))).set j (some (.ref q)))) F2 H2 := by
  obtain ⟨k1, k2⟩ := fresh_keeps f2 hp hH hcp
  have hq0 : H q = none := by
    cases y : H q with
    | none => rfl
    | some u => rw [f1.hh q u y hcq] at h0'; cases h0'
  have ne : q ≠ p := fun z => by subst z; rw [hH] at h0'; cases h0'
  have no : ¬ Own env σ p := not_own r h0
  have ra := r2.setO (i := i) k1 k2 (rl.mono f2.ff) hcp no
  have no2 : ¬ Own (env.set i (.own ds)) (σ.set i (some (.ref p))) q := fun w => by
    rcases own_setO r.len w with rfl | w
    · exact ne rfl
    · exact not_own r hq0 w
  have rb := ra.setO (i := j) hq hH2 rl2 hcq no2
  refine ⟨rb, ?_⟩
  have e := r.evo (f1.trans f2)
  refine ⟨e.ff, e.fh, e.hh, e.new, e.nc, fun w hw => ?_⟩
  rcases own_setO (by rw [List.length_set, List.length_set, r.len]) hw with rfl | hw
  · exact ⟨hcq, .inr hq0⟩
  · rcases own_setO r.len hw with rfl | hw
    · exact ⟨hcp, .inr h0⟩
    · exact e.own w hw
theorem gs_parNN {i j : Nat} {x y : Str} {px py pt : Pos} {kt k2 pt2} (hc : X.calm = true) (hN : X.N.Nodup) (hi : X.N[i]? = some x) (hj : X.N[j]? = some y) (hij : i ≠ j)
    (hx : X.env.scope.names.lookup x = some .local) (hy : X.env.scope.names.lookup y = some .local) (ha : GN g X a dl) (hb : GN g X b dl2)
    (hw : swappedStores [.Tuple [.Name x px, .Name y py] kt pt] (.Tuple [a, b] k2 pt2) X.env = pure (some [x, y]))
    (hs : swapsWithSole [.Tuple [.Name x px, .Name y py] kt pt] (.Tuple [a, b] k2 pt2) pos.line X.env = pure false := by rfl)
    (h1 : starEach [a, b] X.env = (false, eval a X.env) :: starEach [b] X.env := by rfl) (h2 : starEach [b] X.env = (false, eval b X.env) :: starEach [] X.env := by rfl) :
    GS g X (.Assign [.Tuple [.Name x px, .Name y py] kt pt] (.Tuple [a, b] k2 pt2) pos) (dParNN i j dl dl2) := PS.weak (ps_par hc hN hi hj hij hx hy (pa_cons ha (pa_cons hb pa_nil h2) h1) hw hs) fun D σ H ⟨c, F, env, m, E, r, h, o⟩ =>
  ⟨c, F, env, m, _, r, h, fun p H1 F1 m1 ds xs r1 f1 h0 hp hcp hH rl q1 => ⟨c, F1, env, m1, _, r1, q1, fun q H2 F2 m2 es ys r2 f2 h0' hq hcq hH2 rl2 q2 => by
    obtain ⟨rb, e⟩ := nn_rel (i := i) (j := j) hij r f1 h0 hp hcp hH rl r2 f2 h0' hq hcq hH2 rl2
    exact ⟨.ref p, .ref q, rfl, o.nx _ H2 F2 _ m2 rb e q2⟩⟩⟩
/-- the same, not plain locals -/
theorem gs_asgNN {i j : Nat} {x y : Str} {px py pt : Pos} {kt k2 pt2} (hc : X.calm = true) (hN : X.N.Nodup) (hi : X.N[i]? = some x) (hj : X.N[j]? = some y) (hij : i ≠ j)
    (hx : Loc X.env.scope x) (hy : Loc X.env.scope y) (ha : GN g X a dl) (hb : GN g X b dl2)
    (hs : swapsWithSole [.Tuple [.Name x px, .Name y py] kt pt] (.Tuple [a, b] k2 pt2) pos.line X.env = pure false := by rfl) (hw : swappedStores [.Tuple [.Name x px, .Name y py] kt pt] (.Tuple [a, b] k2 pt2) X.env = pure none := by rfl)
    (hh : (assignEach [.Tuple [.Name x px, .Name y py] kt pt] X.env).map (·.2) = [assign (.Tuple [.Name x px, .Name y py] kt pt) X.env] := by rfl)
    (h1 : starEach [a, b] X.env = (false, eval a X.env) :: starEach [b] X.env := by rfl) (h2 : starEach [b] X.env = (false, eval b X.env) :: starEach [] X.env := by rfl)
    (hf : X.fn x = true ∨ X.env.scope.names.lookup x = some .local := by first | exact .inl rfl | exact .inr rfl | assumption) (hf2 : X.fn y = true ∨ X.env.scope.names.lookup y = some .local := by first | exact .inl rfl | exact .inr rfl | assumption)
    (hn : (assignEach [.Name x px, .Name y py] X.env).length = 2 := by rfl) (hst : (assignEach [.Name x px, .Name y py] X.env).findIdx? (·.1) = none := by rfl)
    (he1 : (assignEach [.Name x px, .Name y py] X.env).map (·.2) = assign (.Name x px) X.env :: (assignEach [.Name y py] X.env).map (·.2) := by rfl) (he2 : (assignEach [.Name y py] X.env).map (·.2) = assign (.Name y py) X.env :: (assignEach [] X.env).map (·.2) := by rfl) :
    GS g X (.Assign [.Tuple [.Name x px, .Name y py] kt pt] (.Tuple [a, b] k2 pt2) pos) (dParNN i j dl dl2) :=
  PS.weak (ps_asg (pe_tup (pa_cons ha (pa_cons hb pa_nil h2) h1)) (pg_tup hc (pgs_cons (pg_name hN hi hx hf) (pgs_cons (pg_name hN hj hy hf2) pgs_nil he2) he1) hn hst) hs hw hh) fun D σ H ⟨c, F, env, m, E, r, h, o⟩ =>
  ⟨c, F, env, m, _, r, h, fun p H1 F1 m1 ds xs r1 f1 h0 hp hcp hH rl q1 => ⟨c, F1, env, m1, _, r1, q1, fun q H2 F2 m2 es ys r2 f2 h0' hq hcq hH2 rl2 q2 => by
    refine ⟨ll (show 2 ≤ LL by decide), fun t ht => ⟨t, [.ref p, .ref q], rfl, SqT.of upd_same, rfl, .ref p, _, rfl, .ref q, _, rfl, rfl, ?_⟩⟩
    have n := New.lay (F := F2) (o := .tup [.ref p, .ref q]) r2.sub ht
    have nf := n.fresh r2.ck
    have hq' : upd H2 t (.tup [.ref p, .ref q]) q = some (.lst ys) := n.hh _ _ hH2
    obtain ⟨rb, e⟩ := nn_rel (i := i) (j := j) hij r f1 h0 hp hcp hH rl (r2.new n) (f2.trans nf) h0' hq hcq hq' rl2
    exact o.nx _ _ F2 _ m2 rb e q2⟩⟩
end

/-! ### len of a web, by its own __len__ -/
def lenSpec : Spec := fun as m Q => ∃ pl ts, as = [.val (.web pl ts)] ∧ Q (.int (ts.length : Nat)) m
section
variable {g : Gp} {X : Cx} {k : Nat} {f : Addr} {fd : FuncData} {ps : List Str}
theorem cr_lenW (F : FnOk X.prog X.w X.K X.mg X.base CX0 k f fd ps (spOf X.K g lenSpec)) (hr : Room (k + 1) X.A) (hs : PySem.W.findIn X.K (.ref g.Cw) "__len__" = some (some (.ref f))) (hf : PySem.W.isFn X.K (.ref f) = true) (hb : Binds X.K fd ps []) : CallR X (.builtin "len") (rLenW X.K g.Cw) := by
  intro pins s σ H xs us Q I r h
  obtain ⟨a, dx, t, pl, ts, rfl, ha, ht, q⟩ := h
  obtain ⟨u, rfl, ru⟩ := vals1 r
  cases ru
  obtain ⟨mA, J, _⟩ := ins_get I.hok ha
  obtain ⟨od, J, _⟩ := J.look
  obtain ⟨m, hF⟩ := I.fr
  obtain ⟨its, rv, _, hz⟩ := I.tuple ht
  rw [List.length_map] at hz
  refine PySem.W.len_K hF I.ok.mod.kin J hs hf ?_
  have hsp : spOf X.K g lenSpec [.ref a] H (fun v H' => v = .int (ts.length : Nat) ∧ Ex H H') E0 := ⟨none, H, [.val (.web pl ts)], 0, fun d _ => d = .int (ts.length : Nat), fun _ _ h => h, .cons (.web ha ht) .nil, (fun _ z => nomatch z), ⟨pl, ts, rfl, rfl⟩, fun v H' F' m' x fr _ rp e => by
    subst e
    cases rp
    exact ⟨rfl, fun b o hb => fr.hh b o hb (fun z => nomatch z)⟩⟩
  have e0 : Env0 X.prog X.w X.K X.mg X.base X.A.in1 X.stack s H := by
    have e := I.env0
    exact ⟨e.frames, e.mod, e.bs, e.bsz, e.funs, e.frf, e.hok, e.bare⟩
  have hl := F.len _ _ _ _ hsp
  have r2 : Vals [V.ref a] [Value.ref a] := .cons rfl .nil
  refine wpAny_call (codeAny_mono (F.run X.A.in1 X.stack s H ⟨[.ref a], []⟩ [.ref a] [.ref a] _ E0 hr.in1 e0 (by
    have := hb s [.ref a] I.kIn (by simpa using hl)
    simpa using this) r2 hsp) fun r s' hq => ?_)
  cases r with
  | error e => exact hq.elim
  | ok fl =>
    cases fl with
    | ret w =>
      obtain ⟨z, H', I', rz, ez, ex⟩ := I.after hq
      subst ez
      obtain ⟨tk, rfl⟩ := rz
      refine ⟨⟨by omega, ?_⟩, .int (ts.length : Nat), H', I'.tok _, ⟨_, rfl⟩, q H' ex⟩
      have hh := sizeLine_eq
      omega
    | next => exact False.elim hq
    | brk => exact False.elim hq
    | cont => exact False.elim hq
theorem cr_len : CallR X (.builtin "len") (rLen X.K) := call_len
end
end G
namespace G
open PySem L2

/-! ### len({k: v for ..}) -/
def D.key : D → Option Key | .int i => some (.inl i) | .str s => some (.inr s) | _ => none
def putKey (ks : List Key) (k : Key) : List Key := if (ks.any fun x => decide (x = k)) = true then ks else ks ++ [k]
theorem putK_keys (kvs : List (Key × V)) (k : Key) (v : V) : (putK kvs k v).map (·.1) = putKey (kvs.map (·.1)) k := by
  unfold putK putKey
  have e : ((kvs.map (·.1)).any fun x => decide (x = k)) = (kvs.any fun kv => decide (kv.1 = k)) := by rw [List.any_map]; rfl
  rw [e]
  split
  · rw [List.map_map]
    refine List.map_congr_left fun p _ => ?_
    show (if p.1 = k then (p.1, v) else p).1 = p.1
    split <;> rfl
  · rw [List.map_append]; rfl
def DkR (f : D → Env' → Option Env') (dk dv : DE) (env : Env') : List D → Nat → List Key → (List Key → Nat → Prop) → Prop
  | [], m, ks, Q => Q ks m
  | d :: ds, m, ks, Q => ∃ env2, f d env = some env2 ∧ dk env2 m fun x m1 => dv env2 m1 fun _ m2 => ∃ k, x.key = some k ∧ DkR f dk dv env ds m2 (putKey ks k) Q
def dLenDc (di : DL) (f : D → Env' → Option Env') (dk dv : DE) (vs : List Nat) : DE := fun env m Q => di env m fun its m1 => its.length ≤ LL ∧ DkR f dk dv (wipeE env vs) its m1 [] fun ks m2 => Q (.int (ks.length : Nat)) m2
section
variable {g : Gp} {X : Cx} {kx vx tg iter : Expr} {scope : Scope} {own : List (Str × Nat)} {pos p dpos : Pos} {di : DL} {T : TG} {f : D → Env' → Option Env'} {js : List Nat} {dk dv : DE}
theorem key_rep {K : PySem.W.Frag} {F : Hp} {x : D} {v : V} {k : Key} (h : x.key = some k) (r : Rep K g F x v) : v = kV k := by
  cases x <;> simp only [D.key] at h <;> first | (cases h; cases r; rfl) | cases h
theorem dc_weak (vs : List Nat) (hj : ∀ j ∈ js, j ∈ vs) (hg : ∀ (c : Option Addr) (F : Hp) (env : Env') (m : Nat) (σ : St) (H : Hp) (d : D) (v : V) (env2 : Env') (Q : St → Hp → Prop), Rel X.K g c F env m σ H → Rep X.K g F d v → f d env = some env2 →
    (∀ σ2, Rel X.K g c F env2 m σ2 H → (∀ a, Own env2 σ2 a → Own env σ a) → σ2.length = σ.length → (∀ i, i ∉ js → σ2[i]? = σ[i]?) → Q σ2 H) → T v σ H Q) :
    ∀ σ H Q, tD X.K g (dLenDc di f dk dv vs) σ H Q → tCB (fun xs H Q => ∃ a kvs, xs = [V.ref a] ∧ H a = some (.dK kvs) ∧ Q (.int kvs.length) H) (tCons (tDc (tI X.K g true di) T (tT X.K g dYes) (tD X.K g dk) (tD X.K g dv) vs) tNil) σ H Q := fun σ H Q ⟨c, F, env, m, Q1, r, h, k⟩ =>
  ⟨c, F, env, m, _, r, h, fun J H1 F1 m1 its lk r1 f1 _ hk w ⟨hz, q⟩ => fun Dl hD => by
    have nD : F1 Dl = none := ex_none r1.sub hD
    have cD : c ≠ some Dl := fun z => by obtain ⟨_, xs, e, _⟩ := r1.ck Dl z; rw [hD] at e; cases e
    refine ⟨fun i kk H' => ∃ F' m' kvs, kk = its.length - i ∧ i ≤ its.length ∧ Fresh c F1 H1 F' H' ∧ Ck g c m' F' H' ∧ F' Dl = none ∧ H' Dl = some (.dK kvs) ∧ kvs.length ≤ i ∧ DkR f dk dv (wipeE env vs) (its.drop i) m' (kvs.map (·.1)) (fun ks m3 => Q1 (.int (ks.length : Nat)) m3), ⟨its.length, F1, m1, [], rfl, Nat.zero_le _, ?_, ?_, nD, upd_same, Nat.le_refl _, q⟩, ?_⟩
    · have n := New.lay (F := F1) (o := .dK []) r1.sub hD
      exact n.fresh r1.ck
    · exact r1.ck.new (New.lay r1.sub hD)
    · rintro i kk H' ⟨F', m', kvs, rfl, hi, fr, ck, nF, hA, lA, q'⟩
      have r' := r1.fresh fr ck
      have lk' : ∀ p ∈ lk, H' p.1 = some p.2 := fun p hp => fr.hh p.1 p.2 (hk p hp).1 (hk p hp).2
      obtain ⟨go, stop⟩ := w i F' H' fr.ff r'.sub lk'
      by_cases hlt : i < its.length
      · have hd : its[i]? = some its[i] := List.getElem?_eq_getElem hlt
        rw [List.drop_eq_getElem_cons hlt] at q'
        obtain ⟨g1, g2⟩ := go _ hd
        obtain ⟨env2, e2, q2⟩ := q'
        refine .inr ⟨g1, fun H2 => ∃ F2 m2 kvs2, Fresh c F1 H1 F2 H2 ∧ Ck g c m2 F2 H2 ∧ F2 Dl = none ∧ H2 Dl = some (.dK kvs2) ∧ kvs2.length ≤ i + 1 ∧ DkR f dk dv (wipeE env vs) (its.drop (i + 1)) m2 (kvs2.map (·.1)) (fun ks m3 => Q1 (.int (ks.length : Nat)) m3), fun H2 ⟨F2, m2, kvs2, a1, a2, a3, a4, a6, a7⟩ => ⟨its.length - (i + 1), by omega, F2, m2, kvs2, rfl, by omega, a1, a2, a3, a4, a6, a7⟩, fun x H3 y => ?_⟩
        obtain ⟨F3, n3, rp3⟩ := g2 x H3 y
        have r3 := (r'.wipe vs).new n3
        have fr3 := fr.trans (n3.fresh ck)
        have ck3 := ck.new n3
        refine hg c F3 _ m' _ H3 _ x env2 _ r3 rp3 e2 fun σ4 r4 o4 l4 a4 => ⟨?_, ?_⟩
        · refine Eq.trans (wipe_same l4 fun j hj' => a4 j fun z => hj' (hj j z)) (wipe_wipe σ vs)
        · have keep : ∀ {F5 H5 : Hp}, Fresh c F3 H3 F5 H5 → F5 Dl = none ∧ H5 Dl = some (.dK kvs) := fun {F5 H5} f5 => by
            have h3 : H3 Dl = some (.dK kvs) := n3.hh _ _ hA
            refine ⟨?_, f5.hh _ _ h3 cD⟩
            cases z : F5 Dl with
            | none => rfl
            | some o =>
              rcases f5.new Dl o z with y | y
              · rcases n3.new Dl o y with u | u
                · rw [nF] at u; cases u
                · rw [hA] at u; cases u
              · rw [h3] at y; cases y
          refine ⟨c, F3, env2, m', _, r4, (show dYes env2 m' fun b m5 => b = true ∧ dk env2 m5 fun x m1 => dv env2 m1 fun _ m2 => ∃ k, x.key = some k ∧ DkR f dk dv (wipeE env vs) (its.drop (i + 1)) m2 (putKey (kvs.map (·.1)) k) (fun ks m3 => Q1 (.int (ks.length : Nat)) m3) from ⟨rfl, q2⟩), fun b H5 F5 m5 r5 f5 ⟨hb, q5⟩ => ?_⟩
          subst hb
          refine ⟨c, F5, env2, m5, _, r5, q5, fun v6 H6 F6 m6 y6 r6 f6 rp6 q6 => ⟨c, F6, env2, m6, _, r6, q6, fun v7 H7 F7 m7 y7 r7 f7 rp7 ⟨key, hkey, q7⟩ => ?_⟩⟩
          obtain ⟨k1, k2⟩ := keep ((f5.trans f6).trans f7)
          have fr6 := ((fr3.trans f5).trans f6).trans f7
          refine ⟨kvs, key, key_rep hkey rp6, k2, ll' (by omega), F7, m7, putK kvs key v7, ⟨fr6.ff, fun a o z => ?_, fun a o z n => ?_, fr6.new, fr6.nc⟩, fun a z => ?_, k1, upd_same, ?_, ?_⟩
          · have : a ≠ Dl := fun e => by subst e; rw [k1] at z; cases z
            rw [upd_ne this]; exact fr6.fh a o z
          · have : a ≠ Dl := fun e => by subst e; rw [hD] at z; cases z
            rw [upd_ne this]; exact fr6.hh a o z n
          · have : a ≠ Dl := fun e => by subst e; exact cD z
            obtain ⟨b1, xs, b2, b3⟩ := r7.ck a z
            exact ⟨b1, xs, by rw [upd_ne this]; exact b2, b3⟩
          · have e1 := congrArg List.length (putK_keys kvs key v7)
            rw [List.length_map] at e1
            rw [e1]
            unfold putKey
            split
            · rw [List.length_map]; omega
            · rw [List.length_append, List.length_map, List.length_singleton]; omega
          · rw [putK_keys]; exact q7
      · have hi' : i = its.length := by omega
        rw [List.drop_eq_nil_of_le (by omega)] at q'
        have q'' : Q1 (.int ((kvs.map (·.1)).length : Nat)) m' := q'
        rw [List.length_map] at q''
        exact .inl ⟨stop hi', Dl, kvs, rfl, hA, k _ H' F' m' _ r' (f1.trans fr) (.int _) q''⟩⟩
theorem ge_lenDc (hc : X.calm = true) (hN : X.N.Nodup) (hi : GI true g X tg iter di) (ok : BlkOk X.N X.env.scope scope own)
    (hg : ∀ (s : Shared) (H : Hp) (C : Addr) (cl : List (Str × Addr)) (fp : List Addr), GG g (X.blk s H scope (compEnvC scope cl C X.env) fp) tg T f js)
    (hk : ∀ (s : Shared) (H : Hp) (C : Addr) (cl : List (Str × Addr)) (fp : List Addr), GE g (X.blk s H scope (compEnvC scope cl C X.env) fp) kx dk) (he : ∀ (s : Shared) (H : Hp) (C : Addr) (cl : List (Str × Addr)) (fp : List Addr), GE g (X.blk s H scope (compEnvC scope cl C X.env) fp) vx dv)
    (hgl : Gl X "len") (hm : X.mg "len" = none) (hj : ∀ j ∈ js, j ∈ own.map (·.2) := by decide) (hs : ∀ x, foldedSetIterable iter X.env x = pure x := by intro _; rfl)
    (hs1 : starEach [.DictComp kx vx [⟨tg, iter, [], 0⟩] scope dpos] X.env = (false, eval (.DictComp kx vx [⟨tg, iter, [], 0⟩] scope dpos) X.env) :: starEach [] X.env := by rfl) :
    GE g X (.Call (.Name "len" p) [.DictComp kx vx [⟨tg, iter, [], 0⟩] scope dpos] [] pos) (dLenDc di f dk dv (own.map (·.2))) :=
  ⟨fun pins s σ H Q I q => (pe_callB call_lenD hgl hm PySem.boot_len (pa_cons (pe_dc (wi := tI X.K g true di) (g := T) (tt := tT X.K g dYes) (tk := tD X.K g dk) (tv := tD X.K g dv) hc hN hi ok (fun s H C cl fp => (hg s H C cl fp).pg) (fun s H C cl fp => gts_nil) (fun s H C cl fp => hk s H C cl fp) (fun s H C cl fp => he s H C cl fp) hs) pa_nil hs1) (by decide) (by decide) hs1 rfl).run pins s σ H Q I (dc_weak (T := T) _ hj (hg s H 0 [] []).ok σ H Q q)⟩
end
end G
namespace G
open PySem L2
section
variable {g : Gp} {X : Cx} {a b e : Expr} {d : DE} {dl dl2 : DL} {pos : Pos}
theorem gs_asgEN {i j : Nat} {x y : Str} {px py pt : Pos} {kt k2 pt2} (hc : X.calm = true) (hN : X.N.Nodup) (hi : X.N[i]? = some x) (hj : X.N[j]? = some y)
    (hx : Loc X.env.scope x) (hy : Loc X.env.scope y) (ha : GE g X a d) (hb : GN g X b dl)
    (hs : swapsWithSole [.Tuple [.Name x px, .Name y py] kt pt] (.Tuple [a, b] k2 pt2) pos.line X.env = pure false := by rfl) (hw : swappedStores [.Tuple [.Name x px, .Name y py] kt pt] (.Tuple [a, b] k2 pt2) X.env = pure none := by rfl)
    (hh : (assignEach [.Tuple [.Name x px, .Name y py] kt pt] X.env).map (·.2) = [assign (.Tuple [.Name x px, .Name y py] kt pt) X.env] := by rfl)
    (h1 : starEach [a, b] X.env = (false, eval a X.env) :: starEach [b] X.env := by rfl) (h2 : starEach [b] X.env = (false, eval b X.env) :: starEach [] X.env := by rfl)
    (hf : X.fn x = true ∨ X.env.scope.names.lookup x = some .local := by first | exact .inl rfl | exact .inr rfl | assumption) (hf2 : X.fn y = true ∨ X.env.scope.names.lookup y = some .local := by first | exact .inl rfl | exact .inr rfl | assumption)
    (hn : (assignEach [.Name x px, .Name y py] X.env).length = 2 := by rfl) (hst : (assignEach [.Name x px, .Name y py] X.env).findIdx? (·.1) = none := by rfl)
    (he1 : (assignEach [.Name x px, .Name y py] X.env).map (·.2) = assign (.Name x px) X.env :: (assignEach [.Name y py] X.env).map (·.2) := by rfl) (he2 : (assignEach [.Name y py] X.env).map (·.2) = assign (.Name y py) X.env :: (assignEach [] X.env).map (·.2) := by rfl) :
    GS g X (.Assign [.Tuple [.Name x px, .Name y py] kt pt] (.Tuple [a, b] k2 pt2) pos) (dParEN i j d dl) :=
  PS.weak (ps_asg (pe_tup (pa_cons ha (pa_cons hb pa_nil h2) h1)) (pg_tup hc (pgs_cons (pg_name hN hi hx hf) (pgs_cons (pg_name hN hj hy hf2) pgs_nil he2) he1) hn hst) hs hw hh) fun D σ H ⟨c, F, env, m, E, r, h, o⟩ =>
  ⟨c, F, env, m, _, r, h, fun v H1 F1 m1 z r1 f1 rp q1 => ⟨c, F1, env, m1, _, r1, q1, fun p H2 F2 m2 ds xs r2 f2 h0 hp hcp hH rl q2 => by
    refine ⟨ll (show 2 ≤ LL by decide), fun t ht => ⟨t, [v, .ref p], rfl, SqT.of upd_same, rfl, v, _, rfl, .ref p, _, rfl, rfl, ?_⟩⟩
    have n := New.lay (F := F2) (o := .tup [v, .ref p]) r2.sub ht
    have nf := n.fresh r2.ck
    have r3 := r2.new n
    have no : ¬ Own env σ p := not_own r1 h0
    have no2 : ¬ Own (env.set i (.val z)) (σ.set i (some v)) p := fun w => no (own_set r.len sl_no w)
    refine o.nx _ _ F2 _ m2 ((r3.setV (rp.mono f2.ff)).setO hp (n.hh _ _ hH) rl hcp no2) ?_ q2
    have e := r.evo ((f1.trans f2).trans nf)
    refine ⟨e.ff, e.fh, e.hh, e.new, e.nc, fun w hw => ?_⟩
    rcases own_setO (by rw [List.length_set, List.length_set, r.len]) hw with rfl | hw
    · refine ⟨hcp, .inr ?_⟩
      cases y : H w with
      | none => rfl
      | some u => rw [f1.hh w u y hcp] at h0; cases h0
    · exact e.own w (own_set r.len sl_no hw)⟩⟩
/-- text[::-1] -/
def revS (z : Str) : Str := ⟨z.cps.toList.reverse.toArray⟩
def dRev (d : DE) : DE := fun env m Q => d env m fun x m1 => ∃ z, x = .str z ∧ z.length ≤ LL ∧ Q (.str (revS z)) m1
theorem ge_rev {k : Nat} {p1 p2 p3 : Pos} (he : GE g X e d) : GE g X (.Subscript e (.Slice none none (some (.UnaryOp .USub (.Constant (.int 1) k p1) p2)) p3) pos) (dRev d) := PE.weak (pe_revS he) fun σ H Q ⟨c, F, env, m, Q1, rl, hd, kk⟩ =>
  ⟨c, F, env, m, _, rl, hd, fun v H1 F1 m1 x r1 f1 rp ⟨z, ex, hz, q⟩ => by
    subst ex
    cases rp
    exact ⟨z, rfl, hz, kk _ H1 F1 m1 _ r1 f1 (.str _) q⟩⟩
theorem kit_same {K : PySem.W.Frag} {C : Addr} : PySem.W.kitOne K (.ref C) (.ref C) = some true := by
  unfold PySem.W.kitOne
  rw [if_pos]
  simp
end
end G
namespace G
open PySem L2
section
variable {g : Gp} {X : Cx} {pos p1 : Pos}
theorem ge_negI {i : Int} {k : Nat} : GE g X (.UnaryOp .USub (.Constant (.int i) k p1) pos) (dC (.int (-i))) := PE.weak (pe_un un_neg pe_int) fun σ H Q ⟨c, F, env, m, Q1, r, q, kk⟩ => ⟨i, rfl, kk _ H F m _ r (Fresh.refl r.sub r.ck) (.int _) q⟩
theorem mono_var (i : Nat) : ∀ env m Q Q', (∀ y m', Q y m' → Q' y m') → dVar i env m Q → dVar i env m Q' := fun _ _ _ _ h ⟨d, hd, q⟩ => ⟨d, hd, h _ _ q⟩
end
end G
namespace G
open PySem L2
section
variable {g : Gp} {X : Cx} {elt kx vx tg iter : Expr} {ifs : List Expr} {scope : Scope} {own : List (Str × Nat)} {pos p dpos : Pos} {di : DL} {T : TG} {f : D → Env' → Option Env'} {js vs : List Nat} {dt : DT} {de dk dv : DE}
abbrev AllB (X : Cx) (scope : Scope) (Z : Cx → Prop) : Prop := ∀ (s : Shared) (H : Hp) (C : Addr) (cl : List (Str × Addr)) (fp : List Addr), Z (X.blk s H scope (compEnvC scope cl C X.env) fp)
theorem gn_lc' (hc : X.calm = true) (hN : X.N.Nodup) (hi : GI true g X tg iter di) (ok : BlkOk X.N X.env.scope scope own) (hg : AllB X scope fun Y => GG g Y tg T f js) (ht : AllB X scope fun Y => GTs g Y ifs dt) (he : AllB X scope fun Y => GE g Y elt de)
    (hv : own.map (·.2) = vs := by rfl) (hj : ∀ j ∈ js, j ∈ own.map (·.2) := by decide) (hs : ∀ x, foldedSetIterable iter X.env x = pure x := by intro _; rfl) : GN g X (.ListComp elt [⟨tg, iter, ifs, 0⟩] scope pos) (dLc di f dt de vs) := by
  subst hv; exact gn_lc hc hN hi ok hg ht he hj hs
theorem gs_setLcN' {i : Nat} {y : Str} {py spos : Pos} (hc : X.calm = true) (hN : X.N.Nodup) (hy : X.N[i]? = some y) (hyl : X.env.scope.names.lookup y = some .local)
    (hsw : swapsWith (.ListComp elt [⟨tg, iter, ifs, 0⟩] scope pos) (some (.Name y py)) spos.line X.env = pure true) (hi : GI true g X tg iter di) (ok : BlkOk X.N X.env.scope scope own) (hg : AllB X scope fun Y => GG g Y tg T f js) (ht : AllB X scope fun Y => GTs g Y ifs dt) (he : AllB X scope fun Y => GE g Y elt de)
    (hv : own.map (·.2) = vs := by rfl) (hj : ∀ j ∈ js, j ∈ own.map (·.2) := by decide) (hs : ∀ x, foldedSetIterable iter X.env x = pure x := by intro _; rfl) : GS g X (.Assign [.Name y py] (.ListComp elt [⟨tg, iter, ifs, 0⟩] scope pos) spos) (dAsgN i (dLc di f dt de vs)) := by
  subst hv; exact gs_setLcN hc hN hy hyl hsw hi ok hg ht he hj hs
theorem gs_setLc' {i : Nat} {y : Str} {py spos : Pos} (hc : X.calm = true) (hN : X.N.Nodup) (hy : X.N[i]? = some y) (hyl : X.env.scope.names.lookup y = some .local)
    (hsw : swapsWith (.ListComp elt [⟨tg, iter, ifs, 0⟩] scope pos) (some (.Name y py)) spos.line X.env = pure true) (hi : GI true g X tg iter di) (ok : BlkOk X.N X.env.scope scope own) (hg : AllB X scope fun Y => GG g Y tg T f js) (ht : AllB X scope fun Y => GTs g Y ifs dt) (he : AllB X scope fun Y => GE g Y elt de)
    (hv : own.map (·.2) = vs := by rfl) (hj : ∀ j ∈ js, j ∈ own.map (·.2) := by decide) (hs : ∀ x, foldedSetIterable iter X.env x = pure x := by intro _; rfl) : GS g X (.Assign [.Name y py] (.ListComp elt [⟨tg, iter, ifs, 0⟩] scope pos) spos) (dAsg i (dNew (dLc di f dt de vs))) := by
  subst hv; exact gs_setLc hc hN hy hyl hsw hi ok hg ht he hj hs
theorem ge_lenDc' (hc : X.calm = true) (hN : X.N.Nodup) (hi : GI true g X tg iter di) (ok : BlkOk X.N X.env.scope scope own) (hg : AllB X scope fun Y => GG g Y tg T f js) (hk : AllB X scope fun Y => GE g Y kx dk) (he : AllB X scope fun Y => GE g Y vx dv)
    (hgl : Gl X "len") (hm : X.mg "len" = none) (hv : own.map (·.2) = vs := by rfl) (hj : ∀ j ∈ js, j ∈ own.map (·.2) := by decide) (hs : ∀ x, foldedSetIterable iter X.env x = pure x := by intro _; rfl)
    (hs1 : starEach [.DictComp kx vx [⟨tg, iter, [], 0⟩] scope dpos] X.env = (false, eval (.DictComp kx vx [⟨tg, iter, [], 0⟩] scope dpos) X.env) :: starEach [] X.env := by rfl) :
    GE g X (.Call (.Name "len" p) [.DictComp kx vx [⟨tg, iter, [], 0⟩] scope dpos] [] pos) (dLenDc di f dk dv vs) := by
  subst hv; exact ge_lenDc hc hN hi ok hg hk he hgl hm hj hs hs1
end
end G
namespace G
open PySem L2
theorem gg_tupK {g : Gp} {X : Cx} {pos : Pos} (K : PySem.W.Frag) {tgs : List Expr} {Gs : TGs} {fs : List D → Env' → Option Env'} {js : List Nat} {k n : Nat} (hc : X.calm = true) (h : GGs g X tgs Gs fs js) (hK : X.K = K := by rfl) (hn : (assignEach tgs X.env).length = n := by rfl) (hst : (assignEach tgs X.env).findIdx? (·.1) = none := by rfl) :
    GG g X (.Tuple tgs k pos) (gTup K n Gs) (tgT fs n) js := by subst hK; exact gg_tup hc h hn hst
end G
namespace G
open PySem L2
/-! ### loops and comprehensions, by data alone -/
section
variable {f : D → Env' → Option Env'} {dt : DT} {de : DE} {env : Env'}
theorem lcR_fm {α : Type} (e : α → D) (p : α → Bool) (v : α → D) : ∀ (xs : List α) (m : Nat) (Q : List D → Nat → Prop), (∀ a ∈ xs, ∃ env2, f (e a) env = some env2 ∧ (∀ m Q, Q (p a) m → dt env2 m Q) ∧ (p a = true → ∀ m Q, Q (v a) m → de env2 m Q)) →
    Q ((xs.filter p).map v) m → LcR f dt de env (xs.map e) m Q
  | [], m, Q, _, q => q
  | a :: r, m, Q, h, q => by
    obtain ⟨env2, e1, h1, h2⟩ := h a (by simp)
    refine ⟨env2, e1, h1 m _ ?_⟩
    have hr := fun (Q' : List D → Nat → Prop) (q' : Q' ((r.filter p).map v) m) => lcR_fm e p v r m Q' (fun b hb => h b (by simp [hb])) q'
    cases hp : p a with
    | true =>
      rw [if_pos rfl]
      refine h2 hp m _ (hr _ ?_)
      rw [List.filter_cons_of_pos hp] at q
      exact q
    | false =>
      rw [if_neg (by decide)]
      refine hr _ ?_
      rw [List.filter_cons_of_neg (by rw [hp]; decide)] at q
      exact q
theorem lcR_m {α : Type} (e : α → D) (v : α → D) (xs : List α) (m : Nat) (Q : List D → Nat → Prop) (h : ∀ a ∈ xs, ∃ env2, f (e a) env = some env2 ∧ (∀ m Q, Q (v a) m → de env2 m Q)) (q : Q (xs.map v) m) : LcR f dYes de env (xs.map e) m Q :=
  lcR_fm e (fun _ => true) v xs m Q (fun a ha => by obtain ⟨env2, h1, h2⟩ := h a ha; exact ⟨env2, h1, fun _ _ q => q, fun _ => h2⟩) (by rw [List.filter_eq_self.mpr (fun _ _ => rfl)]; exact q)
/-- each element drawn -/
theorem lcR_ch {α β : Type} (e : α → D) (v : β → D) (B : Nat) : ∀ (xs : List α) (m : Nat) (Q : List D → Nat → Prop), (∀ a ∈ xs, ∃ env2, f (e a) env = some env2 ∧ ∀ m Q, m < B → (∀ b, Q (v b) (m + 1)) → de env2 m Q) → m + xs.length ≤ B →
    (∀ bs : List β, bs.length = xs.length → Q (bs.map v) (m + xs.length)) → LcR f dYes de env (xs.map e) m Q
  | [], m, Q, _, _, q => q [] rfl
  | a :: r, m, Q, h, hB, q => by
    obtain ⟨env2, e1, h2⟩ := h a (by simp)
    rw [List.length_cons] at hB
    refine ⟨env2, e1, ?_⟩
    show (de env2 m fun y m2 => LcR f dYes de env (r.map e) m2 fun ys m3 => Q (y :: ys) m3)
    refine h2 m _ (by omega) fun b => lcR_ch e v B r (m + 1) _ (fun b hb => h b (by simp [hb])) (by omega) fun bs hbs => ?_
    have := q (b :: bs) (by simp [hbs])
    rw [List.length_cons, show m + (r.length + 1) = m + 1 + r.length by omega] at this
    exact this
/-- each element kept or not, as drawn -/
theorem lcR_sub {α : Type} (e : α → D) (B : Nat) : ∀ (xs : List α) (m : Nat) (Q : List D → Nat → Prop), (∀ a ∈ xs, ∃ env2, f (e a) env = some env2 ∧ (∀ m Q, m < B → (∀ b, Q b (m + 1)) → dt env2 m Q) ∧ ∀ m Q, Q (e a) m → de env2 m Q) → m + xs.length ≤ B →
    (∀ ys : List α, ys.Sublist xs → Q (ys.map e) (m + xs.length)) → LcR f dt de env (xs.map e) m Q
  | [], m, Q, _, _, q => q [] (List.Sublist.refl _)
  | a :: r, m, Q, h, hB, q => by
    obtain ⟨env2, e1, h1, h2⟩ := h a (by simp)
    rw [List.length_cons] at hB
    refine ⟨env2, e1, h1 m _ (by omega) fun b => ?_⟩
    have eq1 : m + (a :: r).length = m + 1 + r.length := by rw [List.length_cons]; omega
    rw [eq1] at q
    cases b with
    | true =>
      rw [if_pos rfl]
      exact h2 _ _ (lcR_sub e B r (m + 1) _ (fun b hb => h b (by simp [hb])) (by omega) fun ys hy => q (a :: ys) (hy.cons_cons a))
    | false =>
      rw [if_neg (by decide)]
      exact lcR_sub e B r (m + 1) _ (fun b hb => h b (by simp [hb])) (by omega) fun ys hy => q ys (hy.cons a)
end
theorem forR_ind {f : D → Env' → Option Env'} {body : DS} {E : DEnds} (I : List D → Env' → Nat → Prop) (h0 : ∀ env m, I [] env m → E.nx env m)
    (hs : ∀ d ds env m, I (d :: ds) env m → ∃ env2, f d env = some env2 ∧ ∀ K : Env' → Nat → Prop, (∀ e' m', I ds e' m' → K e' m') → body env2 m { E with nx := K, ct := K, bk := E.nx }) :
    ∀ its env m, I its env m → ForR f body its env m E
  | [], env, m, h => h0 env m h
  | d :: ds, env, m, h => by
    obtain ⟨env2, e, hb⟩ := hs d ds env m h
    exact ⟨env2, e, hb _ fun e' m' hi => forR_ind I h0 hs ds e' m' hi⟩
theorem rangeD_nat (n : Nat) : rangeD 0 (n : Int) = (List.range n).map fun i => D.int (i : Nat) := by
  unfold rangeD
  simp
theorem eqB_str (a b : Str) : eqB (.str a) (.str b) = some (decide (a = b)) := rfl
theorem eqB_int (a b : Int) : eqB (.int a) (.int b) = some (decide (a = b)) := rfl
theorem eqD_str (a b : Str) : eqD (.str a) (.str b) = some (.bl (decide (a = b))) := rfl
theorem eqD_int (a b : Int) : eqD (.int a) (.int b) = some (.bl (decide (a = b))) := rfl
/-! == of lists and tuples of ints -/
theorem okdL_ints (n : Nat) : ∀ l : List Nat, okdL (l.map fun i => D.int (i : Nat)) n = true
  | [] => rfl
  | a :: r => by rw [List.map_cons]; unfold okdL; rw [okdL_ints n r]; rfl
theorem eqvL_ints : ∀ (a b : List Nat), PyData.eqvAll (pyL (a.map fun i => D.int (i : Nat))) (pyL (b.map fun i => D.int (i : Nat))) = decide (a = b) := by
  intro a
  induction a with
  | nil => intro b; cases b <;> simp [pyL, PyData.eqvAll]
  | cons x r ih =>
    intro b
    cases b with
    | nil => simp [pyL, PyData.eqvAll]
    | cons y t =>
      simp only [List.map_cons, pyL, D.py, PyData.eqvAll, ih]
      have e : PyData.eqv (.int (x : Int)) (.int (y : Int)) = decide (x = y) := by
        unfold PyData.eqv
        by_cases h : x = y
        · subst h; simp
        · have : ¬ (x : Int) = (y : Int) := fun z => h (by omega)
          simp [h, this]
      rw [e]
      by_cases h1 : x = y <;> by_cases h2 : r = t <;> simp [h1, h2]
theorem eqB_lst (a b : List Nat) : eqB (.lst (a.map fun i => D.int (i : Nat))) (.lst (b.map fun i => D.int (i : Nat))) = some (decide (a = b)) := by
  show deepEq _ _ = _
  unfold deepEq
  rw [if_pos]
  · simp only [D.py]
    rw [← eqvL_ints a b]
    congr 1
  · simp only [D.okd, okdL_ints]; rfl
theorem eqB_tup (a b : List Nat) : eqB (.tup (a.map fun i => D.int (i : Nat))) (.tup (b.map fun i => D.int (i : Nat))) = some (decide (a = b)) := by
  show deepEq _ _ = _
  unfold deepEq
  rw [if_pos]
  · simp only [D.py]
    rw [← eqvL_ints a b]
    congr 1
  · simp only [D.okd, okdL_ints]; rfl
end G
/-! law k23: what each def promises, by data -/
namespace K23
open PySem L2 G
def c1 (a : Nat) : Str := ⟨#[a]⟩
def tS (p : Nat × Nat) : Str := ⟨#[p.1, p.2]⟩
def plS (P : List Nat) : Str := ⟨P.toArray⟩
def sgn (b : Bool) : Nat := if b then 43 else 45
def lnS (L : List Bool) : Str := ⟨(L.map sgn).toArray⟩
def wayD (p : Nat × Nat) : D := .str (tS p)
def natD (i : Nat) : D := .int (i : Nat)
def webD (P : List Nat) (T : List (Nat × Nat)) : D := .web (plS P) (T.map tS)
structure PlOk (P : List Nat) : Prop where
  inc : P.Pairwise (· < ·)
  let8 : ∀ a ∈ P, 97 ≤ a ∧ a ≤ 104
  pos : 0 < P.length
  few : P.length ≤ 7
structure WbOk (P : List Nat) (T : List (Nat × Nat)) : Prop where
  pl : PlOk P
  few : T.length ≤ 11
  ties : ∀ p ∈ T, p.1 ∈ P ∧ p.2 ∈ P ∧ p.1 ≤ p.2
def way (p : Nat × Nat) (b : Bool) : Nat × Nat := if b then p else (p.2, p.1)
def ways (T : List (Nat × Nat)) (L : List Bool) : List (Nat × Nat) := List.zipWith way T L
def row (P : List Nat) (W : List (Nat × Nat)) : List D := P.map fun a => .int ((W.countP fun p => p.1 == a : Nat))
def stt (W : List (Nat × Nat)) (i : Nat) : Nat := (W.getD i (0, 0)).1
def enn (W : List (Nat × Nat)) (i : Nat) : Nat := (W.getD i (0, 0)).2
def Bal (W : List (Nat × Nat)) (l : List Nat) : Prop := ∀ a, (l.countP fun i => stt W i == a) = l.countP fun i => enn W i == a
structure IsRing (W : List (Nat × Nat)) (r : List Nat) : Prop where
  ne : r ≠ []
  nd : (r.map (stt W)).Nodup
  cyc : r.map (enn W) = (r.map (stt W)).tail ++ (r.map (stt W)).take 1
structure LotOk (W : List (Nat × Nat)) (l : List Nat) : Prop where
  inc : l.Pairwise (· < ·)
  ring : ∃ r, IsRing W r ∧ r.Perm l
  inb : ∀ i ∈ l, i < W.length
structure LotsOk (T : List (Nat × Nat)) (L L' : List Bool) (ls : List (List Nat)) : Prop where
  each : ∀ l ∈ ls, LotOk (ways T L) l
  dis : ls.Pairwise fun a b => ∀ i ∈ a, i ∉ b
  all : ∀ i, i ∈ ls.flatten ↔ i < T.length ∧ L.getD i true ≠ L'.getD i true
def flip (L : List Bool) (l : List Nat) : List Bool := L.zipIdx.map fun p => if p.2 ∈ l then !p.1 else p.1
def lotD (l : List Nat) : D := .tup (l.map natD)

def S_are_letters : G.Spec := fun as m Q => ∃ P, PlOk P ∧ as = [.val (.str (plS P))] ∧ Q (.bl true) m
def S_are_places : G.Spec := S_are_letters
def S_is_tie : G.Spec := fun as m Q => ∃ (P : List Nat) (p : Nat × Nat), P.length ≤ 100 ∧ p.1 ∈ P ∧ p.2 ∈ P ∧ p.1 ≤ p.2 ∧ as = [.val (.str (plS P)), .val (.str (tS p))] ∧ Q (.bl true) m
def S_wrong_tie : G.Spec := fun as m Q => ∃ P T, WbOk P T ∧ as = [.val (.str (plS P)), .val (.tup (T.map wayD))] ∧ Q .non m
def S_Weblen : G.Spec := lenSpec
def S_check_web : G.Spec := fun as m Q => ∃ P T, as = [.val (webD P T)] ∧ Q .non m
def S_is_leaning : G.Spec := fun as m Q => ∃ (P : List Nat) (T : List (Nat × Nat)) (L : List Bool), T.length ≤ 11 ∧ L.length = T.length ∧ as = [.val (webD P T), .val (.str (lnS L))] ∧ Q (.bl true) m
def S_check_leaning : G.Spec := fun as m Q => ∃ (P : List Nat) (T : List (Nat × Nat)) (L : List Bool), T.length ≤ 11 ∧ L.length = T.length ∧ as = [.val (webD P T), .val (.str (lnS L))] ∧ Q .non m
def S_check_leaned : G.Spec := S_check_leaning
def S_ways_of : G.Spec := fun as m Q => ∃ (P : List Nat) (T : List (Nat × Nat)) (L : List Bool), T.length ≤ 11 ∧ L.length = T.length ∧ as = [.val (webD P T), .val (.str (lnS L))] ∧ Q (.lst ((ways T L).map wayD)) m
def S_scores_of : G.Spec := fun as m Q => ∃ (P : List Nat) (T : List (Nat × Nat)) (L : List Bool), WbOk P T ∧ L.length = T.length ∧ as = [.val (webD P T), .val (.str (lnS L))] ∧ Q (.tup (row P (ways T L))) m
def S_first_ring : G.Spec := fun as m Q => ∃ (W : List (Nat × Nat)) (l : List Nat), W.length ≤ 11 ∧ l ≠ [] ∧ l.Nodup ∧ (∀ i ∈ l, i < W.length) ∧ Bal W l ∧ as = [.val (.lst (W.map wayD)), .val (.lst (l.map natD))] ∧
  ∀ r, IsRing W r → r.Nodup → (∀ i ∈ r, i ∈ l) → Q (.lst (r.map natD)) m
def S_turning_rings : G.Spec := fun as m Q => ∃ (P : List Nat) (T : List (Nat × Nat)) (L L' : List Bool), WbOk P T ∧ L.length = T.length ∧ L'.length = T.length ∧ as = [.val (webD P T), .val (.str (lnS L)), .val (.str (lnS L'))] ∧
  (row P (ways T L) ≠ row P (ways T L') → Q .non m) ∧ (row P (ways T L) = row P (ways T L') → ∀ ls, LotsOk T L L' ls → Q (.tup (ls.map lotD)) m)
def S_law_take : G.Spec := fun as m Q => ∃ n : Int, 0 < n ∧ n < 1000 ∧ m < 1000000 ∧ as = [.cask, .val (.int n)] ∧ ∀ d : Nat, (d : Int) < n → Q (.int d) (m + 1)
def S_law_one : G.Spec := fun as m Q => ∃ (P : List Nat), P ≠ [] ∧ P.length < 1000 ∧ m < 1000000 ∧ as = [.cask, .val (.str (plS P))] ∧ ∀ a ∈ P, Q (.str (c1 a)) (m + 1)
def S_law_web : G.Spec := fun as m Q => m ≤ 500000 ∧ as = [.cask, .val (.int 4), .val (.int 6)] ∧ ∀ P T m', WbOk P T → T.length ≤ 6 → m' ≤ m + 100 → Q (.tup [.str (plS P), .tup (T.map wayD)]) m'
def S_law_lean : G.Spec := fun as m Q => ∃ T : List (Nat × Nat), T.length ≤ 11 ∧ m ≤ 500000 ∧ as = [.cask, .val (.tup (T.map wayD))] ∧ ∀ L m', L.length = T.length → m' ≤ m + 20 → Q (.str (lnS L)) m'
def S_law_ways : G.Spec := fun as m Q => ∃ (T : List (Nat × Nat)) (L : List Bool), T.length ≤ 11 ∧ L.length = T.length ∧ as = [.val (.tup (T.map wayD)), .val (.str (lnS L))] ∧ Q (.lst ((ways T L).map wayD)) m
def S_law_goes_round : G.Spec := fun as m Q => ∃ (W : List (Nat × Nat)) (l : List Nat), W.length ≤ 11 ∧ l.length ≤ 11 ∧ (∀ i ∈ l, i < W.length) ∧ as = [.val (.lst (W.map wayD)), .val (lotD l)] ∧
  ∀ b : Bool, ((∃ r, IsRing W r ∧ r.Perm l) → b = true) → Q (.bl b) m
def S_law_flip : G.Spec := fun as m Q => ∃ (L : List Bool) (l : List Nat) (x : D), L.length ≤ 11 ∧ l.length ≤ 100 ∧ (x = .lst (l.map natD) ∨ x = lotD l) ∧ as = [.val (.str (lnS L)), .val x] ∧ Q (.str (lnS (flip L l))) m
def S_law_row : G.Spec := fun as m Q => ∃ (P : List Nat) (W : List (Nat × Nat)), P.length ≤ 100 ∧ W.length ≤ 11 ∧ as = [.val (.str (plS P)), .val (.lst (W.map wayD))] ∧ Q (.tup (row P W)) m
def S_law_shown : G.Spec := fun as m Q => ∃ (P : List Nat) (T : List (Nat × Nat)) (L L' : List Bool) (ls : List (List Nat)), WbOk P T ∧ L.length = T.length ∧ L'.length = T.length ∧ LotsOk T L L' ls ∧ as = [.val (webD P T), .val (.str (lnS L)), .val (.str (lnS L')), .val (.tup (ls.map lotD))] ∧ Q (.bl true) m
def S_law_near : G.Spec := fun as m Q => ∃ (T : List (Nat × Nat)) (L : List Bool), T.length ≤ 11 ∧ L.length = T.length ∧ m ≤ 500000 ∧ as = [.cask, .val (.tup (T.map wayD)), .val (.str (lnS L))] ∧ ∀ L' m', L'.length = T.length → m' ≤ m + 100 → Q (.str (lnS L')) m'
def S_law_right : G.Spec := fun as m Q => m ≤ 1000 ∧ as = [.cask] ∧ ∀ m', Q (.bl true) m'
def pm3 {α : Type} : List α → List α
  | [a, b, c] => [c, b, a]
  | l => l
def pm_turning_rings : List Sl → List Sl := pm3
def dMake (da : DA) : DE := fun env m Q => da env m fun as m1 => ∃ P T, WbOk P T ∧ as = [.val (.str (plS P)), .val (.tup (T.map wayD))] ∧ Q (webD P T) m1
theorem S_are_letters_len : ∀ as m Q, S_are_letters as m Q → as.length = 1 := by rintro as m Q ⟨_, _, rfl, _⟩; rfl
theorem S_are_places_len : ∀ as m Q, S_are_places as m Q → as.length = 1 := S_are_letters_len
theorem S_is_tie_len : ∀ as m Q, S_is_tie as m Q → as.length = 2 := by rintro as m Q ⟨_, _, _, _, _, _, rfl, _⟩; rfl
theorem S_wrong_tie_len : ∀ as m Q, S_wrong_tie as m Q → as.length = 2 := by rintro as m Q ⟨_, _, _, rfl, _⟩; rfl
theorem S_Weblen_len : ∀ as m Q, S_Weblen as m Q → as.length = 1 := by rintro as m Q ⟨_, _, rfl, _⟩; rfl
theorem S_check_web_len : ∀ as m Q, S_check_web as m Q → as.length = 1 := by rintro as m Q ⟨_, _, rfl, _⟩; rfl
theorem S_is_leaning_len : ∀ as m Q, S_is_leaning as m Q → as.length = 2 := by rintro as m Q ⟨_, _, _, _, _, rfl, _⟩; rfl
theorem S_check_leaning_len : ∀ as m Q, S_check_leaning as m Q → as.length = 2 := by rintro as m Q ⟨_, _, _, _, _, rfl, _⟩; rfl
theorem S_check_leaned_len : ∀ as m Q, S_check_leaned as m Q → as.length = 2 := S_check_leaning_len
theorem S_ways_of_len : ∀ as m Q, S_ways_of as m Q → as.length = 2 := by rintro as m Q ⟨_, _, _, _, _, rfl, _⟩; rfl
theorem S_scores_of_len : ∀ as m Q, S_scores_of as m Q → as.length = 2 := by rintro as m Q ⟨_, _, _, _, _, rfl, _⟩; rfl
theorem S_first_ring_len : ∀ as m Q, S_first_ring as m Q → as.length = 2 := by rintro as m Q ⟨_, _, _, _, _, _, _, rfl, _⟩; rfl
theorem S_turning_rings_len : ∀ as m Q, S_turning_rings as m Q → as.length = 3 := by rintro as m Q ⟨_, _, _, _, _, _, _, rfl, _⟩; rfl
theorem S_law_take_len : ∀ as m Q, S_law_take as m Q → as.length = 2 := by rintro as m Q ⟨_, _, _, _, rfl, _⟩; rfl
theorem S_law_one_len : ∀ as m Q, S_law_one as m Q → as.length = 2 := by rintro as m Q ⟨_, _, _, _, rfl, _⟩; rfl
theorem S_law_web_len : ∀ as m Q, S_law_web as m Q → as.length = 3 := by rintro as m Q ⟨_, rfl, _⟩; rfl
theorem S_law_lean_len : ∀ as m Q, S_law_lean as m Q → as.length = 2 := by rintro as m Q ⟨_, _, _, rfl, _⟩; rfl
theorem S_law_ways_len : ∀ as m Q, S_law_ways as m Q → as.length = 2 := by rintro as m Q ⟨_, _, _, _, rfl, _⟩; rfl
theorem S_law_goes_round_len : ∀ as m Q, S_law_goes_round as m Q → as.length = 2 := by rintro as m Q ⟨_, _, _, _, _, rfl, _⟩; rfl
theorem S_law_flip_len : ∀ as m Q, S_law_flip as m Q → as.length = 2 := by rintro as m Q ⟨_, _, _, _, _, _, rfl, _⟩; rfl
theorem S_law_row_len : ∀ as m Q, S_law_row as m Q → as.length = 2 := by rintro as m Q ⟨_, _, _, _, rfl, _⟩; rfl
theorem S_law_shown_len : ∀ as m Q, S_law_shown as m Q → as.length = 4 := by rintro as m Q ⟨_, _, _, _, _, _, _, _, _, rfl, _⟩; rfl
theorem S_law_near_len : ∀ as m Q, S_law_near as m Q → as.length = 3 := by rintro as m Q ⟨_, _, _, _, _, rfl, _⟩; rfl
theorem S_law_right_len : ∀ as m Q, S_law_right as m Q → as.length = 1 := by rintro as m Q ⟨_, rfl, _⟩; rfl
end K23
namespace K23
open PySem L2 G
/-- the cask: seed, figures, laps -/
def ckOk : Nat → List V → Prop := fun m xs => ∃ s f l : Int, xs = [.int s, .int f, .int l] ∧ 0 ≤ s ∧ s < 2147483399 ∧ 0 ≤ f ∧ 0 ≤ l ∧ l ≤ m
end K23
namespace K23
open PySem L2 G

def d_are_letters : DS := (dSeq (dIf (dOr (dNot (dTest (dIsi isStrD (dVarB 0)))) (dTest (dOp neD (dLenDc (dISrc (dVarB 0)) (tgN 1) (dVar 1) (dC (.bl true)) [1]) (dCallB lenD0 (dConsL (dVarB 0) dNilL))))) (dRet (dC (.bl false))) dNext)
  (dRet (dCallB allD (dConsL (dNew (dLc (dISrc (dVarB 0)) (tgN 1) dYes (dOp inD (dVarB 1) (dC (.str "abcdefgh"))) [1])) dNilL))))

def d_are_places : DS := (dRet (dAndV (dCall S_are_letters (dConsA (dVar 0) dNilA)) (dAndV (dChain ltD leD (dC (.int 0)) (dCallB lenD0 (dConsL (dVarB 0) dNilL)) (dC (.int 7))) (dOp eqD (dNew (dCallN listD (dConsL (dVarB 0) dNilL))) (dNew (dCallN sortedD (dConsL (dVarB 0) dNilL)))))))

def d_is_tie : DS := (dSeq (dIf (dOr (dNot (dTest (dIsi isStrD (dVarB 1)))) (dTest (dOp neD (dCallB lenD0 (dConsL (dVarB 1) dNilL)) (dC (.int 2))))) (dRet (dC (.bl false))) dNext)
  (dRet (dAndV (dOp inD (dOp ixD (dVarB 1) (dC (.int 0))) (dVarB 0)) (dAndV (dOp inD (dOp ixD (dVarB 1) (dC (.int 1))) (dVarB 0)) (dOp leD (dOp ixD (dVarB 1) (dC (.int 0))) (dOp ixD (dVarB 1) (dC (.int 1))))))))

def d_wrong_tie : DS := (dSeq (dFor (dIEnum (dVar 1)) (tgT (tgCons (tgN 2) (tgCons (tgN 3) tgNil)) 2) (dIf (dOr (dTest (dOp eqD (dVarB 2) (dC (.int 11)))) (dNot (dTest (dCall S_is_tie (dConsA (dVar 0) (dConsA (dVar 3) dNilA)))))) (dRet (dVar 2)) dNext))
  (dRet (dC .non)))

def d_Weblen : DS := (dRet (dCallB lenD0 (dConsL (dTs (dVar 0)) dNilL)))

def d_check_web : DS := (dIf (dNot (dTest (dIsi isWebD (dVarB 0)))) dNever dNext)

def d_is_leaning : DS := (dRet (dAndV (dIsi isStrD (dVarB 1)) (dAndV (dOp eqD (dCallB lenD0 (dConsL (dVarB 1) dNilL)) (dCallB lenD (dConsL (dVarB 0) dNilL))) (dCallB allD (dConsL (dNew (dLc (dISrc (dVarB 1)) (tgN 2) dYes (dOp inD (dVarB 2) (dC (.str "+-"))) [2])) dNilL)))))

def d_check_leaning : DS := (dIf (dNot (dTest (dCall S_is_leaning (dConsA (dVar 0) (dConsA (dVar 1) dNilA))))) dNever dNext)

def d_check_leaned : DS := (dSeq (dDrop (dCall S_check_web (dConsA (dVar 0) dNilA)))
  (dDrop (dCall S_check_leaning (dConsA (dVar 0) (dConsA (dVar 1) dNilA)))))

def d_ways_of : DS := (dRet (dNew (dLc (dIZip (dTs (dVar 0)) (dVar 1)) (tgT (tgCons (tgN 2) (tgCons (tgN 3) tgNil)) 2) dYes (dIfE (dTest (dOp eqD (dVarB 3) (dC (.str "+")))) (dVar 2) (dRev (dVar 2))) [2, 3])))

def d_scores_of : DS := (dSeq (dAsg 2 (dNew (dLc (dISrc (dCall S_ways_of (dConsA (dVar 0) (dConsA (dVar 1) dNilA)))) (tgN 3) dYes (dOp ixD (dVarB 3) (dC (.int 0))) [3])))
  (dRet (dCallB tupleD (dConsL (dNew (dLc (dISrc (dPl (dVar 0))) (tgN 4) dYes (dMt D.isL countD (dVarB 2) (dConsL (dVarB 4) dNilL)) [4])) dNilL))))

def d_first_ring : DS := (dSeq (dParNN 2 3 (dLst dNilL) (dLst (dConsL (dOp ixD (dOp ixD (dVarB 0) (dOp ixD (dVarB 1) (dC (.int 0)))) (dC (.int 0))) dNilL)))
  (dWhile (dTest (dC (.bl true))) (dSeq (dAsg 4 (dOp ixD (dNew (dLc (dISrc (dVarB 1)) (tgN 5) (dAnd (dTest (dOp notInD (dVarB 5) (dVarB 2))) (dTest (dOp eqD (dOp ixD (dOp ixD (dVarB 0) (dVarB 5)) (dC (.int 0))) (dOp ixD (dVarB 3) (dC (.int (-1))))))) (dVar 5) [5])) (dC (.int 0))))
  (dSeq (dApp 2 (dVar 4))
  (dSeq (dIf (dTest (dOp inD (dOp ixD (dOp ixD (dVarB 0) (dVarB 4)) (dC (.int 1))) (dVarB 3))) (dRet (dNew (dDrop' (dVarB 2) (dMt D.isL indexD (dVarB 3) (dConsL (dOp ixD (dOp ixD (dVarB 0) (dVarB 4)) (dC (.int 1))) dNilL))))) dNext)
  (dApp 3 (dOp ixD (dOp ixD (dVarB 0) (dVarB 4)) (dC (.int 1)))))))))

def d_turning_rings : DS := (dSeq (dDrop (dCall S_check_leaned (dConsA (dVar 0) (dConsA (dVar 1) dNilA))))
  (dSeq (dDrop (dCall S_check_leaning (dConsA (dVar 0) (dConsA (dVar 2) dNilA))))
  (dSeq (dIf (dTest (dOp neD (dCall S_scores_of (dConsA (dVar 0) (dConsA (dVar 1) dNilA))) (dCall S_scores_of (dConsA (dVar 0) (dConsA (dVar 2) dNilA))))) (dRet (dC .non)) dNext)
  (dSeq (dParEN 3 4 (dCall S_ways_of (dConsA (dVar 0) (dConsA (dVar 1) dNilA))) (dLst dNilL))
  (dSeq (dAsg 5 (dNew (dLc (dIRng (dCallB lenD (dConsL (dVarB 0) dNilL))) (tgN 7) (dTest (dOp neD (dOp ixD (dVarB 1) (dVarB 7)) (dOp ixD (dVarB 2) (dVarB 7)))) (dVar 7) [7])))
  (dSeq (dWhile (dTest (dOp neD (dVarB 5) (dNew (dLst dNilL)))) (dSeq (dAsg 6 (dCall S_first_ring (dConsA (dVar 3) (dConsA (dVar 5) dNilA))))
  (dSeq (dApp 4 (dCallB tupleD (dConsL (dNew (dCallN sortedD (dConsL (dVarB 6) dNilL))) dNilL)))
  (dAsg 5 (dNew (dLc (dISrc (dVarB 5)) (tgN 7) (dTest (dOp notInD (dVarB 7) (dVarB 6))) (dVar 7) [7]))))))
  (dRet (dCallB tupleD (dConsL (dVarB 4) dNilL)))))))))

def d_law_one : DS := (dRet (dOp ixD (dVarB 1) (dCall S_law_take (dConsC 0 (dConsA (dCallB lenD0 (dConsL (dVarB 1) dNilL)) dNilA)))))

def d_law_web : DS := (dSeq (dParNN 3 4 (dCallN listD (dConsL (dC (.str "abcdefgh")) dNilL)) (dLst dNilL))
  (dSeq (dFor (dIRng (dOp addD (dC (.int 1)) (dCall S_law_take (dConsC 0 (dConsA (dVar 1) dNilA))))) (tgN 5) (dAppPop 4 3 (dCall S_law_take (dConsC 0 (dConsA (dCallB lenD0 (dConsL (dVarB 3) dNilL)) dNilA)))))
  (dSeq (dParEN 6 7 (dMt D.isS joinD (dC (.str "")) (dConsL (dNew (dCallN sortedD (dConsL (dVarB 4) dNilL))) dNilL)) (dLst dNilL))
  (dSeq (dFor (dIRng (dCall S_law_take (dConsC 0 (dConsA (dOp addD (dVarB 2) (dC (.int 1))) dNilA)))) (tgN 5) (dSeq (dPar 8 9 (dConsL (dCall S_law_one (dConsC 0 (dConsA (dVar 6) dNilA))) (dConsL (dCall S_law_one (dConsC 0 (dConsA (dVar 6) dNilA))) dNilL)))
  (dSeq (dAsg 9 (dIfE (dAnd (dTest (dOp eqD (dVarB 8) (dVarB 9))) (dTest (dOp gtD (dCall S_law_take (dConsC 0 (dConsA (dC (.int 3)) dNilA))) (dC (.int 0))))) (dCall S_law_one (dConsC 0 (dConsA (dVar 6) dNilA))) (dVar 9)))
  (dApp 7 (dOp addD (dCallB minD2 (dConsL (dVarB 8) (dConsL (dVarB 9) dNilL))) (dCallB maxD2 (dConsL (dVarB 8) (dConsL (dVarB 9) dNilL))))))))
  (dRet (dTup (dConsL (dVar 6) (dConsL (dCallB tupleD (dConsL (dVarB 7) dNilL)) dNilL))))))))

def d_law_lean : DS := (dRet (dMt D.isS joinD (dC (.str "")) (dConsL (dNew (dLc (dISrc (dVarB 1)) (tgN 2) dYes (dCall S_law_one (dConsC 0 (dConsA (dC (.str "+-")) dNilA))) [2])) dNilL)))

def d_law_ways : DS := (dRet (dNew (dLc (dIRng (dCallB lenD0 (dConsL (dVarB 0) dNilL))) (tgN 2) dYes (dIfE (dTest (dOp eqD (dOp ixD (dVarB 1) (dVarB 2)) (dC (.str "+")))) (dOp ixD (dVarB 0) (dVarB 2)) (dRev (dOp ixD (dVarB 0) (dVarB 2)))) [2])))

def d_law_goes_round : DS := (dSeq (dIf (dTest (dOp eqD (dVarB 1) (dTup dNilL))) (dRet (dC (.bl false))) dNext)
  (dSeq (dParEN 2 3 (dOp ixD (dOp ixD (dVarB 0) (dOp ixD (dVarB 1) (dC (.int 0)))) (dC (.int 0))) (dLst dNilL))
  (dSeq (dAsg 4 (dVar 2))
  (dSeq (dFor (dISrc (dVar 1)) (tgN 5) (dSeq (dAsg 6 (dNew (dLc (dISrc (dVarB 1)) (tgN 7) (dAnd (dTest (dOp eqD (dOp ixD (dOp ixD (dVarB 0) (dVarB 7)) (dC (.int 0))) (dVarB 4))) (dTest (dOp notInD (dVarB 7) (dVarB 3)))) (dVar 7) [7])))
  (dSeq (dIf (dOr (dTest (dOp neD (dCallB lenD0 (dConsL (dVarB 6) dNilL)) (dC (.int 1)))) (dTest (dOp inD (dVarB 4) (dNew (dLc (dISrc (dVarB 3)) (tgN 7) dYes (dOp ixD (dOp ixD (dVarB 0) (dVarB 7)) (dC (.int 0))) [7]))))) (dRet (dC (.bl false))) dNext)
  (dSeq (dApp 3 (dOp ixD (dVarB 6) (dC (.int 0))))
  (dAsg 4 (dOp ixD (dOp ixD (dVarB 0) (dOp ixD (dVarB 6) (dC (.int 0)))) (dC (.int 1))))))))
  (dRet (dAndV (dOp eqD (dVarB 4) (dVarB 2)) (dOp eqD (dCallB lenD0 (dConsL (dVarB 3) dNilL)) (dCallB lenD0 (dConsL (dVarB 1) dNilL)))))))))

def d_law_flip : DS := (dRet (dMt D.isS joinD (dC (.str "")) (dConsL (dNew (dLc (dIEnum (dVarB 0)) (tgT (tgCons (tgN 2) (tgCons (tgN 3) tgNil)) 2) dYes (dIfE (dTest (dOp inD (dVarB 2) (dVarB 1))) (dIfE (dTest (dOp eqD (dVarB 3) (dC (.str "+")))) (dC (.str "-")) (dC (.str "+"))) (dVar 3)) [2, 3])) dNilL)))

def d_law_row : DS := (dRet (dCallB tupleD (dConsL (dNew (dLc (dISrc (dVarB 0)) (tgN 2) dYes (dCallB lenD0 (dConsL (dNew (dLc (dISrc (dVarB 1)) (tgN 3) (dTest (dOp eqD (dOp ixD (dVarB 3) (dC (.int 0))) (dVarB 2))) (dVar 3) [3])) dNilL)) [2])) dNilL)))

def d_law_shown : DS := (dSeq (dIf (dNot (dTest (dIsi isTupD (dVarB 3)))) (dRet (dC (.bl false))) dNext)
  (dSeq (dAsgT (tgT (tgCons (tgN 4) (tgCons (tgN 5) tgNil)) 2) (dTup (dConsL (dCall S_law_ways (dConsA (dTs (dVar 0)) (dConsA (dVar 1) dNilA))) (dConsL (dNew (dLst dNilL)) dNilL))))
  (dSeq (dFor (dISrc (dVar 3)) (tgN 6) (dSeq (dIf (dOr (dNot (dTest (dIsi isTupD (dVarB 6)))) (dOr (dTest (dOp neD (dNew (dCallN listD (dConsL (dVarB 6) dNilL))) (dNew (dSortSet (dVar 6))))) (dNot (dTest (dCall S_law_goes_round (dConsA (dVar 4) (dConsA (dVar 6) dNilA))))))) (dRet (dC (.bl false))) dNext)
  (dSeq (dIf (dTest (dOp neD (dNew (dLc (dISrc (dVarB 6)) (tgN 7) (dTest (dOp inD (dVarB 7) (dVarB 5))) (dVar 7) [7])) (dNew (dLst dNilL)))) (dRet (dC (.bl false))) dNext)
  (dAsg 5 (dOp addD (dVarB 5) (dNew (dCallN listD (dConsL (dVarB 6) dNilL))))))))
  (dRet (dOp eqD (dCall S_law_flip (dConsA (dVar 1) (dConsA (dVar 5) dNilA))) (dVarB 2))))))

def d_law_near : DS := (dSeq (dFor (dIRng (dC (.int 6))) (tgN 3) (dSeq (dAsg 4 (dCall S_law_ways (dConsA (dVar 1) (dConsA (dVar 2) dNilA))))
  (dSeq (dAsg 5 (dCallB tupleD (dConsL (dNew (dLc (dIRng (dCallB lenD0 (dConsL (dVarB 1) dNilL))) (tgN 6) (dTest (dOp eqD (dCall S_law_take (dConsC 0 (dConsA (dC (.int 2)) dNilA))) (dC (.int 0)))) (dVar 6) [6])) dNilL)))
  (dAsg 2 (dIfE (dTest (dCall S_law_goes_round (dConsA (dVar 4) (dConsA (dVar 5) dNilA)))) (dCall S_law_flip (dConsA (dVar 2) (dConsA (dVar 5) dNilA))) (dVar 2))))))
  (dRet (dVar 2)))

def d_law_right : DS := (dSeq (dAsgT (tgT (tgCons (tgN 1) (tgCons (tgN 2) tgNil)) 2) (dCall S_law_web (dConsC 0 (dConsA (dC (.int 4)) (dConsA (dC (.int 6)) dNilA)))))
  (dSeq (dAsg 3 (dMake (dConsA (dVar 1) (dConsA (dVar 2) dNilA))))
  (dSeq (dFor (dIRng (dC (.int 3))) (tgN 4) (dSeq (dAsg 5 (dCall S_law_lean (dConsC 0 (dConsA (dVar 2) dNilA))))
  (dFor (dISrc (dNew (dLst (dConsL (dCall S_law_near (dConsC 0 (dConsA (dVar 2) (dConsA (dVar 5) dNilA)))) (dConsL (dCall S_law_lean (dConsC 0 (dConsA (dVar 2) dNilA))) (dConsL (dVar 5) dNilL)))))) (tgN 6) (dSeq (dAsg 7 (dNew (dLc (dISrc (dNew (dLst (dConsL (dVar 5) (dConsL (dVar 6) dNilL))))) (tgN 9) dYes (dCall S_law_row (dConsA (dVar 1) (dConsA (dCall S_law_ways (dConsA (dVar 2) (dConsA (dVar 9) dNilA))) dNilA))) [9])))
  (dSeq (dAsg 8 (dNew (dLst (dConsL (dCall S_turning_rings (dConsA (dVar 3) (dConsA (dVar 5) (dConsA (dVar 6) dNilA)))) (dConsL (dCallK S_turning_rings pm_turning_rings (dConsA (dVar 6) (dConsA (dVar 5) (dConsA (dVar 3) dNilA)))) dNilL)))))
  (dIf (dTest (dOp neD (dOp ixD (dVarB 7) (dC (.int 0))) (dOp ixD (dVarB 7) (dC (.int 1))))) (dIf (dTest (dOp neD (dVarB 8) (dNew (dLst (dConsL (dC .non) (dConsL (dC .non) dNilL)))))) (dRet (dC (.bl false))) dNext) (dIf (dOr (dNot (dTest (dCall S_law_shown (dConsA (dVar 3) (dConsA (dVar 5) (dConsA (dVar 6) (dConsA (dOp ixD (dVarB 8) (dC (.int 0))) dNilA))))))) (dNot (dTest (dCall S_law_shown (dConsA (dVar 3) (dConsA (dVar 5) (dConsA (dVar 6) (dConsA (dOp ixD (dVarB 8) (dC (.int 1))) dNilA)))))))) (dRet (dC (.bl false))) dNext)))))))
  (dRet (dC (.bl true))))))

abbrev N_are_letters : List Str := ["value", "letter"]
abbrev N_are_places : List Str := ["value"]
abbrev N_is_tie : List Str := ["places", "value"]
abbrev N_wrong_tie : List Str := ["places", "ties", "index", "tie"]
abbrev N_Webinit : List Str := ["self", "places", "ties", "wrong"]
abbrev N_Weblen : List Str := ["self"]
abbrev N_check_web : List Str := ["web"]
abbrev N_is_leaning : List Str := ["web", "value", "sign"]
abbrev N_check_leaning : List Str := ["web", "leaning"]
abbrev N_check_leaned : List Str := ["web", "leaning"]
abbrev N_ways_of : List Str := ["web", "leaning", "tie", "sign"]
abbrev N_scores_of : List Str := ["web", "leaning", "firsts", "way", "place"]
abbrev N_first_ring : List Str := ["ways", "left", "line", "passed", "index", "own"]
abbrev N_turning_rings : List Str := ["web", "leaning", "other_leaning", "ways", "found", "left", "ring", "index"]
abbrev N_law_purse : List Str := ["_law_script", "_law_k", "_law_cell", "_law_more", "_law_figures"]
abbrev N_law_take : List Str := ["_law_purse_here", "_law_many", "_law_digit", "_law_seed", "_law_laps", "_law_factor"]
abbrev N_law_one : List Str := ["_law_purse_here", "_law_things"]
abbrev N_law_web : List Str := ["_law_purse_here", "_law_most_places", "_law_most_ties", "_law_left", "_law_found", "_law_k", "_law_places_here", "_law_ties_here", "_law_one_here", "_law_two"]
abbrev N_law_lean : List Str := ["_law_purse_here", "_law_ties_here", "_law_tie"]
abbrev N_law_ways : List Str := ["_law_ties_here", "_law_leaning_here", "_law_k"]
abbrev N_law_goes_round : List Str := ["_law_ways_here", "_law_lot", "_law_first", "_law_seen", "_law_here", "_law_turn", "_law_some", "_law_k"]
abbrev N_law_flip : List Str := ["_law_leaning_here", "_law_lot", "_law_k", "_law_sign"]
abbrev N_law_row : List Str := ["_law_places_here", "_law_ways_here", "_law_place", "_law_way"]
abbrev N_law_shown : List Str := ["_law_mine", "_law_leaning_here", "_law_other", "_law_told", "_law_ways_here", "_law_seen", "_law_lot", "_law_k"]
abbrev N_law_near : List Str := ["_law_purse_here", "_law_ties_here", "_law_leaning_here", "_law_turn", "_law_ways_here", "_law_lot", "_law_k"]
abbrev N_law_right : List Str := ["_law_purse_here", "_law_places_here", "_law_ties_here", "_law_mine", "_law_turn", "_law_one_here", "_law_two", "_law_rows_here", "_law_told", "_law_each"]
abbrev N_law : List Str := ["_law_script", "_law_k"]
abbrev fin (Q : D → Nat → Prop) : DEnds := { nx := fun _ m => Q .non m, rt := Q }
end K23
namespace K23
open PySem L2 G
theorem plS_len (P : List Nat) : (plS P).length = P.length := rfl
theorem chars_plS (P : List Nat) : charsD (plS P) = P.map fun a => D.str (c1 a) := rfl
theorem chars_lnS (L : List Bool) : charsD (lnS L) = L.map fun b => D.str (c1 (sgn b)) := by
  show (L.map sgn).map _ = _
  rw [List.map_map]; rfl
theorem lnS_len (L : List Bool) : (lnS L).length = L.length := by
  show (L.map sgn).length = _
  rw [List.length_map]
theorem in_pl (a : Nat) (P : List Nat) : inD (.str (c1 a)) (.str (plS P)) = some (.bl (decide (a ∈ P))) := rfl
theorem all_true {α : Type} (P : List α) : allD [.lst (P.map fun _ => D.bl true)] = some (.bl true) := by
  have e : (P.map fun _ => D.bl true) = (P.map fun _ => true).map D.bl := by rw [List.map_map]; rfl
  show (bools _).map _ = _
  rw [e, bools_of]
  simp
theorem letters_in (a : Nat) (h : 97 ≤ a ∧ a ≤ 104) : inD (.str (c1 a)) (.str "abcdefgh") = some (.bl true) := by
  have e : (Str.ofString "abcdefgh") = plS [97, 98, 99, 100, 101, 102, 103, 104] := by decide +kernel
  rw [e, in_pl]
  have : a ∈ [97, 98, 99, 100, 101, 102, 103, 104] := by simp; omega
  rw [decide_eq_true this]
theorem signs_in (b : Bool) : inD (.str (c1 (sgn b))) (.str "+-") = some (.bl true) := by
  have e : (Str.ofString "+-") = plS [43, 45] := by decide +kernel
  rw [e, in_pl]
  cases b <;> rfl
theorem c1_inj {a b : Nat} (h : c1 a = c1 b) : a = b := by
  have : (c1 a).cps.toList = (c1 b).cps.toList := by rw [h]
  simpa [c1] using this
theorem c1_eq (a b : Nat) : decide (c1 a = c1 b) = decide (a = b) := by
  by_cases h : a = b
  · subst h; simp
  · rw [decide_eq_false h, decide_eq_false fun z => h (c1_inj z)]
theorem dk_nodup (env : Env') (he : env.length = 2) : ∀ (P : List Nat) (ks : List Key) (m : Nat) (Q : List Key → Nat → Prop), P.Nodup → (∀ a ∈ P, ∀ k ∈ ks, k ≠ .inr (c1 a)) → Q (ks ++ P.map fun a => .inr (c1 a)) m →
    DkR (tgN 1) (dVar 1) (dC (.bl true)) env (P.map fun a => D.str (c1 a)) m ks Q
  | [], ks, m, Q, _, _, q => by
    rw [List.map_nil, List.append_nil] at q
    exact q
  | a :: r, ks, m, Q, nd, ne, q => by
    refine ⟨_, rfl, .str (c1 a), ?_, .inr (c1 a), rfl, ?_⟩
    · rw [List.getElem?_set_self (by omega)]; rfl
    · have e : putKey ks (.inr (c1 a)) = ks ++ [.inr (c1 a)] := by
        unfold putKey
        rw [if_neg]
        intro z
        obtain ⟨k, hk, h⟩ := List.any_eq_true.mp z
        exact ne a (by simp) k hk (of_decide_eq_true h)
      rw [e]
      obtain ⟨n1, n2⟩ := List.nodup_cons.mp nd
      refine dk_nodup env he r _ m Q n2 (fun b hb k hk => ?_) (by rw [List.append_assoc]; exact q)
      rcases List.mem_append.mp hk with hk | hk
      · exact ne b (by simp [hb]) k hk
      · rw [List.mem_singleton] at hk
        subst hk
        intro z
        have := c1_inj (Sum.inr.inj z)
        subst this
        exact n1 hb
theorem PlOk.nodup {P : List Nat} (h : PlOk P) : P.Nodup := h.inc.imp fun a => Nat.ne_of_lt a
theorem law_are_letters : ∀ as m Q, S_are_letters as m Q → d_are_letters (pad N_are_letters as) m (fin Q) := by
  rintro as m Q ⟨P, hP, rfl, q⟩
  have hl : P.length ≤ LL := Nat.le_trans hP.few (by decide)
  refine ⟨_, rfl, true, rfl, true, rfl, ?_⟩
  refine ⟨_, rfl, _, rfl, ?_, ?_⟩
  · rw [chars_plS, List.length_map]; exact hl
  · rw [chars_plS]
    refine dk_nodup _ rfl P [] m _ hP.nodup (fun _ _ _ h => by simp at h) ?_
    refine ⟨_, rfl, .int (P.length : Nat), if_pos hl, .bl false, ?_, false, rfl, ?_⟩
    · show neD (.int _) (.int _) = _
      simp [neD, eqB_int]
    · refine ⟨_, rfl, _, rfl, ?_, ?_⟩
      · rw [chars_plS, List.length_map]; exact hl
      · rw [chars_plS]
        refine lcR_m (fun a => D.str (c1 a)) (fun _ => .bl true) P m _ (fun a ha => ⟨_, rfl, fun m Q q => ⟨_, rfl, _, letters_in a (hP.let8 a ha), q⟩⟩) ?_
        exact ⟨_, all_true P, q⟩
theorem sLt_c1 (a b : Nat) : sLt (c1 a) (c1 b) = decide (a < b) := by
  unfold sLt c1
  show decide ([a] < [b]) = _
  by_cases h : a < b
  · rw [decide_eq_true h, decide_eq_true (List.cons_lt_cons_iff.mpr (.inl h))]
  · rw [decide_eq_false h, decide_eq_false]
    intro z
    rcases List.cons_lt_cons_iff.mp z with y | ⟨_, y⟩
    · exact h y
    · exact absurd y (by simp)
theorem lt_c1 (a b : Nat) : D.lt (.str (c1 a)) (.str (c1 b)) = decide (a < b) := by
  show PySem.W.dataLt (.str (c1 a)) (.str (c1 b)) = _
  rw [PySem.W.dataLt_str, ← sLt_c1]
  rfl
theorem sort_c1 {P : List Nat} (h : P.Pairwise (· < ·)) : sortL (P.map fun a => D.str (c1 a)) = P.map fun a => D.str (c1 a) := by
  unfold sortL
  refine List.mergeSort_of_pairwise ?_
  rw [List.pairwise_map]
  refine h.imp fun {a b} hab => ?_
  rw [lt_c1]
  simp; omega
theorem okdL_c1 (n : Nat) : ∀ P : List Nat, (∀ a ∈ P, a < 1000) → okdL (P.map fun a => D.str (c1 a)) n = true
  | [], _ => rfl
  | a :: r, h => by
    rw [List.map_cons]
    unfold okdL
    rw [okdL_c1 n r fun b hb => h b (by simp [hb])]
    have : D.okd (.str (c1 a)) n = true := by
      have ha := h a (by simp)
      show PyData.strOk (c1 a) = true
      unfold PyData.strOk c1
      simp
      omega
    rw [this]; rfl
theorem eqvL_self_c1 : ∀ P : List Nat, PyData.eqvAll (pyL (P.map fun a => D.str (c1 a))) (pyL (P.map fun a => D.str (c1 a))) = true
  | [] => rfl
  | a :: r => by
    simp only [List.map_cons, pyL, D.py, PyData.eqvAll, eqvL_self_c1 r]
    simp [PyData.eqv]
theorem law_are_places : ∀ as m Q, S_are_places as m Q → d_are_places (pad N_are_places as) m (fin Q) := by
  rintro as m Q ⟨P, hP, rfl, q⟩
  have hl : P.length ≤ LL := Nat.le_trans hP.few (by decide)
  refine ⟨_, rfl, P, hP, rfl, true, rfl, ?_⟩
  refine ⟨_, rfl, .int (P.length : Nat), if_pos hl, true, ?_, ?_⟩
  · show some (D.bl (decide ((0 : Int) < (P.length : Nat)))) = _
    rw [decide_eq_true (by have := hP.pos; omega)]
  · refine ⟨.bl true, ?_, true, rfl, ?_⟩
    · show some (D.bl (decide (((P.length : Nat) : Int) ≤ 7))) = _
      rw [decide_eq_true (by have := hP.few; omega)]
    · refine ⟨_, rfl, P.map fun a => D.str (c1 a), if_pos hl, _, rfl, P.map fun a => D.str (c1 a), ?_, .bl true, ?_, q⟩
      · show (if _ then some (sortL (charsD (plS P))) else none) = _
        rw [if_pos (by rw [plS_len]; exact hl), chars_plS, sort_c1 hP.inc]
      · show (deepEq _ _).map _ = _
        unfold deepEq
        have hk := okdL_c1 59 P fun a ha => by have := hP.let8 a ha; omega
        rw [if_pos (by simp only [D.okd, hk]; rfl)]
        simp only [D.py]
        show some (D.bl (PyData.eqvAll _ _)) = _
        rw [eqvL_self_c1]
theorem tS_len (p : Nat × Nat) : (tS p).length = 2 := rfl
theorem ix_t0 (p : Nat × Nat) : ixD (.str (tS p)) (.int 0) = some (.str (c1 p.1)) := rfl
theorem ix_t1 (p : Nat × Nat) : ixD (.str (tS p)) (.int 1) = some (.str (c1 p.2)) := rfl
theorem law_is_tie : ∀ as m Q, S_is_tie as m Q → d_is_tie (pad N_is_tie as) m (fin Q) := by
  rintro as m Q ⟨P, p, _, h1, h2, h3, rfl, q⟩
  refine ⟨_, rfl, true, rfl, true, rfl, ?_⟩
  refine ⟨_, rfl, .int 2, rfl, .bl false, rfl, false, rfl, ?_⟩
  refine ⟨_, rfl, _, ix_t0 p, _, rfl, .bl true, ?_, true, rfl, ?_⟩
  · rw [in_pl, decide_eq_true h1]
  · refine ⟨_, rfl, _, ix_t1 p, _, rfl, .bl true, ?_, true, rfl, ?_⟩
    · rw [in_pl, decide_eq_true h2]
    · refine ⟨_, rfl, _, ix_t0 p, _, rfl, _, ix_t1 p, .bl true, ?_, q⟩
      show some (D.bl (!sLt (c1 p.2) (c1 p.1))) = _
      rw [sLt_c1, decide_eq_false (by omega)]; rfl
theorem law_Weblen : ∀ as m Q, S_Weblen as m Q → d_Weblen (pad N_Weblen as) m (fin Q) := by
  rintro as m Q ⟨pl, ts, rfl, q⟩
  refine ⟨_, rfl, pl, ts, rfl, _, rfl, ?_⟩
  rw [List.length_map]
  exact q
theorem law_check_web : ∀ as m Q, S_check_web as m Q → d_check_web (pad N_check_web as) m (fin Q) := by
  rintro as m Q ⟨P, T, rfl, q⟩
  exact ⟨_, rfl, true, rfl, true, rfl, q⟩
theorem law_is_leaning : ∀ as m Q, S_is_leaning as m Q → d_is_leaning (pad N_is_leaning as) m (fin Q) := by
  rintro as m Q ⟨P, T, L, h11, hL, rfl, q⟩
  have hl : (lnS L).length ≤ LL := by rw [lnS_len, hL]; exact Nat.le_trans h11 (by decide)
  refine ⟨_, rfl, true, rfl, true, rfl, ?_⟩
  refine ⟨_, rfl, _, if_pos hl, _, rfl, _, rfl, .bl true, ?_, true, rfl, ?_⟩
  · rw [eqD_int, lnS_len, hL, List.length_map]; simp
  · refine ⟨_, rfl, _, rfl, ?_, ?_⟩
    · rw [chars_lnS, List.length_map, hL]; exact Nat.le_trans h11 (by decide)
    · rw [chars_lnS]
      refine lcR_m (fun b => D.str (c1 (sgn b))) (fun _ => .bl true) L m _ (fun a ha => ⟨_, rfl, fun m Q q => ⟨_, rfl, _, signs_in a, q⟩⟩) ?_
      exact ⟨_, all_true L, q⟩
theorem law_check_leaning : ∀ as m Q, S_check_leaning as m Q → d_check_leaning (pad N_check_leaning as) m (fin Q) := by
  rintro as m Q ⟨P, T, L, h11, hL, rfl, q⟩
  exact ⟨_, rfl, _, rfl, P, T, L, h11, hL, rfl, true, rfl, q⟩
theorem law_check_leaned : ∀ as m Q, S_check_leaned as m Q → d_check_leaned (pad N_check_leaned as) m (fin Q) := by
  rintro as m Q ⟨P, T, L, h11, hL, rfl, q⟩
  exact ⟨_, rfl, P, T, rfl, _, rfl, _, rfl, P, T, L, h11, hL, rfl, q⟩
end K23
namespace K23
open PySem L2 G
theorem llv : LL = 100000 := rfl
theorem drop_cons {α : Type} {l : List α} {k : Nat} {d : α} {ds : List α} (h : d :: ds = l.drop k) : l[k]? = some d ∧ ds = l.drop (k + 1) := by
  have hk : k < l.length := by
    apply Classical.byContradiction
    intro z
    rw [List.drop_eq_nil_of_le (by omega)] at h
    cases h
  rw [List.drop_eq_getElem_cons hk] at h
  injection h with h1 h2
  exact ⟨by rw [h1]; exact List.getElem?_eq_getElem hk, h2⟩
theorem enum_get {ds : List D} {k : Nat} {x : D} (h : (enumD ds)[k]? = some x) : ∃ d, ds[k]? = some d ∧ x = .tup [.int (k : Nat), d] := by
  unfold enumD at h
  rw [List.getElem?_map, List.getElem?_zipIdx] at h
  cases e : ds[k]? with
  | none => rw [e] at h; simp at h
  | some d => rw [e] at h; simp at h; exact ⟨d, rfl, h.symm⟩
theorem law_wrong_tie : ∀ as m Q, S_wrong_tie as m Q → d_wrong_tie (pad N_wrong_tie as) m (fin Q) := by
  rintro as m Q ⟨P, T, hW, rfl, q⟩
  refine ⟨_, rfl, _, rfl, ?_⟩
  refine forR_ind (fun its env m' => m' = m ∧ (∃ x y, env = [.val (.str (plS P)), .val (.tup (T.map wayD)), x, y]) ∧ ∃ k, its = (enumD (T.map wayD)).drop k) ?_ ?_ _ _ _ ⟨rfl, ⟨_, _, rfl⟩, 0, rfl⟩
  · rintro env m' ⟨rfl, _, _⟩
    exact q
  · rintro d ds env m' ⟨rfl, ⟨x, y, rfl⟩, k, hk⟩
    obtain ⟨h1, h2⟩ := drop_cons hk
    obtain ⟨z, h3, rfl⟩ := enum_get h1
    rw [List.getElem?_map] at h3
    obtain ⟨p, hp, rfl⟩ := Option.map_eq_some_iff.mp h3
    have hkl : k < T.length := (List.getElem?_eq_some_iff.mp hp).1
    obtain ⟨t1, t2, t3⟩ := hW.ties p (List.mem_of_getElem? hp)
    have hk11 : ((k : Int) = 11) = False := by
      have := hW.few
      simp; omega
    refine ⟨_, rfl, fun K hK => ⟨_, rfl, .bl false, ?_, false, rfl, ?_⟩⟩
    · rw [eqD_int]; simp [hk11]
    · exact ⟨_, rfl, _, rfl, P, p, Nat.le_trans hW.pl.few (by decide), t1, t2, t3, rfl, true, rfl, hK _ _ ⟨rfl, ⟨_, _, rfl⟩, k + 1, h2⟩⟩
theorem plus_is : (Str.ofString "+") = c1 43 := by decide +kernel
theorem minus_is : (Str.ofString "-") = c1 45 := by decide +kernel
theorem empty_is : (Str.ofString "") = plS [] := by decide +kernel
theorem eq_plus (b : Bool) : eqD (.str (c1 (sgn b))) (.str "+") = some (.bl b) := by
  rw [plus_is, eqD_str, c1_eq]
  cases b <;> rfl
theorem zip_map {α β : Type} (f : α → D) (g : β → D) : ∀ (as : List α) (bs : List β), zipD (as.map f) (bs.map g) = (as.zip bs).map fun p => .tup [f p.1, g p.2]
  | [], _ => by simp [zipD]
  | _ :: _, [] => by simp [zipD]
  | a :: as, b :: bs => by
    have := zip_map f g as bs
    unfold zipD at this ⊢
    simp only [List.map_cons, List.zipWith_cons_cons, List.zip_cons_cons, this]
theorem ways_zip (T : List (Nat × Nat)) (L : List Bool) : ways T L = (T.zip L).map fun p => way p.1 p.2 := by
  unfold ways
  rw [List.zip_eq_zipWith, List.map_zipWith]
theorem len11 {n : Nat} (h : n ≤ 11) : n ≤ LL := Nat.le_trans h (by decide)
theorem law_ways_of : ∀ as m Q, S_ways_of as m Q → d_ways_of (pad N_ways_of as) m (fin Q) := by
  rintro as m Q ⟨P, T, L, h11, hL, rfl, q⟩
  refine ⟨_, rfl, plS P, T.map tS, rfl, _, rfl, _, _, rfl, rfl, ?_⟩
  have e : zipD ((T.map tS).map D.str) (charsD (lnS L)) = (T.zip L).map fun p => .tup [wayD p.1, .str (c1 (sgn p.2))] := by
    rw [chars_lnS, List.map_map, zip_map]; rfl
  rw [e]
  refine ⟨by rw [List.length_map, List.length_zip]; have := llv; omega, lcR_m (fun p : (Nat × Nat) × Bool => D.tup [wayD p.1, .str (c1 (sgn p.2))]) (fun p => wayD (way p.1 p.2)) _ m _ (fun a ha => ⟨_, rfl, fun m Q q => ⟨_, rfl, _, eq_plus a.2, a.2, rfl, ?_⟩⟩) ?_⟩
  · obtain ⟨p, b⟩ := a
    cases b with
    | true => exact ⟨_, rfl, q⟩
    | false => exact ⟨_, rfl, tS p, rfl, (by decide : 2 ≤ LL), q⟩
  · rw [ways_zip, List.map_map] at q
    exact q
theorem ways_len {T : List (Nat × Nat)} {L : List Bool} (h : L.length = T.length) : (ways T L).length = T.length := by
  unfold ways; rw [List.length_zipWith]; omega
theorem flats_str {α : Type} (f : α → Str) : ∀ xs : List α, flats (xs.map fun x => D.str (f x)) = some (xs.map fun x => V.str (f x))
  | [] => rfl
  | a :: r => by
    rw [List.map_cons]
    unfold flats
    rw [flats_str f r]
    rfl
theorem count_c1 (a : Nat) : ∀ W : List (Nat × Nat), countD (.lst (W.map fun p => D.str (c1 p.1))) [.str (c1 a)] = some (.int ((W.countP fun p => p.1 == a : Nat))) := by
  intro W
  show (flats _).bind _ = _
  rw [flats_str]
  show some (D.int (((W.map fun p => V.str (c1 p.1)).countP fun z => eqV z (.str (c1 a)) : Nat))) = _
  rw [List.countP_map]
  congr 3
  refine List.countP_congr fun p _ => ?_
  show (c1 p.1 == c1 a) = true ↔ (p.1 == a) = true
  rw [beq_iff_eq, beq_iff_eq]
  exact ⟨c1_inj, fun h => by rw [h]⟩
theorem law_scores_of : ∀ as m Q, S_scores_of as m Q → d_scores_of (pad N_scores_of as) m (fin Q) := by
  rintro as m Q ⟨P, T, L, hW, hL, rfl, q⟩
  refine ⟨_, rfl, _, rfl, P, T, L, hW.few, hL, rfl, _, rfl, ?_, ?_⟩
  · rw [List.length_map, ways_len hL]; exact len11 hW.few
  refine lcR_m wayD (fun p => D.str (c1 p.1)) _ m _ (fun p _ => ⟨_, rfl, fun m Q q => ⟨_, rfl, _, ix_t0 p, q⟩⟩) ?_
  refine ⟨_, rfl, plS P, T.map tS, rfl, _, rfl, ?_, ?_⟩
  · rw [chars_plS, List.length_map]; exact Nat.le_trans hW.pl.few (by decide)
  rw [chars_plS]
  refine lcR_m (fun a => D.str (c1 a)) (fun a => .int (((ways T L).countP fun p => p.1 == a : Nat))) P m _ (fun a _ => ⟨_, rfl, fun m Q q => ⟨_, rfl, rfl, _, rfl, _, count_c1 a _, q⟩⟩) ?_
  exact ⟨_, rfl, q⟩
theorem ix_pl {P : List Nat} {d a : Nat} (hl : P.length ≤ LL) (h : P[d]? = some a) : ixD (.str (plS P)) (.int (d : Nat)) = some (.str (c1 a)) := by
  show (if (plS P).length ≤ LL then (atI P (d : Int)).map _ else none) = _
  rw [if_pos (by rw [plS_len]; exact hl), atI_nat h]; rfl
theorem law_law_one : ∀ as m Q, S_law_one as m Q → d_law_one (pad N_law_one as) m (fin Q) := by
  rintro as m Q ⟨P, hne, hl, hm, rfl, q⟩
  have hl2 : P.length ≤ LL := by have := llv; omega
  have hpos : 0 < P.length := List.length_pos_iff.mpr hne
  refine ⟨_, rfl, _, rfl, .inl rfl, _, rfl, .int (P.length : Nat), if_pos hl2, (P.length : Int), by omega, by omega, hm, rfl, fun d hd => ?_⟩
  have hd' : d < P.length := by omega
  exact ⟨_, ix_pl hl2 (List.getElem?_eq_getElem hd'), q _ (List.getElem_mem hd')⟩
theorem joinL_sing : ∀ cs : List Nat, TL.joinL [] (cs.map fun c => [c]) = cs
  | [] => rfl
  | [c] => rfl
  | c :: d :: r => by
    show [c] ++ ([] ++ TL.joinL [] ((d :: r).map fun c => [c])) = _
    rw [joinL_sing (d :: r)]; rfl
theorem join_c1 (cs : List Nat) : Txt.join "" (cs.map c1) = plS cs := by
  have := SX.join_S [] (cs.map fun c => [c])
  rw [joinL_sing, List.map_map] at this
  rw [empty_is]
  exact this
theorem sum_ones : ∀ cs : List Nat, (((cs.map c1).map (·.length)).sum) = cs.length
  | [] => rfl
  | c :: r => by
    rw [List.map_cons, List.map_cons, List.sum_cons, sum_ones r, List.length_cons]
    show 1 + _ = _
    omega
theorem joinD_c1 (cs : List Nat) (h : cs.length ≤ LL) : joinD (.str "") [.lst (cs.map fun c => D.str (c1 c))] = some (.str (plS cs)) := by
  have e : (cs.map fun c => D.str (c1 c)) = (cs.map c1).map D.str := by rw [List.map_map]; rfl
  show (strsD _).bind _ = _
  rw [e, strsD_of]
  show (if joinOk "" (cs.map c1) then some (D.str (Txt.join "" (cs.map c1))) else none) = _
  rw [if_pos, join_c1]
  unfold joinOk
  rw [sum_ones]
  refine decide_eq_true ?_
  have : (Str.ofString "").length = 0 := by decide +kernel
  rw [this]
  have : LL = 100000 := rfl
  omega
theorem signs_is : (Str.ofString "+-") = plS [43, 45] := by decide +kernel
theorem lnS_pl (L : List Bool) : lnS L = plS (L.map sgn) := rfl
theorem law_law_lean : ∀ as m Q, S_law_lean as m Q → d_law_lean (pad N_law_lean as) m (fin Q) := by
  rintro as m Q ⟨T, h11, hm, rfl, q⟩
  refine ⟨rfl, _, rfl, _, rfl, by rw [List.length_map]; exact len11 h11, ?_⟩
  refine lcR_ch wayD (fun b : Bool => D.str (c1 (sgn b))) 1000000 T m _ (fun p _ => ⟨_, rfl, fun m Q hm q => ⟨_, rfl, .inl rfl, [43, 45], by decide, by decide, hm, by rw [signs_is], fun a ha => ?_⟩⟩) (by omega) fun bs hbs => ?_
  · have : a = sgn true ∨ a = sgn false := by simpa [sgn] using ha
    rcases this with rfl | rfl
    · exact q true
    · exact q false
  · refine ⟨.str (lnS bs), ?_, q bs _ hbs (by omega)⟩
    have := joinD_c1 (bs.map sgn) (by rw [List.length_map]; have := llv; omega)
    rw [List.map_map] at this
    exact this
theorem natD_map (n : Nat) : rangeD 0 (n : Int) = (List.range n).map natD := rangeD_nat n
theorem ix_lst {α : Type} {f : α → D} {xs : List α} {i : Nat} {x : α} (h : xs[i]? = some x) : ixD (.lst (xs.map f)) (natD i) = some (f x) := by
  show atI (xs.map f) (i : Int) = _
  exact atI_nat (by rw [List.getElem?_map, h]; rfl)
theorem ix_tup {α : Type} {f : α → D} {xs : List α} {i : Nat} {x : α} (h : xs[i]? = some x) : ixD (.tup (xs.map f)) (natD i) = some (f x) := by
  show atI (xs.map f) (i : Int) = _
  exact atI_nat (by rw [List.getElem?_map, h]; rfl)
theorem ix_ln {L : List Bool} {i : Nat} {b : Bool} (hl : L.length ≤ LL) (h : L[i]? = some b) : ixD (.str (lnS L)) (natD i) = some (.str (c1 (sgn b))) :=
  ix_pl (P := L.map sgn) (by rw [List.length_map]; exact hl) (by rw [List.getElem?_map, h]; rfl)
theorem ways_get {T : List (Nat × Nat)} {L : List Bool} {i : Nat} {p : Nat × Nat} {b : Bool} (h1 : T[i]? = some p) (h2 : L[i]? = some b) : (ways T L)[i]? = some (way p b) := by
  unfold ways
  rw [List.getElem?_zipWith, h1, h2]
theorem law_law_ways : ∀ as m Q, S_law_ways as m Q → d_law_ways (pad N_law_ways as) m (fin Q) := by
  rintro as m Q ⟨T, L, h11, hL, rfl, q⟩
  have e : ((T.map wayD).length : Int) = (T.length : Nat) := by rw [List.length_map]
  refine ⟨_, rfl, _, rfl, (T.length : Nat), by rw [e], by omega, by omega, ?_⟩
  rw [natD_map]
  refine ⟨by rw [List.length_map, List.length_range]; exact len11 h11, ?_⟩
  refine lcR_m natD (fun i => wayD ((ways T L).getD i (0, 0))) _ m _ (fun i hi => ?_) ?_
  · have hi' : i < T.length := List.mem_range.mp hi
    have h1 : T[i]? = some T[i] := List.getElem?_eq_getElem hi'
    have h2 : L[i]? = some (L[i]'(by omega)) := List.getElem?_eq_getElem _
    have h3 := ways_get h1 h2
    have h4 : (ways T L).getD i (0, 0) = way T[i] (L[i]'(by omega)) := by rw [List.getD_eq_getElem?_getD, h3]; rfl
    refine ⟨_, rfl, fun m Q q => ⟨_, rfl, _, rfl, _, ix_ln (by rw [hL]; exact len11 h11) h2, _, eq_plus _, _, rfl, ?_⟩⟩
    rw [h4] at q
    cases hb : (L[i]'(by omega)) with
    | true =>
      rw [hb] at q
      exact ⟨_, rfl, _, rfl, _, ix_tup h1, q⟩
    | false =>
      rw [hb] at q
      exact ⟨_, rfl, _, rfl, _, ix_tup h1, tS T[i], rfl, (by decide : 2 ≤ LL), q⟩
  · have e2 : (List.range T.length).map (fun i => wayD ((ways T L).getD i (0, 0))) = (ways T L).map wayD := by
      refine List.ext_getElem (by simp [ways_len hL]) fun i h1 h2 => ?_
      simp [List.getD_eq_getElem?_getD]
      rw [List.getElem?_eq_getElem (by simpa using h2)]
      rfl
    rw [e2]
    exact q
end K23
namespace K23
open PySem L2 G
theorem inL_nat (k : Nat) (l : List Nat) : inL (natD k) (l.map natD) = decide (k ∈ l) := by
  unfold inL
  rw [List.any_map]
  by_cases h : k ∈ l
  · rw [decide_eq_true h, List.any_eq_true]
    exact ⟨k, h, by show ((k : Int) == (k : Int)) = true; simp⟩
  · rw [decide_eq_false h, List.any_eq_false]
    intro x hx z
    have : ((x : Int) == (k : Int)) = true := z
    rw [beq_iff_eq] at this
    have : x = k := by omega
    subst this
    exact h hx
theorem flat_nats (l : List Nat) : (l.map natD).all D.flat = true := by
  rw [List.all_map]
  exact List.all_eq_true.mpr fun _ _ => rfl
theorem in_lst (k : Nat) (l : List Nat) : inD (natD k) (.lst (l.map natD)) = some (.bl (decide (k ∈ l))) := by
  show (if (true && (l.map natD).all D.flat) = true then some (inL (natD k) (l.map natD)) else none).map D.bl = _
  rw [flat_nats, inL_nat]; rfl
theorem in_tup (k : Nat) (l : List Nat) : inD (natD k) (.tup (l.map natD)) = some (.bl (decide (k ∈ l))) := by
  show (if (true && (l.map natD).all D.flat) = true then some (inL (natD k) (l.map natD)) else none).map D.bl = _
  rw [flat_nats, inL_nat]; rfl
theorem notIn_lst (k : Nat) (l : List Nat) : notInD (natD k) (.lst (l.map natD)) = some (.bl (!decide (k ∈ l))) := by
  show (if (true && (l.map natD).all D.flat) = true then some (inL (natD k) (l.map natD)) else none).map (fun b => D.bl (!b)) = _
  rw [flat_nats, inL_nat]; rfl
theorem inL_c1 (a : Nat) (l : List Nat) : inL (.str (c1 a)) (l.map fun x => D.str (c1 x)) = decide (a ∈ l) := by
  unfold inL
  rw [List.any_map]
  by_cases h : a ∈ l
  · rw [decide_eq_true h, List.any_eq_true]
    exact ⟨a, h, by show (c1 a == c1 a) = true; simp⟩
  · rw [decide_eq_false h, List.any_eq_false]
    intro x hx z
    have : (c1 x == c1 a) = true := z
    rw [beq_iff_eq] at this
    have := c1_inj this
    subst this
    exact h hx
theorem flat_c1 (l : List Nat) : (l.map fun x => D.str (c1 x)).all D.flat = true := by
  rw [List.all_map]
  exact List.all_eq_true.mpr fun _ _ => rfl
theorem in_c1 (a : Nat) (l : List Nat) : inD (.str (c1 a)) (.lst (l.map fun x => D.str (c1 x))) = some (.bl (decide (a ∈ l))) := by
  show (if (true && (l.map fun x => D.str (c1 x)).all D.flat) = true then some (inL (.str (c1 a)) (l.map fun x => D.str (c1 x))) else none).map D.bl = _
  rw [flat_c1, inL_c1]; rfl
theorem enum_ln (L : List Bool) : enumD (charsD (lnS L)) = L.zipIdx.map fun p => .tup [natD p.2, .str (c1 (sgn p.1))] := by
  rw [chars_lnS]
  unfold enumD
  rw [List.zipIdx_map, List.map_map]
  rfl
theorem law_law_flip : ∀ as m Q, S_law_flip as m Q → d_law_flip (pad N_law_flip as) m (fin Q) := by
  rintro as m Q ⟨L, l, x, h11, hl, hx, rfl, q⟩
  have hin : ∀ k, inD (natD k) x = some (.bl (decide (k ∈ l))) := fun k => by
    rcases hx with rfl | rfl
    · exact in_lst k l
    · exact in_tup k l
  have hx2 : Sl.rd (.val x) = some x := rfl
  refine ⟨rfl, _, rfl, _, rfl, ?_⟩
  rw [enum_ln]
  refine ⟨by rw [List.length_map, List.length_zipIdx]; exact len11 h11, ?_⟩
  refine lcR_m (fun p : Bool × Nat => D.tup [natD p.2, .str (c1 (sgn p.1))]) (fun p => D.str (c1 (sgn (if p.2 ∈ l then !p.1 else p.1)))) _ m _ (fun p _ => ⟨_, rfl, fun m Q q => ⟨_, rfl, _, rfl, _, hin p.2, _, rfl, ?_⟩⟩) ?_
  · by_cases h : p.2 ∈ l
    · rw [if_pos h] at q
      rw [decide_eq_true h]
      refine ⟨_, rfl, _, eq_plus _, _, rfl, ?_⟩
      cases hb : p.1 with
      | true => rw [hb] at q; show Q (.str "-") m; rw [minus_is]; exact q
      | false => rw [hb] at q; show Q (.str "+") m; rw [plus_is]; exact q
    · rw [if_neg h] at q
      rw [decide_eq_false h]
      exact ⟨_, rfl, q⟩
  · refine ⟨.str (lnS (flip L l)), ?_, q⟩
    have := joinD_c1 ((flip L l).map sgn) (by unfold flip; rw [List.length_map, List.length_map, List.length_zipIdx]; exact len11 h11)
    unfold flip at this ⊢
    rw [List.map_map, List.map_map] at this
    exact this
theorem beq_c1 (a b : Nat) : decide (c1 a = c1 b) = (a == b) := by
  rw [c1_eq]
  by_cases h : a = b
  · subst h; simp
  · rw [decide_eq_false h]; simp [h]
theorem law_law_row : ∀ as m Q, S_law_row as m Q → d_law_row (pad N_law_row as) m (fin Q) := by
  rintro as m Q ⟨P, W, hP, h11, rfl, q⟩
  refine ⟨_, rfl, _, rfl, by rw [chars_plS, List.length_map]; exact Nat.le_trans hP (by decide), ?_⟩
  rw [chars_plS]
  refine lcR_m (fun a => D.str (c1 a)) (fun a => .int ((W.countP fun (p : Nat × Nat) => p.1 == a : Nat))) P m _ (fun a _ => ⟨_, rfl, fun m Q q => ⟨_, rfl, _, rfl, by rw [List.length_map]; exact len11 h11, ?_⟩⟩) ⟨_, rfl, q⟩
  refine lcR_fm wayD (fun (p : Nat × Nat) => p.1 == a) wayD W m _ (fun p _ => ⟨_, rfl, fun m Q q => ⟨_, rfl, _, ix_t0 p, _, rfl, .bl (p.1 == a), ?_, _, rfl, q⟩, fun _ m Q q => ⟨_, rfl, q⟩⟩) ?_
  · rw [eqD_str, beq_c1]
  · refine ⟨_, rfl, ?_⟩
    rw [List.length_map, ← List.countP_eq_length_filter]
    exact q
end K23
/-! law k23: rings of arrows, in plain Lean -/
namespace K23
theorem IsRing.rot {W : List (Nat × Nat)} {a b : List Nat} (h : IsRing W (a ++ b)) : IsRing W (b ++ a) := by
  cases b with
  | nil => simpa using h
  | cons y b =>
    cases a with
    | nil => simpa using h
    | cons x a =>
      have h2 := h.nd
      have h3 := h.cyc
      refine ⟨by simp, ?_, ?_⟩
      · rw [List.map_append] at h2 ⊢
        exact (List.perm_append_comm.nodup_iff).mp h2
      · simp only [List.cons_append, List.map_cons, List.map_append, List.tail_cons, List.take_succ_cons, List.take_zero] at h3 ⊢
        -- enn x :: (a.map enn ++ enn y :: b.map enn) = a.map stt ++ stt y :: b.map stt ++ [stt x]
        have e : (enn W x :: a.map (enn W)) ++ (enn W y :: b.map (enn W)) = (a.map (stt W) ++ [stt W y]) ++ (b.map (stt W) ++ [stt W x]) := by
          simpa using h3
        obtain ⟨e1, e2⟩ := List.append_inj e (by simp)
        have e3 : (enn W y :: b.map (enn W)) ++ (enn W x :: a.map (enn W)) = (b.map (stt W) ++ [stt W x]) ++ (a.map (stt W) ++ [stt W y]) := by rw [e1, e2]
        simpa using e3
theorem IsRing.nodup {W : List (Nat × Nat)} {r : List Nat} (h : IsRing W r) : r.Nodup := by
  have := h.nd
  rw [List.Nodup, List.pairwise_map] at this
  exact this.imp fun hne z => hne (by rw [z])
/-- the ring told from any of its ties -/
theorem ring_from {W : List (Nat × Nat)} {r l : List Nat} {x : Nat} (h : IsRing W r) (p : r.Perm l) (hx : x ∈ l) : ∃ r', IsRing W (x :: r') ∧ (x :: r').Perm l := by
  obtain ⟨a, b, rfl⟩ := List.append_of_mem (p.mem_iff.mpr hx)
  refine ⟨b ++ a, ?_, ?_⟩
  · have := h.rot
    simpa using this
  · have : (x :: (b ++ a)).Perm (a ++ x :: b) := by
      have := List.perm_append_comm (l₁ := x :: b) (l₂ := a)
      simpa using this
    exact this.trans p
theorem ring_next {W : List (Nat × Nat)} {r : List Nat} (h : IsRing W r) {t : Nat} {x : Nat} (hx : r[t]? = some x) : enn W x = stt W ((r ++ r.take 1).getD (t + 1) 0) := by
  have h1 : (r.map (enn W))[t]? = some (enn W x) := by rw [List.getElem?_map, hx]; rfl
  rw [h.cyc] at h1
  have h2 : ((r.map (stt W)).tail ++ (r.map (stt W)).take 1) = ((r ++ r.take 1).map (stt W)).tail := by
    cases r with
    | nil => rfl
    | cons y r => simp
  rw [h2, List.getElem?_tail, List.getElem?_map] at h1
  obtain ⟨z, hz, e⟩ := Option.map_eq_some_iff.mp h1
  rw [List.getD_eq_getElem?_getD, hz]
  exact e.symm
/-- two rows, one of which goes on from the other -/
structure Trail (W : List (Nat × Nat)) (l line passed : List Nat) : Prop where
  sub : ∀ i ∈ line, i ∈ l
  nd : passed.Nodup
  st : line.map (stt W) = passed.dropLast
  en : line.map (enn W) = passed.tail
  ne : passed ≠ []
  fst : line = [] → ∃ i ∈ l, passed = [stt W i]
theorem Trail.len {W : List (Nat × Nat)} {l line passed : List Nat} (h : Trail W l line passed) : line.length + 1 = passed.length := by
  have := congrArg List.length h.en
  have hp : 0 < passed.length := List.length_pos_iff.mpr h.ne
  simp at this
  omega
theorem Trail.nodup {W : List (Nat × Nat)} {l line passed : List Nat} (h : Trail W l line passed) : line.Nodup := by
  have : (line.map (stt W)).Nodup := by
    rw [h.st]
    exact h.nd.sublist (List.dropLast_sublist _)
  rw [List.Nodup, List.pairwise_map] at this
  exact this.imp fun hne z => hne (by rw [z])
theorem count_pos {l : List Nat} {f : Nat → Nat} {a : Nat} : 0 < (l.countP fun i => f i == a) ↔ ∃ i ∈ l, f i = a := by
  rw [List.countP_pos_iff]
  constructor
  · rintro ⟨i, h1, h2⟩; exact ⟨i, h1, by simpa using h2⟩
  · rintro ⟨i, h1, h2⟩; exact ⟨i, h1, by simpa using h2⟩
/-- it can go on -/
theorem Trail.next {W : List (Nat × Nat)} {l line passed : List Nat} (h : Trail W l line passed) (b : Bal W l) : ∃ i ∈ l, i ∉ line ∧ stt W i = passed.getLast h.ne := by
  have key : ∀ i ∈ l, stt W i = passed.getLast h.ne → i ∉ line := fun i _ e hi => by
    have h1 : stt W i ∈ passed.dropLast := by rw [← h.st]; exact List.mem_map_of_mem hi
    have h2 := h.nd
    rw [← List.dropLast_concat_getLast h.ne, List.nodup_append] at h2
    exact h2.2.2 _ h1 _ (by simp) e
  by_cases hl : line = []
  · obtain ⟨i, hi, e⟩ := h.fst hl
    exact ⟨i, hi, by rw [hl]; simp, by simp [e]⟩
  · have hx : passed.getLast h.ne ∈ line.map (enn W) := by
      rw [h.en]
      have hlen := h.len
      have h0 : 0 < line.length := List.length_pos_iff.mpr hl
      cases passed with
      | nil => exact absurd rfl h.ne
      | cons p ps =>
        cases ps with
        | nil => exact absurd (show line = [] by simpa using hlen) hl
        | cons p2 ps => rw [List.getLast_cons (by simp)]; exact List.getLast_mem _
    obtain ⟨j, hj, ej⟩ := List.mem_map.mp hx
    have hc : 0 < l.countP fun i => enn W i == passed.getLast h.ne := count_pos.mpr ⟨j, h.sub j hj, ej⟩
    rw [← b] at hc
    obtain ⟨i, hi, ei⟩ := count_pos.mp hc
    exact ⟨i, hi, key i hi ei, ei⟩
theorem Trail.step {W : List (Nat × Nat)} {l line passed : List Nat} (h : Trail W l line passed) {i : Nat} (hi : i ∈ l) (hs : stt W i = passed.getLast h.ne) (hn : enn W i ∉ passed) : Trail W l (line ++ [i]) (passed ++ [enn W i]) := by
  refine ⟨fun j hj => ?_, ?_, ?_, ?_, by simp, fun z => absurd z (by simp)⟩
  · rcases List.mem_append.mp hj with hj | hj
    · exact h.sub j hj
    · rw [List.mem_singleton] at hj; subst hj; exact hi
  · rw [List.nodup_append]
    refine ⟨h.nd, by simp, fun a ha b hb => ?_⟩
    rw [List.mem_singleton] at hb
    subst hb
    exact fun z => hn (z ▸ ha)
  · rw [List.dropLast_concat, List.map_append, h.st]
    simp only [List.map_cons, List.map_nil, hs]
    exact List.dropLast_concat_getLast h.ne
  · rw [List.map_append, h.en, List.tail_append_of_ne_nil h.ne]; rfl
theorem Trail.close {W : List (Nat × Nat)} {l line passed : List Nat} (h : Trail W l line passed) {i j : Nat} (hi : i ∈ l) (hs : stt W i = passed.getLast h.ne) (hj : passed[j]? = some (enn W i)) : IsRing W ((line ++ [i]).drop j) ∧ ∀ k ∈ (line ++ [i]).drop j, k ∈ l := by
  have hj1 : j < passed.length := (List.getElem?_eq_some_iff.mp hj).1
  have hlen := h.len
  have e1 : (line ++ [i]).map (stt W) = passed := by
    rw [List.map_append, h.st]
    simp only [List.map_cons, List.map_nil, hs]
    exact List.dropLast_concat_getLast h.ne
  have e2 : (line ++ [i]).map (enn W) = passed.tail ++ [enn W i] := by rw [List.map_append, h.en]; rfl
  refine ⟨⟨?_, ?_, ?_⟩, fun k hk => ?_⟩
  · intro z
    have := congrArg List.length z
    simp at this
    omega
  · rw [List.map_drop, e1]
    exact h.nd.sublist (List.drop_sublist _ _)
  · rw [List.map_drop, List.map_drop, e1, e2, List.drop_append_of_le_length (by rw [List.length_tail]; omega), List.tail_drop, ← List.drop_one, List.drop_drop]
    have e3 : (passed.drop j).take 1 = [enn W i] := by
      rw [List.drop_eq_getElem_cons hj1]
      obtain ⟨_, e⟩ := List.getElem?_eq_some_iff.mp hj
      simp [e]
    rw [e3, Nat.add_comm]
  · rcases List.mem_append.mp (List.mem_of_mem_drop hk) with hk | hk
    · exact h.sub k hk
    · rw [List.mem_singleton] at hk; subst hk; exact hi
theorem ring_bal {W : List (Nat × Nat)} {r : List Nat} (h : IsRing W r) : Bal W r := fun a => by
  have e : (r.map (enn W)).Perm (r.map (stt W)) := by
    rw [h.cyc]
    cases hr : r.map (stt W) with
    | nil => simp
    | cons x t => simp only [List.tail_cons, List.take_succ_cons, List.take_zero]; exact List.perm_append_comm (l₁ := t) (l₂ := [x])
  have e2 := e.countP_eq (fun y => y == a)
  rw [List.countP_map, List.countP_map] at e2
  exact e2.symm
theorem bal_rest {W : List (Nat × Nat)} {l r : List Nat} (b : Bal W l) (h : IsRing W r) (hl : l.Nodup) (hs : ∀ i ∈ r, i ∈ l) : Bal W (l.filter fun i => !decide (i ∈ r)) := fun a => by
  have p : (l.filter fun i => decide (i ∈ r)).Perm r := by
    refine (List.perm_ext_iff_of_nodup (hl.sublist List.filter_sublist) h.nodup).mpr fun i => ?_
    rw [List.mem_filter]
    constructor
    · rintro ⟨_, z⟩; exact of_decide_eq_true z
    · intro z; exact ⟨hs i z, decide_eq_true z⟩
  have split : ∀ f : Nat → Bool, l.countP f = (l.filter fun i => decide (i ∈ r)).countP f + (l.filter fun i => !decide (i ∈ r)).countP f := fun f => by
    clear p b h hl hs
    induction l with
    | nil => rfl
    | cons x t ih =>
      by_cases hx : x ∈ r
      · rw [List.filter_cons_of_pos (by simp [hx]), List.filter_cons_of_neg (by simp [hx]), List.countP_cons, List.countP_cons, ih]; omega
      · rw [List.filter_cons_of_neg (by simp [hx]), List.filter_cons_of_pos (by simp [hx]), List.countP_cons, List.countP_cons, ih]; omega
  have b1 := b a
  rw [split, split fun i => enn W i == a, p.countP_eq, p.countP_eq] at b1
  have b2 := ring_bal h a
  omega
theorem nodup_inj {W : List (Nat × Nat)} {r : List Nat} (h : (r.map (stt W)).Nodup) {a b : Nat} (ha : a ∈ r) (hb : b ∈ r) (e : stt W a = stt W b) : a = b := by
  induction r with
  | nil => simp at ha
  | cons x r ih =>
    rw [List.map_cons, List.nodup_cons] at h
    rcases List.mem_cons.mp ha with e1 | ha'
    · rcases List.mem_cons.mp hb with e2 | hb'
      · rw [e1, e2]
      · exact absurd (List.mem_map.mpr ⟨b, hb', by rw [← e, e1]⟩) h.1
    · rcases List.mem_cons.mp hb with e2 | hb'
      · exact absurd (List.mem_map.mpr ⟨a, ha', by rw [e, e2]⟩) h.1
      · exact ih h.2 ha' hb'
theorem ring_only {W : List (Nat × Nat)} {r l : List Nat} {t x : Nat} (hr : IsRing W r) (p : r.Perm l) (ht : r[t]? = some x) :
    (l.filter fun k => (stt W k == stt W x) && !decide (k ∈ r.take t)) = [x] ∧ stt W x ∉ (r.take t).map (stt W) := by
  have hx : x ∈ r := List.mem_of_getElem? ht
  have htl : t < r.length := (List.getElem?_eq_some_iff.mp ht).1
  have hd : r.drop t = x :: r.drop (t + 1) := by
    rw [List.drop_eq_getElem_cons htl]
    congr 1
    exact (List.getElem?_eq_some_iff.mp ht).2
  have hn : x ∉ r.take t := by
    have := hr.nodup
    rw [← List.take_append_drop t r, List.nodup_append, hd] at this
    exact fun z => this.2.2 x z x (by simp) rfl
  have hno : stt W x ∉ (r.take t).map (stt W) := fun z => by
    obtain ⟨k, hk, e⟩ := List.mem_map.mp z
    have := nodup_inj hr.nd (List.mem_of_mem_take hk) hx e
    subst this
    exact hn hk
  refine ⟨?_, hno⟩
  have hl : l.Nodup := p.nodup_iff.mp hr.nodup
  refine List.perm_singleton.mp ((List.perm_ext_iff_of_nodup (hl.sublist List.filter_sublist) (by simp)).mpr fun k => ?_)
  rw [List.mem_filter, List.mem_singleton]
  constructor
  · rintro ⟨h1, h2⟩
    rw [Bool.and_eq_true, beq_iff_eq] at h2
    exact nodup_inj hr.nd (p.mem_iff.mpr h1) hx h2.1
  · rintro rfl
    exact ⟨p.mem_iff.mp hx, by simp [hn]⟩
theorem countP_split {α : Type} (q f : α → Bool) : ∀ l : List α, l.countP f = (l.filter q).countP f + (l.filter fun i => !q i).countP f
  | [] => rfl
  | x :: t => by
    have ih := countP_split q f t
    cases hx : q x with
    | true => rw [List.filter_cons_of_pos hx, List.filter_cons_of_neg (by simp [hx]), List.countP_cons, List.countP_cons, ih]; omega
    | false => rw [List.filter_cons_of_neg (by simp [hx]), List.filter_cons_of_pos (by simp [hx]), List.countP_cons, List.countP_cons, ih]; omega
theorem range_map (W : List (Nat × Nat)) : W = (List.range W.length).map fun i => W.getD i (0, 0) := by
  refine List.ext_getElem (by simp) fun i h1 h2 => ?_
  simp [List.getD_eq_getElem?_getD, List.getElem?_eq_getElem h1]
theorem count_range (W : List (Nat × Nat)) (a : Nat) : (W.countP fun p => p.1 == a) = (List.range W.length).countP fun i => stt W i == a := by
  conv => lhs; rw [range_map W]
  rw [List.countP_map]
  rfl
theorem ways_len' {T : List (Nat × Nat)} {L : List Bool} (h : L.length = T.length) : (ways T L).length = T.length := by
  unfold ways; rw [List.length_zipWith]; omega
theorem ways_getD {T : List (Nat × Nat)} {L : List Bool} (h : L.length = T.length) {i : Nat} (hi : i < T.length) : (ways T L).getD i (0, 0) = way (T.getD i (0, 0)) (L.getD i true) := by
  unfold ways
  simp only [List.getD_eq_getElem?_getD, List.getElem?_zipWith, List.getElem?_eq_getElem hi, List.getElem?_eq_getElem (show i < L.length by omega)]
  rfl
def diffs (T : List (Nat × Nat)) (L L' : List Bool) : List Nat := (List.range T.length).filter fun i => L.getD i true != L'.getD i true
def cnt (P : List Nat) (W : List (Nat × Nat)) : List Nat := P.map fun a => W.countP fun p => p.1 == a
theorem bal0 {P : List Nat} {T : List (Nat × Nat)} {L L' : List Bool} (hW : WbOk P T) (h : L.length = T.length) (h' : L'.length = T.length) (e : cnt P (ways T L) = cnt P (ways T L')) : Bal (ways T L) (diffs T L L') := fun a => by
  have hst : ∀ i ∈ diffs T L L', stt (ways T L') i = enn (ways T L) i := fun i hi => by
    obtain ⟨h1, h2⟩ := List.mem_filter.mp hi
    rw [List.mem_range] at h1
    unfold stt enn
    rw [ways_getD h h1, ways_getD h' h1]
    generalize L.getD i true = b at *
    generalize L'.getD i true = b' at *
    cases b <;> cases b' <;> first | rfl | simp at h2
  have hsame : ∀ i ∈ (List.range T.length).filter (fun i => !(L.getD i true != L'.getD i true)), stt (ways T L') i = stt (ways T L) i := fun i hi => by
    obtain ⟨h1, h2⟩ := List.mem_filter.mp hi
    rw [List.mem_range] at h1
    unfold stt
    rw [ways_getD h h1, ways_getD h' h1]
    generalize L.getD i true = b at *
    generalize L'.getD i true = b' at *
    cases b <;> cases b' <;> first | rfl | simp at h2
  by_cases ha : a ∈ P
  · have e1 : ((ways T L).countP fun p => p.1 == a) = (ways T L').countP fun p => p.1 == a := List.map_inj_left.mp e a ha
    rw [count_range, count_range, ways_len' h, ways_len' h', countP_split (fun i => L.getD i true != L'.getD i true), countP_split (fun i => L.getD i true != L'.getD i true) (fun i => stt (ways T L') i == a)] at e1
    have e2 : ((List.range T.length).filter fun i => !(L.getD i true != L'.getD i true)).countP (fun i => stt (ways T L') i == a) = ((List.range T.length).filter fun i => !(L.getD i true != L'.getD i true)).countP (fun i => stt (ways T L) i == a) :=
      List.countP_congr fun i hi => by rw [hsame i hi]
    have e3 : (diffs T L L').countP (fun i => stt (ways T L') i == a) = (diffs T L L').countP (fun i => enn (ways T L) i == a) := List.countP_congr fun i hi => by rw [hst i hi]
    unfold diffs at e3 ⊢
    omega
  · have hno : ∀ i ∈ diffs T L L', stt (ways T L) i ≠ a ∧ enn (ways T L) i ≠ a := fun i hi => by
      obtain ⟨h1, h2⟩ := List.mem_filter.mp hi
      rw [List.mem_range] at h1
      unfold stt enn
      rw [ways_getD h h1]
      have hm : T.getD i (0, 0) ∈ T := by
        rw [List.getD_eq_getElem?_getD, List.getElem?_eq_getElem h1]
        exact List.getElem_mem h1
      obtain ⟨t1, t2, _⟩ := hW.ties _ hm
      generalize L.getD i true = b
      cases b
      · exact ⟨fun z => ha (z ▸ t2), fun z => ha (z ▸ t1)⟩
      · exact ⟨fun z => ha (z ▸ t1), fun z => ha (z ▸ t2)⟩
    rw [List.countP_eq_zero.mpr fun i hi => by simpa using (hno i hi).1, List.countP_eq_zero.mpr fun i hi => by simpa using (hno i hi).2]
/-- a ring sorted -/
def srt (r : List Nat) : List Nat := r.mergeSort fun a b => decide (a ≤ b)
theorem srt_perm (r : List Nat) : (srt r).Perm r := List.mergeSort_perm _ _
theorem srt_inc {r : List Nat} (h : r.Nodup) : (srt r).Pairwise (· < ·) := by
  have h1 : (srt r).Pairwise fun a b => decide (a ≤ b) = true := List.pairwise_mergeSort (fun a b c => by simp; omega) (fun a b => by simp; omega) r
  have h2 : (srt r).Nodup := (srt_perm r).nodup_iff.mpr h
  refine (h1.and h2).imp fun {a b} ⟨x, y⟩ => ?_
  have := of_decide_eq_true x
  omega
theorem inc_unique : ∀ {a b : List Int}, a.Pairwise (· < ·) → b.Pairwise (· < ·) → (∀ k, k ∈ a ↔ k ∈ b) → a = b
  | [], [], _, _, _ => rfl
  | [], y :: b, _, _, h => absurd ((h y).mpr (by simp)) (by simp)
  | x :: a, [], _, _, h => absurd ((h x).mp (by simp)) (by simp)
  | x :: a, y :: b, ha, hb, h => by
    rw [List.pairwise_cons] at ha hb
    have e : x = y := by
      rcases List.mem_cons.mp ((h x).mp (by simp)) with e | e
      · exact e
      · rcases List.mem_cons.mp ((h y).mpr (by simp)) with e2 | e2
        · exact e2.symm
        · have := hb.1 x e; have := ha.1 y e2; omega
    subst e
    rw [inc_unique ha.2 hb.2 fun k => ?_]
    constructor
    · intro hk
      rcases List.mem_cons.mp ((h k).mp (by simp [hk])) with e | e
      · subst e; exact absurd (ha.1 k hk) (by omega)
      · exact e
    · intro hk
      rcases List.mem_cons.mp ((h k).mpr (by simp [hk])) with e | e
      · subst e; exact absurd (hb.1 k hk) (by omega)
      · exact e
theorem flip_is {T : List (Nat × Nat)} {L L' : List Bool} {ls : List (List Nat)} (h : L.length = T.length) (h' : L'.length = T.length) (o : LotsOk T L L' ls) : flip L ls.flatten = L' := by
  unfold flip
  refine List.ext_getElem (by simp [h, h']) fun i h1 h2 => ?_
  simp only [List.getElem_map, List.getElem_zipIdx, Nat.zero_add]
  have hi : i < T.length := by omega
  have hL : L.getD i true = L[i]'(by omega) := by rw [List.getD_eq_getElem?_getD, List.getElem?_eq_getElem (by omega)]; rfl
  have hL' : L'.getD i true = L'[i]'(by omega) := by rw [List.getD_eq_getElem?_getD, List.getElem?_eq_getElem (by omega)]; rfl
  have := o.all i
  rw [hL, hL'] at this
  generalize (L[i]'(by omega)) = b at *
  generalize (L'[i]'(by omega)) = b' at *
  by_cases hm : i ∈ ls.flatten
  · rw [if_pos hm]
    have := (this.mp hm).2
    cases b <;> cases b' <;> first | rfl | simp at this
  · rw [if_neg hm]
    have h3 : ¬ (b ≠ b') := fun z => hm (this.mpr ⟨hi, z⟩)
    exact Classical.not_not.mp h3
end K23
namespace K23
open PySem L2 G
theorem nodup_sub_len : ∀ {a b : List Nat}, a.Nodup → (∀ x ∈ a, x ∈ b) → a.length ≤ b.length
  | [], _, _, _ => Nat.zero_le _
  | x :: a, b, nd, hs => by
    obtain ⟨n1, n2⟩ := List.nodup_cons.mp nd
    have hx : x ∈ b := hs x (by simp)
    have := nodup_sub_len (b := b.erase x) n2 fun y hy => (List.mem_erase_of_ne (fun z => n1 (by rw [← z]; exact hy))).mpr (hs y (by simp [hy]))
    rw [List.length_erase_of_mem hx] at this
    have : 0 < b.length := List.length_pos_of_mem hx
    rw [List.length_cons]
    omega
theorem w_at {W : List (Nat × Nat)} {i : Nat} (h : i < W.length) : ∃ p, W[i]? = some p ∧ p.1 = stt W i ∧ p.2 = enn W i := by
  refine ⟨W[i], List.getElem?_eq_getElem h, ?_, ?_⟩
  · unfold stt; rw [List.getD_eq_getElem?_getD, List.getElem?_eq_getElem h]; rfl
  · unfold enn; rw [List.getD_eq_getElem?_getD, List.getElem?_eq_getElem h]; rfl
/-- ways[i][0], ways[i][1], by readings -/
theorem st_of {W : List (Nat × Nat)} {i : Nat} (h : i < W.length) : ∃ y, ixD (.lst (W.map wayD)) (natD i) = some y ∧ ixD y (.int 0) = some (.str (c1 (stt W i))) ∧ ixD y (.int 1) = some (.str (c1 (enn W i))) := by
  obtain ⟨p, h1, h2, h3⟩ := w_at h
  exact ⟨wayD p, ix_lst h1, by rw [← h2]; exact ix_t0 p, by rw [← h3]; exact ix_t1 p⟩
theorem ix_last {xs : List Nat} (h : xs ≠ []) : ixD (.lst (xs.map fun x => D.str (c1 x))) (.int (-1)) = some (.str (c1 (xs.getLast h))) := by
  show atI (xs.map fun x => D.str (c1 x)) (-1) = _
  have e : xs.map (fun x => D.str (c1 x)) = xs.dropLast.map (fun x => D.str (c1 x)) ++ [.str (c1 (xs.getLast h))] := by
    conv => lhs; rw [← List.dropLast_concat_getLast h]
    rw [List.map_append]; rfl
  rw [e, atI_last]
theorem index_c1 {xs : List Nat} {a : Nat} (h : a ∈ xs) : ∃ j : Nat, xs[j]? = some a ∧ indexD (.lst (xs.map fun x => D.str (c1 x))) [.str (c1 a)] = some (.int (j : Nat)) := by
  have e : indexD (.lst (xs.map fun x => D.str (c1 x))) [.str (c1 a)] = ((xs.map fun x => V.str (c1 x)).findIdx? fun z => eqV z (.str (c1 a))).map fun (i : Nat) => D.int i := by
    show (flats _).bind _ = _
    rw [flats_str]; rfl
  rw [e]
  cases hf : (xs.map fun x => V.str (c1 x)).findIdx? fun z => eqV z (.str (c1 a)) with
  | none =>
    rw [List.findIdx?_eq_none_iff] at hf
    have := hf (V.str (c1 a)) (List.mem_map.mpr ⟨a, h, rfl⟩)
    have z : (c1 a == c1 a) = false := this
    simp at z
  | some j =>
    rw [List.findIdx?_eq_some_iff_getElem] at hf
    obtain ⟨h1, h2, _⟩ := hf
    rw [List.length_map] at h1
    refine ⟨j, ?_, rfl⟩
    rw [List.getElem_map] at h2
    have z : (c1 xs[j] == c1 a) = true := h2
    rw [List.getElem?_eq_getElem h1, c1_inj (beq_iff_eq.mp z)]
theorem law_first_ring : ∀ as m Q, S_first_ring as m Q → d_first_ring (pad N_first_ring as) m (fin Q) := by
  rintro as m Q ⟨W, l, h11, hne, hnd, hin, hb, rfl, q⟩
  have hl11 : l.length ≤ 11 := by
    have hsub : l.length ≤ (List.range W.length).length := nodup_sub_len hnd fun i hi => List.mem_range.mpr (hin i hi)
    rw [List.length_range] at hsub
    omega
  obtain ⟨i0, l', hl⟩ : ∃ i0 l', l = i0 :: l' := by
    cases l with
    | nil => exact absurd rfl hne
    | cons a b => exact ⟨a, b, rfl⟩
  have hi0 : i0 ∈ l := by rw [hl]; simp
  obtain ⟨y0, a1, a2, a3⟩ := st_of (hin i0 hi0)
  have hz : ixD (.lst (l.map natD)) (.int 0) = some (natD i0) := ix_lst (i := 0) (by rw [hl]; rfl)
  refine ⟨by decide, _, rfl, _, rfl, _, hz, _, a1, _, a2, (show 1 ≤ LL by decide), ?_⟩
  refine ⟨fun k env m' => m' = m ∧ ∃ line passed x4 x5, env = [.val (.lst (W.map wayD)), .val (.lst (l.map natD)), .own (line.map natD), .own (passed.map fun x => D.str (c1 x)), x4, x5] ∧ Trail W l line passed ∧ k + line.length = l.length, ⟨l.length, rfl, [], [stt W i0], _, _, rfl, ⟨by simp, by simp, rfl, rfl, by simp, fun _ => ⟨i0, hi0, rfl⟩⟩, by simp⟩, ?_⟩
  rintro k env m' ⟨rfl, line, passed, x4, x5, rfl, tr, hk⟩
  refine ⟨true, rfl, ?_⟩
  -- index
  refine ⟨_, rfl, _, rfl, by rw [List.length_map]; exact len11 hl11, ?_⟩
  refine lcR_fm natD (fun i => !decide (i ∈ line) && (stt W i == passed.getLast tr.ne)) natD l m' _ (fun i hi => ?_) ?_
  · obtain ⟨y, b1, b2, b3⟩ := st_of (hin i hi)
    refine ⟨_, rfl, fun m Q q => ⟨_, rfl, _, rfl, _, notIn_lst i line, _, rfl, ?_⟩, fun _ m Q q => ⟨_, rfl, q⟩⟩
    by_cases hl : i ∈ line
    · simp only [hl, decide_true, Bool.not_true, Bool.false_and] at q
      rw [decide_eq_true hl]
      exact q
    · simp only [hl, decide_false, Bool.not_false, Bool.true_and] at q
      rw [decide_eq_false hl]
      refine ⟨_, rfl, _, rfl, _, b1, _, b2, _, rfl, _, ix_last tr.ne, .bl (stt W i == passed.getLast tr.ne), ?_, _, rfl, q⟩
      rw [eqD_str, beq_c1]
  · obtain ⟨i1, c1', c2, c3⟩ := tr.next hb
    have hmem : i1 ∈ l.filter fun i => !decide (i ∈ line) && (stt W i == passed.getLast tr.ne) := List.mem_filter.mpr ⟨c1', by simp [c2, c3]⟩
    obtain ⟨i, rest, hf⟩ : ∃ i rest, (l.filter fun i => !decide (i ∈ line) && (stt W i == passed.getLast tr.ne)) = i :: rest := by
      cases hh : l.filter fun i => !decide (i ∈ line) && (stt W i == passed.getLast tr.ne) with
      | nil => rw [hh] at hmem; simp at hmem
      | cons a b => exact ⟨a, b, rfl⟩
    have hif : i ∈ l.filter fun i => !decide (i ∈ line) && (stt W i == passed.getLast tr.ne) := by rw [hf]; simp
    obtain ⟨hi, hp⟩ := List.mem_filter.mp hif
    have hnl : i ∉ line := by
      intro z
      simp [z] at hp
    have hst : stt W i = passed.getLast tr.ne := by
      simp at hp
      exact hp.2
    rw [hf]
    obtain ⟨y, b1, b2, b3⟩ := st_of (hin i hi)
    have hll : line.length < l.length := by
      have h1 : (i :: line).Nodup := List.nodup_cons.mpr ⟨hnl, tr.nodup⟩
      have h2 : (i :: line).length ≤ l.length := nodup_sub_len h1 fun j hj => by
        rcases List.mem_cons.mp hj with rfl | hj
        · exact hi
        · exact tr.sub j hj
      rw [List.length_cons] at h2
      omega
    have e0 : ixD (.lst ((i :: rest).map natD)) (.int 0) = some (natD i) := ix_lst (i := 0) rfl
    have el : (line.map natD ++ [natD i]) = (line ++ [i]).map natD := by rw [List.map_append]; rfl
    refine ⟨_, e0, _, rfl, _, rfl, by rw [List.length_map]; have := llv; omega, ?_⟩
    refine ⟨_, rfl, _, rfl, _, b1, _, b3, _, rfl, _, in_c1 _ _, _, rfl, ?_⟩
    by_cases hpass : enn W i ∈ passed
    · rw [decide_eq_true hpass]
      obtain ⟨j, hj, ej⟩ := index_c1 hpass
      obtain ⟨r1, r2⟩ := tr.close hi hst hj
      refine ⟨_, rfl, _, rfl, rfl, _, rfl, _, rfl, _, b1, _, b3, _, ej, _, j, rfl, rfl, ?_⟩
      rw [el, ← List.map_drop]
      exact q _ r1 r1.nodup r2
    · rw [decide_eq_false hpass]
      have hpl := tr.len
      refine ⟨_, rfl, _, rfl, _, rfl, _, b1, _, b3, by rw [List.length_map]; have := llv; omega, k - 1, by omega, rfl, line ++ [i], passed ++ [enn W i], .val (natD i), x5, ?_, tr.step hi hst hpass, by rw [List.length_append, List.length_singleton]; omega⟩
      rw [List.map_append, List.map_append]
      rfl
end K23
namespace K23
open PySem L2 G
theorem law_law_goes_round : ∀ as m Q, S_law_goes_round as m Q → d_law_goes_round (pad N_law_goes_round as) m (fin Q) := by
  rintro as m Q ⟨W, l, h11, hl, hin, rfl, q⟩
  have qt : Q (.bl true) m := q true fun _ => rfl
  have e0 : eqD (lotD l) (.tup []) = some (.bl (decide (l = []))) := by
    show (eqB (.tup (l.map natD)) (.tup (([] : List Nat).map natD))).map D.bl = _
    rw [show eqB (.tup (l.map natD)) (.tup (([] : List Nat).map natD)) = some (decide (l = [])) from eqB_tup l []]; rfl
  refine ⟨_, rfl, by decide, _, e0, _, rfl, ?_⟩
  by_cases hne : l = []
  · rw [decide_eq_true hne]
    refine q false ?_
    rintro ⟨r, hr, p⟩
    rw [hne] at p
    exact absurd p.eq_nil hr.ne
  rw [decide_eq_false hne]
  obtain ⟨i0, l', hl0⟩ : ∃ i0 l', l = i0 :: l' := by
    cases l with
    | nil => exact absurd rfl hne
    | cons a b => exact ⟨a, b, rfl⟩
  have hi0 : i0 ∈ l := by rw [hl0]; simp
  obtain ⟨y0, a1, a2, a3⟩ := st_of (hin i0 hi0)
  have hz : ixD (lotD l) (.int 0) = some (natD i0) := ix_tup (i := 0) (by rw [hl0]; rfl)
  have C : (∀ b, Q (.bl b) m) ∨ ∃ r', IsRing W (i0 :: r') ∧ (i0 :: r').Perm l := by
    by_cases h : ∃ r, IsRing W r ∧ r.Perm l
    · obtain ⟨r, hr, p⟩ := h
      exact .inr (ring_from hr p hi0)
    · exact .inl fun b => q b fun z => absurd z h
  refine ⟨_, rfl, _, rfl, _, hz, _, a1, _, a2, by decide, _, rfl, _, rfl, _, rfl, ?_⟩
  refine forR_ind (fun its env m' => m' = m ∧ ∃ seen h x5 x6 x7, env = [.val (.lst (W.map wayD)), .val (lotD l), .val (.str (c1 (stt W i0))), .own (seen.map natD), .val (.str (c1 h)), x5, x6, x7] ∧ (∀ k ∈ seen, k ∈ l) ∧ seen.length + its.length = l.length ∧
    ((∀ b, Q (.bl b) m) ∨ ∃ r', IsRing W (i0 :: r') ∧ (i0 :: r').Perm l ∧ seen = (i0 :: r').take seen.length ∧ h = stt W ((i0 :: r' ++ [i0]).getD seen.length 0))) ?_ ?_ _ _ _
    ⟨rfl, [], stt W i0, _, _, _, rfl, by simp, by simp, C.imp id fun ⟨r', h1, h2⟩ => ⟨r', h1, h2, rfl, rfl⟩⟩
  · rintro env m' ⟨rfl, seen, h, x5, x6, x7, rfl, hsub, hlen, hC⟩
    simp at hlen
    refine ⟨_, rfl, _, rfl, _, eqD_str _ _, _, rfl, ?_⟩
    rw [c1_eq]
    by_cases hh : h = stt W i0
    · rw [decide_eq_true hh]
      refine ⟨_, rfl, _, rfl, _, rfl, _, rfl, .bl true, ?_, qt⟩
      rw [eqD_int, List.length_map, List.length_map, hlen]; simp
    · rw [decide_eq_false hh]
      rcases hC with hQ | ⟨r', h1, h2, h3, h4⟩
      · exact hQ false
      · refine absurd ?_ hh
        rw [h4, hlen, ← h2.length_eq]
        rw [List.getD_eq_getElem?_getD, List.getElem?_append_right (by simp)]
        simp
  · rintro d ds env m' ⟨rfl, seen, h, x5, x6, x7, rfl, hsub, hlen, hC⟩
    rw [List.length_cons] at hlen
    refine ⟨_, rfl, fun K hK => ?_⟩
    refine ⟨_, rfl, _, rfl, by rw [List.length_map]; exact len11 hl, ?_⟩
    refine lcR_fm natD (fun k => (stt W k == h) && !decide (k ∈ seen)) natD l m' _ (fun k hk => ?_) ?_
    · obtain ⟨y, b1, b2, b3⟩ := st_of (hin k hk)
      refine ⟨_, rfl, fun m Q q => ⟨_, rfl, _, rfl, _, b1, _, b2, _, rfl, _, eqD_str _ _, _, rfl, ?_⟩, fun _ m Q q => ⟨_, rfl, q⟩⟩
      rw [beq_c1]
      cases hb : stt W k == h with
      | false =>
        rw [hb] at q
        exact q
      | true =>
        rw [hb, Bool.true_and] at q
        exact ⟨_, rfl, _, rfl, _, notIn_lst k seen, _, rfl, q⟩
    -- len(some) != 1
    generalize hf : (l.filter fun k => (stt W k == h) && !decide (k ∈ seen)) = some'
    have B : (∀ b, Q (.bl b) m') ∨ ∃ x r', IsRing W (i0 :: r') ∧ (i0 :: r').Perm l ∧ seen = (i0 :: r').take seen.length ∧ (i0 :: r')[seen.length]? = some x ∧ some' = [x] ∧ h = stt W x ∧ h ∉ seen.map (stt W) := by
      rcases hC with hQ | ⟨r', h1, h2, h3, h4⟩
      · exact .inl hQ
      · have hlt : seen.length < (i0 :: r').length := by rw [h2.length_eq]; omega
        have hx : (i0 :: r')[seen.length]? = some ((i0 :: r')[seen.length]) := List.getElem?_eq_getElem hlt
        have hh : h = stt W ((i0 :: r')[seen.length]) := by
          rw [h4, List.getD_eq_getElem?_getD, List.getElem?_append_left hlt, hx]; rfl
        obtain ⟨o1, o2⟩ := ring_only h1 h2 hx
        rw [← h3, ← hh] at o1 o2
        exact .inr ⟨_, r', h1, h2, h3, hx, by rw [← hf]; exact o1, hh, o2⟩
    refine ⟨_, rfl, _, rfl, .bl (!decide (some'.length = 1)), ?_, _, rfl, ?_⟩
    · simp [neD, eqB_int]
      omega
    by_cases h1 : some'.length = 1
    · obtain ⟨k, rfl⟩ := List.length_eq_one_iff.mp h1
      have hkf : k ∈ l.filter fun k => (stt W k == h) && !decide (k ∈ seen) := by rw [hf]; simp
      have hk : k ∈ l := (List.mem_filter.mp hkf).1
      obtain ⟨y, b1, b2, b3⟩ := st_of (hin k hk)
      refine ⟨_, rfl, _, rfl, _, rfl, by rw [List.length_map]; have := llv; omega, ?_⟩
      refine lcR_m natD (fun k => D.str (c1 (stt W k))) seen m' _ (fun j hj => ?_) ?_
      · obtain ⟨y', b1', b2', b3'⟩ := st_of (hin j (hsub j hj))
        exact ⟨_, rfl, fun m Q q => ⟨_, rfl, _, rfl, _, b1', _, b2', q⟩⟩
      · have ein : inD (.str (c1 h)) (.lst (seen.map fun k => D.str (c1 (stt W k)))) = some (.bl (decide (h ∈ seen.map (stt W)))) := by
          rw [← in_c1, List.map_map]; rfl
        refine ⟨_, ein, _, rfl, ?_⟩
        by_cases hs : h ∈ seen.map (stt W)
        · rw [decide_eq_true hs]
          rcases B with hQ | ⟨x, r', z1, z2, z3, z4, z5, z6, z7⟩
          · exact hQ false
          · exact absurd hs z7
        · rw [decide_eq_false hs]
          have ek : ixD (.lst ([k].map natD)) (.int 0) = some (natD k) := rfl
          refine ⟨_, rfl, _, rfl, _, ek, by rw [List.length_map]; have := llv; omega, ?_⟩
          refine ⟨_, rfl, _, rfl, _, ek, _, b1, _, b3, hK _ _ ⟨rfl, seen ++ [k], enn W k, .val d, .val (.lst ([k].map natD)), x7, ?_, ?_, by rw [List.length_append, List.length_singleton]; omega, ?_⟩⟩
          · rw [List.map_append]; rfl
          · intro j hj
            rcases List.mem_append.mp hj with hj | hj
            · exact hsub j hj
            · rw [List.mem_singleton] at hj; subst hj; exact hk
          · rcases B with hQ | ⟨x, r', z1, z2, z3, z4, z5, z6, z7⟩
            · exact .inl hQ
            · have hkx : k = x := by simpa using z5
              subst hkx
              refine .inr ⟨r', z1, z2, ?_, ?_⟩
              · rw [List.length_append, List.length_singleton, List.take_add_one, z4, ← z3]; rfl
              · rw [List.length_append, List.length_singleton, ring_next z1 z4]; rfl
    · rw [decide_eq_false h1]
      rcases B with hQ | ⟨x, r', z1, z2, z3, z4, z5, z6, z7⟩
      · exact hQ false
      · exact absurd (by rw [z5]; rfl) h1
end K23
namespace K23
open PySem L2 G
theorem row_cnt (P : List Nat) (W : List (Nat × Nat)) : row P W = (cnt P W).map natD := by
  unfold row cnt
  rw [List.map_map]; rfl
theorem natD_inj {a b : Nat} (h : natD a = natD b) : a = b := by
  have : (a : Int) = b := D.int.inj h
  omega
theorem map_natD_inj {a b : List Nat} (h : a.map natD = b.map natD) : a = b := by
  induction a generalizing b with
  | nil => cases b with
    | nil => rfl
    | cons _ _ => simp at h
  | cons x r ih => cases b with
    | nil => simp at h
    | cons y t =>
      simp only [List.map_cons, List.cons.injEq] at h
      rw [natD_inj h.1, ih h.2]
theorem ne_rows (P : List Nat) (W W' : List (Nat × Nat)) : neD (.tup (row P W)) (.tup (row P W')) = some (.bl (!decide (cnt P W = cnt P W'))) := by
  rw [row_cnt, row_cnt]
  show (eqB (.tup ((cnt P W).map natD)) (.tup ((cnt P W').map natD))).map _ = _
  rw [show eqB (.tup ((cnt P W).map natD)) (.tup ((cnt P W').map natD)) = some (decide (cnt P W = cnt P W')) from eqB_tup _ _]; rfl
theorem ne_lst (a b : List Nat) : neD (.lst (a.map natD)) (.lst (b.map natD)) = some (.bl (!decide (a = b))) := by
  show (eqB (.lst (a.map natD)) (.lst (b.map natD))).map _ = _
  rw [show eqB (.lst (a.map natD)) (.lst (b.map natD)) = some (decide (a = b)) from eqB_lst _ _]; rfl
theorem ne_sgn (b b' : Bool) : neD (.str (c1 (sgn b))) (.str (c1 (sgn b'))) = some (.bl (b != b')) := by
  show some (D.bl (!decide (c1 (sgn b) = c1 (sgn b')))) = _
  rw [c1_eq]
  cases b <;> cases b' <;> rfl
theorem alike_nats (l : List Nat) : alikeL (l.map natD) = true := by
  unfold alikeL
  rw [List.all_map]
  refine List.all_eq_true.mpr fun a _ => ?_
  show (l.map natD).all _ = true
  rw [List.all_map]
  exact List.all_eq_true.mpr fun b _ => rfl
theorem sortOk_nats {l : List Nat} (h : l.length ≤ LL) : sortOk (l.map natD) = true := by
  unfold sortOk
  have h1 : (l.map natD).all D.noT = true := by rw [List.all_map]; exact List.all_eq_true.mpr fun _ _ => rfl
  have h2 : (l.map natD).all (·.okd 60) = true := by rw [List.all_map]; exact List.all_eq_true.mpr fun _ _ => rfl
  rw [alike_nats, h1, h2, List.length_map, decide_eq_true h, Bool.or_true]; rfl
theorem sortL_nats (l : List Nat) : sortL (l.map natD) = (srt l).map natD := by
  unfold sortL srt
  refine (List.map_mergeSort fun a _ b _ => ?_).symm
  show decide (a ≤ b) = !PySem.W.dataLt (.int (b : Nat)) (.int (a : Nat))
  rw [PySem.W.dataLt_int]
  by_cases h : a ≤ b
  · rw [decide_eq_true h, decide_eq_false (by omega)]; rfl
  · rw [decide_eq_false h, decide_eq_true (by omega)]; rfl
theorem sorted_nats {l : List Nat} (h : l.length ≤ LL) : sortedD [.lst (l.map natD)] = some ((srt l).map natD) := by
  show (if sortOk (l.map natD) then some (sortL (l.map natD)) else none) = _
  rw [if_pos (sortOk_nats h), sortL_nats]
theorem filter_lt {l r : List Nat} (hr : r ≠ []) (hs : ∀ i ∈ r, i ∈ l) : (l.filter fun i => !decide (i ∈ r)).length < l.length := by
  obtain ⟨x, t, rfl⟩ : ∃ x t, r = x :: t := by
    cases r with
    | nil => exact absurd rfl hr
    | cons a b => exact ⟨a, b, rfl⟩
  have hx := hs x (by simp)
  apply Classical.byContradiction
  intro z
  have e1 : (l.filter fun i => !decide (i ∈ x :: t)) = l := List.filter_sublist.eq_of_length_le (by omega)
  have e := List.filter_eq_self.mp e1 x hx
  simp at e
theorem getD_some {L : List Bool} {i : Nat} (h : i < L.length) : L[i]? = some (L.getD i true) := by
  rw [List.getD_eq_getElem?_getD, List.getElem?_eq_getElem h]; rfl
theorem law_turning_rings : ∀ as m Q, S_turning_rings as m Q → d_turning_rings (pad N_turning_rings as) m (fin Q) := by
  rintro as m Q ⟨P, T, L, L', hW, hL, hL', rfl, q1, q2⟩
  refine ⟨_, rfl, _, rfl, P, T, L, hW.few, hL, rfl, _, rfl, _, rfl, P, T, L', hW.few, hL', rfl, ?_⟩
  refine ⟨_, rfl, _, rfl, P, T, L, hW, hL, rfl, _, rfl, _, rfl, P, T, L', hW, hL', rfl, _, ne_rows _ _ _, _, rfl, ?_⟩
  by_cases he' : ¬ cnt P (ways T L) = cnt P (ways T L')
  · have he := he'
    rw [decide_eq_false he]
    refine q1 fun z => he (map_natD_inj ?_)
    rw [← row_cnt, ← row_cnt, z]
  have he := Classical.not_not.mp he'
  rw [decide_eq_true he]
  have q := q2 (by rw [row_cnt, row_cnt, he])
  have hb := bal0 hW hL hL' he
  refine ⟨_, rfl, _, rfl, P, T, L, hW.few, hL, rfl, by decide, ?_⟩
  have e : ((T.map tS).length : Int) = (T.length : Nat) := by rw [List.length_map]
  have h11 := hW.few
  refine ⟨_, rfl, _, rfl, (T.length : Nat), by rw [← e], by omega, by omega, ?_⟩
  rw [natD_map]
  refine ⟨by rw [List.length_map, List.length_range]; exact len11 hW.few, ?_⟩
  refine lcR_fm natD (fun i => L.getD i true != L'.getD i true) natD (List.range T.length) m _ (fun i hi => ?_) ?_
  · rw [List.mem_range] at hi
    exact ⟨_, rfl, fun m Q q => ⟨_, rfl, _, rfl, _, ix_ln (by rw [hL]; exact len11 h11) (getD_some (by omega)), _, rfl, _, rfl, _, ix_ln (by rw [hL']; exact len11 h11) (getD_some (by omega)), _, ne_sgn _ _, _, rfl, q⟩, fun _ m Q q => ⟨_, rfl, q⟩⟩
  refine ⟨fun k env m' => m' = m ∧ ∃ (left : List Nat) (ls : List (List Nat)) (x6 x7 : Sl), env = [.val (webD P T), .val (.str (lnS L)), .val (.str (lnS L')), .val (.lst ((ways T L).map wayD)), .own (ls.map lotD), .val (.lst (left.map natD)), x6, x7] ∧ left.length = k ∧
    left.Pairwise (· < ·) ∧ (∀ i ∈ left, i < T.length) ∧ Bal (ways T L) left ∧ (∀ l ∈ ls, LotOk (ways T L) l) ∧ (ls.Pairwise fun a b => ∀ i ∈ a, i ∉ b) ∧ (∀ l ∈ ls, ∀ i ∈ l, i ∉ left) ∧ (∀ i, (i ∈ ls.flatten ∨ i ∈ left) ↔ i < T.length ∧ L.getD i true ≠ L'.getD i true) ∧ ls.length + left.length ≤ T.length,
    ⟨(diffs T L L').length, rfl, diffs T L L', [], _, _, rfl, rfl, ?_, ?_, hb, by simp, by simp, by simp, fun i => ?_, ?_⟩, ?_⟩
  · exact (List.pairwise_lt_range).sublist List.filter_sublist
  · intro i hi
    exact List.mem_range.mp (List.mem_filter.mp hi).1
  · unfold diffs
    simp [List.mem_filter]
  · have := List.length_filter_le (fun i => L.getD i true != L'.getD i true) (List.range T.length)
    rw [List.length_range] at this
    unfold diffs
    simpa using this
  rintro k env m' ⟨rfl, left, ls, x6, x7, rfl, hk, hinc, hlt, hbal, hok, hdis, hsep, hall, hfew⟩
  have e0 : neD (.lst (left.map natD)) (.lst []) = some (.bl (!decide (left = []))) := ne_lst left []
  refine ⟨_, rfl, by decide, _, e0, _, rfl, ?_⟩
  by_cases hne : left = []
  · rw [decide_eq_true hne]
    subst hne
    refine ⟨_, rfl, _, rfl, q ls ⟨hok, hdis, fun i => ?_⟩⟩
    rw [← hall i]
    simp
  · rw [decide_eq_false hne]
    have hnd : left.Nodup := hinc.imp fun a => Nat.ne_of_lt a
    have hwl := ways_len' (L := L) hL
    refine ⟨_, rfl, _, rfl, ways T L, left, by omega, hne, hnd, fun i hi => by rw [hwl]; exact hlt i hi, hbal, rfl, fun r hr hrn hrs => ?_⟩
    have hrl : r.length ≤ left.length := nodup_sub_len hrn hrs
    refine ⟨_, rfl, _, rfl, _, sorted_nats (by have := llv; omega), _, rfl, by rw [List.length_map]; have := llv; omega, ?_⟩
    refine ⟨_, rfl, _, rfl, by rw [List.length_map]; have := llv; omega, ?_⟩
    refine lcR_fm natD (fun i => !decide (i ∈ r)) natD left m' _ (fun i hi => ⟨_, rfl, fun m Q q => ⟨_, rfl, _, rfl, _, notIn_lst i r, _, rfl, q⟩, fun _ m Q q => ⟨_, rfl, q⟩⟩) ?_
    have hlt' := filter_lt hr.ne hrs
    refine ⟨_, by rw [← hk]; exact hlt', rfl, left.filter fun i => !decide (i ∈ r), ls ++ [srt r], .val (.lst (r.map natD)), x7, ?_, rfl, hinc.sublist List.filter_sublist, fun i hi => hlt i (List.mem_filter.mp hi).1, bal_rest hbal hr hnd hrs, ?_, ?_, ?_, ?_, ?_⟩
    · rw [List.map_append]; rfl
    · intro l hl
      rcases List.mem_append.mp hl with hl | hl
      · exact hok l hl
      · rw [List.mem_singleton] at hl
        subst hl
        exact ⟨srt_inc hrn, ⟨r, hr, (srt_perm r).symm⟩, fun i hi => by rw [hwl]; exact hlt i (hrs i ((srt_perm r).mem_iff.mp hi))⟩
    · rw [List.pairwise_append]
      refine ⟨hdis, by simp, fun a ha b hb i hi hib => ?_⟩
      rw [List.mem_singleton] at hb
      subst hb
      exact hsep a ha i hi (hrs i ((srt_perm r).mem_iff.mp hib))
    · intro l hl i hi hf
      obtain ⟨f1, f2⟩ := List.mem_filter.mp hf
      rcases List.mem_append.mp hl with hl | hl
      · exact hsep l hl i hi f1
      · rw [List.mem_singleton] at hl
        subst hl
        have := (srt_perm r).mem_iff.mp hi
        simp [this] at f2
    · intro i
      rw [← hall i, List.flatten_append, List.mem_append, List.mem_filter]
      have : i ∈ [srt r].flatten ↔ i ∈ r := by simp [(srt_perm r).mem_iff]
      rw [this]
      constructor
      · rintro ((h | h) | h)
        · exact .inl h
        · exact .inr (hrs i h)
        · exact .inr h.1
      · rintro (h | h)
        · exact .inl (.inl h)
        · by_cases hi : i ∈ r
          · exact .inl (.inr hi)
          · exact .inr ⟨h, by simp [hi]⟩
    · rw [List.length_append, List.length_singleton]; omega
end K23
namespace K23
open PySem L2 G
theorem LotsOk.nodup {T : List (Nat × Nat)} {L L' : List Bool} {ls : List (List Nat)} (o : LotsOk T L L' ls) : ls.flatten.Nodup := by
  rw [List.Nodup, List.pairwise_flatten]
  refine ⟨fun l hl => (o.each l hl).inc.imp fun a => Nat.ne_of_lt a, o.dis.imp fun {a b} h x hx y hy z => ?_⟩
  subst z
  exact h x hx hy
theorem LotsOk.flen {T : List (Nat × Nat)} {L L' : List Bool} {ls : List (List Nat)} (o : LotsOk T L L' ls) : ls.flatten.length ≤ T.length := by
  have := nodup_sub_len (b := List.range T.length) o.nodup fun i hi => List.mem_range.mpr ((o.all i).mp hi).1
  rw [List.length_range] at this
  exact this
theorem LotOk.len {W : List (Nat × Nat)} {l : List Nat} (o : LotOk W l) : l.length ≤ W.length := by
  have := nodup_sub_len (b := List.range W.length) (o.inc.imp fun a => Nat.ne_of_lt a) fun i hi => List.mem_range.mpr (o.inb i hi)
  rw [List.length_range] at this
  exact this
theorem ways_args (T : List (Nat × Nat)) : (T.map tS).map D.str = T.map wayD := by rw [List.map_map]; rfl
theorem law_law_shown : ∀ as m Q, S_law_shown as m Q → d_law_shown (pad N_law_shown as) m (fin Q) := by
  rintro as m Q ⟨P, T, L, L', ls, hW, hL, hL', o, rfl, q⟩
  have h11 := hW.few
  have hwl := ways_len' (L := L) hL
  have hfl := o.flen
  refine ⟨_, rfl, true, rfl, true, rfl, ?_⟩
  refine ⟨_, rfl, plS P, T.map tS, rfl, _, rfl, T, L, hW.few, hL, by rw [ways_args], by decide, (by decide : 2 ≤ LL), _, rfl, ?_⟩
  refine ⟨_, rfl, _, rfl, ?_⟩
  refine forR_ind (fun its env m' => m' = m ∧ ∃ (k : Nat) (x6 x7 : Sl), its = (ls.drop k).map lotD ∧ env = [.val (webD P T), .val (.str (lnS L)), .val (.str (lnS L')), .val (.tup (ls.map lotD)), .val (.lst ((ways T L).map wayD)), .val (.lst ((ls.take k).flatten.map natD)), x6, x7]) ?_ ?_ _ _ _ ⟨rfl, 0, _, _, rfl, rfl⟩
  · rintro env m' ⟨rfl, k, x6, x7, hits, rfl⟩
    have hk : ls.length ≤ k := by
      have := congrArg List.length hits
      simp at this
      omega
    rw [List.take_of_length_le hk]
    refine ⟨_, rfl, _, rfl, L, ls.flatten, _, by omega, by omega, .inl rfl, rfl, _, rfl, .bl true, ?_, q⟩
    rw [eqD_str, flip_is hL hL' o]; simp
  · rintro d ds env m' ⟨rfl, k, x6, x7, hits, rfl⟩
    rw [List.map_drop] at hits
    obtain ⟨g1, g2⟩ := drop_cons hits
    rw [List.getElem?_map] at g1
    obtain ⟨l, hl, rfl⟩ := Option.map_eq_some_iff.mp g1
    rw [← List.map_drop] at g2
    have hlm : l ∈ ls := List.mem_of_getElem? hl
    have hlo := o.each l hlm
    have hll := hlo.len
    have hkl : k < ls.length := (List.getElem?_eq_some_iff.mp hl).1
    have hseen : (ls.take k).flatten.length ≤ 11 := by
      have h1 : ((ls.take k).flatten ++ (ls.drop k).flatten).length = ls.flatten.length := by rw [← List.flatten_append, List.take_append_drop]
      rw [List.length_append] at h1
      omega
    refine ⟨_, rfl, fun K hK => ?_⟩
    refine ⟨_, rfl, true, rfl, true, rfl, ?_⟩
    refine ⟨_, rfl, _, rfl, _, rfl, l.map fun (i : Nat) => (i : Int), by rw [List.map_map]; rfl, by rw [List.length_map]; omega, fun ms hms hmem => ?_⟩
    have hms' : ms = l.map fun (i : Nat) => (i : Int) := by
      refine inc_unique hms ?_ hmem
      rw [List.pairwise_map]
      exact hlo.inc.imp fun {a b} h => by omega
    have e1 : ms.map D.int = l.map natD := by rw [hms', List.map_map]; rfl
    rw [e1]
    refine ⟨_, ne_lst l l, _, rfl, ?_⟩
    rw [decide_eq_true rfl]
    refine ⟨_, rfl, _, rfl, ways T L, l, by omega, by omega, hlo.inb, rfl, fun b hb => ?_⟩
    have hbt : b = true := hb hlo.ring
    subst hbt
    refine ⟨_, rfl, ?_⟩
    refine ⟨_, rfl, _, rfl, by rw [List.length_map]; exact len11 (by omega), ?_⟩
    refine lcR_fm natD (fun i => decide (i ∈ (ls.take k).flatten)) natD l m' _ (fun i hi => ⟨_, rfl, fun m Q q => ⟨_, rfl, _, rfl, _, in_lst i _, _, rfl, q⟩, fun _ m Q q => ⟨_, rfl, q⟩⟩) ?_
    have hempty : (l.filter fun i => decide (i ∈ (ls.take k).flatten)) = [] := by
      rw [List.filter_eq_nil_iff]
      intro i hi hin
      obtain ⟨a, ha, hia⟩ := List.mem_flatten.mp (of_decide_eq_true hin)
      have hd := o.dis
      rw [← List.take_append_drop k ls, List.pairwise_append] at hd
      refine hd.2.2 a ha l ?_ i hia hi
      rw [List.drop_eq_getElem_cons hkl]
      have : ls[k] = l := (List.getElem?_eq_some_iff.mp hl).2
      rw [this]
      simp
    rw [hempty]
    refine ⟨by decide, _, ne_lst [] [], _, rfl, ?_⟩
    refine ⟨_, rfl, _, rfl, _, rfl, .lst (((ls.take k).flatten ++ l).map natD), ?_, hK _ _ ⟨rfl, k + 1, .val (lotD l), x7, g2, ?_⟩⟩
    · show (if _ then some (D.lst _) else none) = _
      rw [if_pos (by rw [List.length_map, List.length_map]; have := llv; omega), List.map_append]
    · rw [List.take_add_one, hl, List.flatten_append]
      simp [lotD]
theorem flip_len (L : List Bool) (l : List Nat) : (flip L l).length = L.length := by unfold flip; simp
theorem law_law_near : ∀ as m Q, S_law_near as m Q → d_law_near (pad N_law_near as) m (fin Q) := by
  rintro as m Q ⟨T, L, h11, hL, hm, rfl, q⟩
  refine ⟨6, rfl, by decide, by decide, ?_⟩
  refine forR_ind (fun its env m' => m' + its.length * 11 ≤ m + 66 ∧ ∃ (L2 : List Bool) (x3 x4 x5 x6 : Sl), L2.length = T.length ∧ env = [.cask, .val (.tup (T.map wayD)), .val (.str (lnS L2)), x3, x4, x5, x6]) ?_ ?_ _ _ _ ⟨?_, L, _, _, _, _, hL, rfl⟩
  · rintro env m' ⟨hm', L2, x3, x4, x5, x6, h2, rfl⟩
    exact ⟨_, rfl, q L2 m' h2 (by simp at hm'; omega)⟩
  · rintro d ds env m' ⟨hm', L2, x3, x4, x5, x6, h2, rfl⟩
    rw [List.length_cons] at hm'
    refine ⟨_, rfl, fun K hK => ?_⟩
    refine ⟨_, rfl, _, rfl, T, L2, h11, h2, rfl, ?_⟩
    have e : ((T.map wayD).length : Int) = (T.length : Nat) := by rw [List.length_map]
    refine ⟨_, rfl, _, rfl, (T.length : Nat), by rw [e], by omega, by omega, ?_⟩
    rw [natD_map]
    refine ⟨by rw [List.length_map, List.length_range]; exact len11 h11, ?_⟩
    refine lcR_sub natD 1000000 (List.range T.length) m' _ (fun i _ => ⟨_, rfl, fun m Q hm q => ⟨_, rfl, .inl rfl, 2, by decide, by decide, hm, rfl, fun d hd => ⟨_, eqD_int _ _, _, rfl, q _⟩⟩, fun m Q q => ⟨_, rfl, q⟩⟩) (by rw [List.length_range]; omega) fun ys hy => ?_
    have hyl := hy.length_le
    rw [List.length_range] at hyl ⊢
    have hyin : ∀ i ∈ ys, i < T.length := fun i hi => List.mem_range.mp (hy.subset hi)
    have hwl := ways_len' (L := L2) h2
    refine ⟨_, rfl, _, rfl, _, rfl, ways T L2, ys, by omega, by omega, fun i hi => by rw [hwl]; exact hyin i hi, rfl, fun b _ => ?_⟩
    refine ⟨b, rfl, ?_⟩
    cases b with
    | true => exact ⟨_, rfl, _, rfl, L2, ys, _, by omega, by omega, .inr rfl, rfl, hK _ _ ⟨by omega, flip L2 ys, _, _, _, _, by rw [flip_len, h2], rfl⟩⟩
    | false => exact ⟨_, rfl, hK _ _ ⟨by omega, L2, _, _, _, _, h2, rfl⟩⟩
  · have : (rangeD 0 6).length = 6 := by decide
    rw [this]; omega
end K23
namespace K23
open PySem L2 G
abbrev cD (x : Nat) : D := .str (c1 x)
theorem erase_map {α β : Type} (f : α → β) : ∀ (l : List α) (k : Nat), (l.map f).eraseIdx k = (l.eraseIdx k).map f
  | [], _ => rfl
  | _ :: _, 0 => rfl
  | a :: r, k + 1 => by simp [erase_map f r k]
theorem erase_perm : ∀ (l : List Nat) (k : Nat) (x : Nat), l[k]? = some x → (x :: l.eraseIdx k).Perm l
  | [], _, _, h => by simp at h
  | a :: r, 0, x, h => by simp at h; subst h; exact .refl _
  | a :: r, k + 1, x, h => by
    have := erase_perm r k x (by simpa using h)
    simp only [List.eraseIdx_cons_succ]
    exact (List.Perm.swap a x _).trans (this.cons a)
theorem letters_chars : charsD (Str.ofString "abcdefgh") = [97, 98, 99, 100, 101, 102, 103, 104].map cD := by
  have e : (Str.ofString "abcdefgh") = plS [97, 98, 99, 100, 101, 102, 103, 104] := by decide +kernel
  rw [e]; rfl
theorem sortOk_c1 {l : List Nat} (h : l.length ≤ LL) (hs : ∀ a ∈ l, a < 1000) : sortOk (l.map cD) = true := by
  have h0 : alikeL (l.map cD) = true := by
    unfold alikeL
    rw [List.all_map]
    refine List.all_eq_true.mpr fun a _ => ?_
    show (l.map cD).all _ = true
    rw [List.all_map]
    exact List.all_eq_true.mpr fun b _ => rfl
  have h1 : (l.map cD).all D.noT = true := by rw [List.all_map]; exact List.all_eq_true.mpr fun _ _ => rfl
  have h2 : (l.map cD).all (·.okd 60) = true := by
    rw [List.all_map]
    refine List.all_eq_true.mpr fun a ha => ?_
    show PyData.strOk (c1 a) = true
    have := hs a ha
    unfold PyData.strOk c1
    simp
    omega
  unfold sortOk
  rw [h0, h1, h2, List.length_map, decide_eq_true h, Bool.or_true]; rfl
theorem sorted_c1 {l : List Nat} (h : l.length ≤ LL) (hs : ∀ a ∈ l, a < 1000) : sortedD [.lst (l.map cD)] = some ((srt l).map cD) := by
  show (if sortOk (l.map cD) then some (sortL (l.map cD)) else none) = _
  rw [if_pos (sortOk_c1 h hs)]
  congr 1
  unfold sortL srt
  refine (List.map_mergeSort fun a _ b _ => ?_).symm
  show decide (a ≤ b) = !D.lt (.str (c1 b)) (.str (c1 a))
  rw [lt_c1]
  by_cases h : a ≤ b
  · rw [decide_eq_true h, decide_eq_false (by omega)]; rfl
  · rw [decide_eq_false h, decide_eq_true (by omega)]; rfl
theorem min_c1 (a b : Nat) : minD2 [cD a, cD b] = some (cD (min a b)) := by
  show some (D.str (if sLt (c1 b) (c1 a) then c1 b else c1 a)) = _
  rw [sLt_c1]
  by_cases h : b < a
  · rw [decide_eq_true h, if_pos rfl, Nat.min_eq_right (by omega)]
  · rw [decide_eq_false h, if_neg (by decide), Nat.min_eq_left (by omega)]
theorem max_c1 (a b : Nat) : maxD2 [cD a, cD b] = some (cD (max a b)) := by
  show some (D.str (if sLt (c1 a) (c1 b) then c1 b else c1 a)) = _
  rw [sLt_c1]
  by_cases h : a < b
  · rw [decide_eq_true h, if_pos rfl, Nat.max_eq_right (by omega)]
  · rw [decide_eq_false h, if_neg (by decide), Nat.max_eq_left (by omega)]
theorem add_c1 (a b : Nat) : addD (cD a) (cD b) = some (wayD (a, b)) := by
  show (if (c1 a).length + (c1 b).length ≤ LL then some (D.str (c1 a ++ c1 b)) else none) = _
  have h : (c1 a).length + (c1 b).length ≤ LL := (by decide : 2 ≤ LL)
  rw [if_pos h]
  rfl
theorem law_law_web : ∀ as m Q, S_law_web as m Q → d_law_web (pad N_law_web as) m (fin Q) := by
  rintro as m Q ⟨hm, rfl, q⟩
  have el : listD [.str "abcdefgh"] = some ([97, 98, 99, 100, 101, 102, 103, 104].map cD) := by
    show (if (Str.ofString "abcdefgh").length ≤ LL then some (charsD (Str.ofString "abcdefgh")) else none) = _
    rw [letters_chars, if_pos (by decide +kernel)]
  refine ⟨_, el, by decide, ?_⟩
  -- the places
  refine ⟨_, rfl, .inl rfl, _, rfl, 4, by decide, by decide, by omega, rfl, fun d1 hd1 => ?_⟩
  refine ⟨_, rfl, ((1 + d1 : Nat) : Int), by show D.int (1 + (d1 : Int)) = _; congr 1, by omega, by omega, ?_⟩
  refine forR_ind (fun its env m' => ∃ (left found : List Nat) (x5 : Sl), m' = m + 1 + found.length ∧ found.length + its.length = 1 + d1 ∧ (left ++ found).Perm [97, 98, 99, 100, 101, 102, 103, 104] ∧ env = [.cask, .val (.int 4), .val (.int 6), .own (left.map cD), .own (found.map cD), x5, .no, .no, .no, .no]) ?_ ?_ _ _ _
    ⟨[97, 98, 99, 100, 101, 102, 103, 104], [], .no, rfl, ?_, by simp, rfl⟩
  · rintro env m' ⟨left, found, x5, rfl, hlen, hp, rfl⟩
    simp at hlen
    have hin : ∀ a ∈ found, 97 ≤ a ∧ a ≤ 104 := fun a ha => by
      have := hp.mem_iff.mp (List.mem_append_right left ha)
      simp at this
      omega
    have hnd : found.Nodup := by
      have : (left ++ found).Nodup := hp.nodup_iff.mpr (by decide)
      exact (List.nodup_append.mp this).2.1
    have hPl : PlOk (srt found) := ⟨srt_inc hnd, fun a ha => hin a ((srt_perm found).mem_iff.mp ha), by rw [(srt_perm found).length_eq]; omega, by rw [(srt_perm found).length_eq]; omega⟩
    have hpl := (srt_perm found).length_eq
    have hsrt := sorted_c1 (l := found) (by have := llv; omega) fun a ha => by have := hin a ha; omega
    generalize srt found = P at *
    have hL : P.length ≤ LL := Nat.le_trans hPl.few (by decide)
    have hne : P ≠ [] := List.length_pos_iff.mp hPl.pos
    refine ⟨rfl, _, rfl, P.map cD, ?_, .str (plS P), ?_, by decide, ?_⟩
    · exact hsrt
    · exact joinD_c1 P hL
    refine ⟨_, rfl, .inl rfl, _, rfl, .int 7, rfl, 7, by decide, by decide, by omega, rfl, fun d2 hd2 => ?_⟩
    refine ⟨(d2 : Nat), rfl, by omega, by omega, ?_⟩
    refine forR_ind (fun its env m' => ∃ (T : List (Nat × Nat)) (x5 x8 x9 : Sl), m' ≤ m + 20 + 5 * T.length ∧ T.length + its.length = d2 ∧ (∀ p ∈ T, p.1 ∈ P ∧ p.2 ∈ P ∧ p.1 ≤ p.2) ∧ env = [.cask, .val (.int 4), .val (.int 6), .own (left.map cD), .own (found.map cD), x5, .val (.str (plS P)), .own (T.map wayD), x8, x9]) ?_ ?_ _ _ _
      ⟨[], _, _, _, by omega, ?_, by simp, rfl⟩
    · rintro env m' ⟨T, x5, x8, x9, hm', hlen', hT, rfl⟩
      simp at hlen'
      refine ⟨_, rfl, _, rfl, _, rfl, (by decide : 2 ≤ LL), q P T m' ⟨hPl, by omega, hT⟩ (by omega) (by omega)⟩
    · rintro d ds env m' ⟨T, x5, x8, x9, hm', hlen', hT, rfl⟩
      rw [List.length_cons] at hlen'
      refine ⟨_, rfl, fun K hK => ?_⟩
      have hP1000 : P.length < 1000 := by have := hPl.few; omega
      refine ⟨_, rfl, .inl rfl, _, rfl, P, hne, hP1000, by omega, rfl, fun a ha => ?_⟩
      refine ⟨_, rfl, .inl rfl, _, rfl, P, hne, hP1000, by omega, rfl, fun b hb => ?_⟩
      refine ⟨_, _, rfl, ?_⟩
      have fin' : ∀ (b' : Nat) (m2 : Nat), b' ∈ P → m2 ≤ m' + 4 → dApp 7 (dOp addD (dCallB minD2 (dConsL (dVarB 8) (dConsL (dVarB 9) dNilL))) (dCallB maxD2 (dConsL (dVarB 8) (dConsL (dVarB 9) dNilL))))
          [.cask, .val (.int 4), .val (.int 6), .own (left.map cD), .own (found.map cD), .val d, .val (.str (plS P)), .own (T.map wayD), .val (cD a), .val (cD b')] m2 { nx := K, rt := Q } := fun b' m2 hb' hm2 => by
        refine ⟨_, rfl, _, rfl, _, rfl, _, min_c1 a b', _, rfl, _, rfl, _, max_c1 a b', _, add_c1 _ _, by rw [List.length_map]; have := llv; omega, hK _ _ ⟨T ++ [(min a b', max a b')], .val d, .val (cD a), .val (cD b'), by rw [List.length_append, List.length_singleton]; omega, by rw [List.length_append, List.length_singleton]; omega, fun p hp => ?_, by rw [List.map_append]; rfl⟩⟩
        rcases List.mem_append.mp hp with hp | hp
        · exact hT p hp
        · rw [List.mem_singleton] at hp
          subst hp
          refine ⟨?_, ?_, by show min a b' ≤ max a b'; omega⟩
          · show min a b' ∈ P
            rcases Nat.le_total a b' with h | h
            · rw [Nat.min_eq_left h]; exact ha
            · rw [Nat.min_eq_right h]; exact hb'
          · show max a b' ∈ P
            rcases Nat.le_total a b' with h | h
            · rw [Nat.max_eq_right h]; exact hb'
            · rw [Nat.max_eq_left h]; exact ha
      refine ⟨_, rfl, _, rfl, _, eqD_str _ _, _, rfl, ?_⟩
      rw [c1_eq]
      by_cases hab : a = b
      · rw [decide_eq_true hab]
        refine ⟨_, rfl, .inl rfl, 3, by decide, by decide, by omega, rfl, fun d3 hd3 => ⟨_, rfl, _, rfl, ?_⟩⟩
        by_cases h3 : (0 : Int) < (d3 : Nat)
        · rw [decide_eq_true h3]
          exact ⟨_, rfl, .inl rfl, _, rfl, P, hne, hP1000, by omega, rfl, fun b' hb' => fin' b' _ hb' (by omega)⟩
        · rw [decide_eq_false h3]
          exact ⟨_, rfl, fin' b _ hb (by omega)⟩
      · rw [decide_eq_false hab]
        exact ⟨_, rfl, fin' b _ hb (by omega)⟩
    · rw [natD_map, List.length_map, List.length_range]; simp
  · rintro d ds env m' ⟨left, found, x5, rfl, hlen, hp, rfl⟩
    rw [List.length_cons] at hlen
    have hl8 := hp.length_eq
    simp at hl8
    refine ⟨_, rfl, fun K hK => ?_⟩
    refine ⟨_, _, rfl, rfl, by decide, _, rfl, .inl rfl, _, rfl, _, rfl, (left.length : Nat), by omega, by omega, by omega, by rw [List.length_map], fun k hk => ?_⟩
    have hk' : k < left.length := by omega
    have hkx : left[k]? = some left[k] := List.getElem?_eq_getElem hk'
    refine ⟨k, cD left[k], rfl, by rw [List.getElem?_map, hkx]; rfl, by rw [List.length_map]; have := llv; omega, by rw [List.length_map]; have := llv; omega, hK _ _ ⟨left.eraseIdx k, found ++ [left[k]], .val d, by rw [List.length_append, List.length_singleton]; omega, by rw [List.length_append, List.length_singleton]; omega, ?_, ?_⟩⟩
    · have h1 := erase_perm left k _ hkx
      have h2 : (left.eraseIdx k ++ (found ++ [left[k]])).Perm ((left[k] :: left.eraseIdx k) ++ found) := by
        have : (left.eraseIdx k ++ (found ++ [left[k]])).Perm ((left.eraseIdx k ++ found) ++ [left[k]]) := by rw [List.append_assoc]
        exact this.trans (List.perm_append_comm (l₁ := left.eraseIdx k ++ found) (l₂ := [left[k]]))
      exact (h2.trans (h1.append_right found)).trans hp
    · rw [erase_map, List.map_append]; rfl
  · rw [natD_map, List.length_map, List.length_range]; simp
end K23
namespace K23
open PySem L2 G
theorem law_law_right : ∀ as m Q, S_law_right as m Q → d_law_right (pad N_law_right as) m (fin Q) := by
  rintro as m Q ⟨hm, rfl, q⟩
  refine ⟨_, rfl, .inl rfl, by omega, rfl, fun P T m1 hW hT6 hm1 => ⟨_, rfl, ?_⟩⟩
  refine ⟨_, rfl, _, rfl, P, T, hW, rfl, ?_⟩
  refine ⟨3, rfl, by decide, by decide, ?_⟩
  have h11 := hW.few
  refine forR_ind (fun its env m' => m' + its.length * 200 ≤ m + 700 ∧ ∃ (x4 x5 x6 x7 x8 x9 : Sl), env = [.cask, .val (.str (plS P)), .val (.tup (T.map wayD)), .val (webD P T), x4, x5, x6, x7, x8, x9]) ?_ ?_ _ _ _ ⟨?_, _, _, _, _, _, _, rfl⟩
  · rintro env m' ⟨hm', _⟩
    exact q m'
  · rintro d ds env m' ⟨hm', x4, x5, x6, x7, x8, x9, rfl⟩
    rw [List.length_cons] at hm'
    refine ⟨_, rfl, fun K hK => ?_⟩
    refine ⟨_, rfl, .inl rfl, _, rfl, T, h11, by omega, rfl, fun L1 m2 hL1 hm2 => ?_⟩
    refine ⟨_, rfl, .inl rfl, _, rfl, _, rfl, T, L1, h11, hL1, by omega, rfl, fun L2 m3 hL2 hm3 => ?_⟩
    refine ⟨_, rfl, .inl rfl, _, rfl, T, h11, by omega, rfl, fun L3 m4 hL3 hm4 => ?_⟩
    refine ⟨_, rfl, (by decide : 3 ≤ LL), _, rfl, ?_⟩
    refine forR_ind (fun its env m'' => m'' = m4 ∧ (∀ x ∈ its, ∃ L' : List Bool, L'.length = T.length ∧ x = D.str (lnS L')) ∧ ∃ (x6 x7 x8 x9 : Sl), env = [.cask, .val (.str (plS P)), .val (.tup (T.map wayD)), .val (webD P T), .val d, .val (.str (lnS L1)), x6, x7, x8, x9]) ?_ ?_ _ _ _ ⟨rfl, ?_, _, _, _, _, rfl⟩
    · rintro env m'' ⟨rfl, _, x6, x7, x8, x9, rfl⟩
      exact hK _ _ ⟨by omega, _, _, _, _, _, _, rfl⟩
    · rintro x xs env m'' ⟨rfl, hall, x6, x7, x8, x9, rfl⟩
      obtain ⟨L', hL', rfl⟩ := hall x (by simp)
      refine ⟨_, rfl, fun K2 hK2 => ?_⟩
      have go : ∀ x7 x8 x9 : Sl, K2 [.cask, .val (.str (plS P)), .val (.tup (T.map wayD)), .val (webD P T), .val d, .val (.str (lnS L1)), .val (.str (lnS L')), x7, x8, x9] m'' := fun x7 x8 x9 =>
        hK2 _ _ ⟨rfl, fun y hy => hall y (by simp [hy]), _, _, _, _, rfl⟩
      refine ⟨_, rfl, _, rfl, (by decide : 2 ≤ LL), _, rfl, (by decide : 2 ≤ LL), ?_⟩
      refine lcR_m (fun L => D.str (lnS L)) (fun L => D.tup (row P (ways T L))) [L1, L'] m'' _ (fun L hL => ?_) ?_
      · have hl : L.length = T.length := by
          simp at hL
          rcases hL with rfl | rfl
          · exact hL1
          · exact hL'
        exact ⟨_, rfl, fun m Q q => ⟨_, rfl, _, rfl, _, rfl, T, L, h11, hl, rfl, P, ways T L, by have := hW.pl.few; omega, by rw [ways_len' hl]; exact h11, rfl, q⟩⟩
      by_cases he : row P (ways T L1) = row P (ways T L')
      · have hc : cnt P (ways T L1) = cnt P (ways T L') := map_natD_inj (by rw [← row_cnt, ← row_cnt, he])
        refine ⟨_, rfl, _, rfl, _, rfl, P, T, L1, L', hW, hL1, hL', rfl, fun z => absurd he z, fun _ ls1 ho1 => ?_⟩
        refine ⟨_, rfl, _, rfl, _, rfl, P, T, L1, L', hW, hL1, hL', rfl, fun z => absurd he z, fun _ ls2 ho2 => ?_⟩
        refine ⟨(by decide : 2 ≤ LL), _, rfl, _, rfl, _, rfl, _, rfl, _, ne_rows _ _ _, _, rfl, ?_⟩
        rw [decide_eq_true hc]
        refine ⟨_, rfl, _, rfl, _, rfl, _, rfl, _, rfl, P, T, L1, L', ls1, hW, hL1, hL', ho1, rfl, true, rfl, ?_⟩
        exact ⟨_, rfl, _, rfl, _, rfl, _, rfl, _, rfl, P, T, L1, L', ls2, hW, hL1, hL', ho2, rfl, true, rfl, go _ _ _⟩
      · have hc : ¬ cnt P (ways T L1) = cnt P (ways T L') := fun z => he (by rw [row_cnt, row_cnt, z])
        refine ⟨_, rfl, _, rfl, _, rfl, P, T, L1, L', hW, hL1, hL', rfl, fun _ => ?_, fun z => absurd z he⟩
        refine ⟨_, rfl, _, rfl, _, rfl, P, T, L1, L', hW, hL1, hL', rfl, fun _ => ?_, fun z => absurd z he⟩
        refine ⟨(by decide : 2 ≤ LL), _, rfl, _, rfl, _, rfl, _, rfl, _, ne_rows _ _ _, _, rfl, ?_⟩
        rw [decide_eq_false hc]
        exact ⟨_, rfl, (by decide : 2 ≤ LL), .bl false, rfl, _, rfl, go _ _ _⟩
    · intro x hx
      simp at hx
      rcases hx with rfl | rfl | rfl
      · exact ⟨L2, hL2, rfl⟩
      · exact ⟨L3, hL3, rfl⟩
      · exact ⟨L1, hL1, rfl⟩
  · have : (rangeD 0 3).length = 3 := by decide
    rw [this]; omega
end K23

namespace K23
open PySem L2 G
def topS (i : Nat) : Stmt := PySem.Challenge.pw_webreckon_k23_whole_rings_between_leanin.main.body.getD i (.Pass ⟨0, 0, 0, 0⟩)
def clsBody (s : Stmt) : List Stmt := match s with
  | .ClassDef _ _ _ b _ _ _ _ _ _ _ => b
  | _ => []
def methS (i j : Nat) : Stmt := (clsBody (topS i)).getD j (.Pass ⟨0, 0, 0, 0⟩)

abbrev st_are_letters : Stmt := (topS 11)
theorem sc_are_letters : FnScope N_are_letters ["value"] (defScope st_are_letters) := ⟨rfl, rfl, rfl, by decide +kernel, rfl, by decide +kernel, by decide +kernel⟩
abbrev st_are_places : Stmt := (topS 12)
theorem sc_are_places : FnScope N_are_places ["value"] (defScope st_are_places) := ⟨rfl, rfl, rfl, by decide +kernel, rfl, by decide +kernel, by decide +kernel⟩
abbrev st_is_tie : Stmt := (topS 13)
theorem sc_is_tie : FnScope N_is_tie ["places", "value"] (defScope st_is_tie) := ⟨rfl, rfl, rfl, by decide +kernel, rfl, by decide +kernel, by decide +kernel⟩
abbrev st_wrong_tie : Stmt := (topS 14)
theorem sc_wrong_tie : FnScope N_wrong_tie ["places", "ties"] (defScope st_wrong_tie) := ⟨rfl, rfl, rfl, by decide +kernel, rfl, by decide +kernel, by decide +kernel⟩
abbrev st_Webinit : Stmt := (methS 15 0)
theorem sc_Webinit : FnScope N_Webinit ["self", "places", "ties"] (defScope st_Webinit) := ⟨rfl, rfl, rfl, by decide +kernel, rfl, by decide +kernel, by decide +kernel⟩
abbrev st_Weblen : Stmt := (methS 15 2)
theorem sc_Weblen : FnScope N_Weblen ["self"] (defScope st_Weblen) := ⟨rfl, rfl, rfl, by decide +kernel, rfl, by decide +kernel, by decide +kernel⟩
abbrev st_check_web : Stmt := (topS 16)
theorem sc_check_web : FnScope N_check_web ["web"] (defScope st_check_web) := ⟨rfl, rfl, rfl, by decide +kernel, rfl, by decide +kernel, by decide +kernel⟩
abbrev st_is_leaning : Stmt := (topS 19)
theorem sc_is_leaning : FnScope N_is_leaning ["web", "value"] (defScope st_is_leaning) := ⟨rfl, rfl, rfl, by decide +kernel, rfl, by decide +kernel, by decide +kernel⟩
abbrev st_check_leaning : Stmt := (topS 20)
theorem sc_check_leaning : FnScope N_check_leaning ["web", "leaning"] (defScope st_check_leaning) := ⟨rfl, rfl, rfl, by decide +kernel, rfl, by decide +kernel, by decide +kernel⟩
abbrev st_check_leaned : Stmt := (topS 21)
theorem sc_check_leaned : FnScope N_check_leaned ["web", "leaning"] (defScope st_check_leaned) := ⟨rfl, rfl, rfl, by decide +kernel, rfl, by decide +kernel, by decide +kernel⟩
abbrev st_ways_of : Stmt := (topS 22)
theorem sc_ways_of : FnScope N_ways_of ["web", "leaning"] (defScope st_ways_of) := ⟨rfl, rfl, rfl, by decide +kernel, rfl, by decide +kernel, by decide +kernel⟩
abbrev st_scores_of : Stmt := (topS 24)
theorem sc_scores_of : FnScope N_scores_of ["web", "leaning"] (defScope st_scores_of) := ⟨rfl, rfl, rfl, by decide +kernel, rfl, by decide +kernel, by decide +kernel⟩
abbrev st_first_ring : Stmt := (topS 25)
theorem sc_first_ring : FnScope N_first_ring ["ways", "left"] (defScope st_first_ring) := ⟨rfl, rfl, rfl, by decide +kernel, rfl, by decide +kernel, by decide +kernel⟩
abbrev st_turning_rings : Stmt := (topS 26)
theorem sc_turning_rings : FnScope N_turning_rings ["web", "leaning", "other_leaning"] (defScope st_turning_rings) := ⟨rfl, rfl, rfl, by decide +kernel, rfl, by decide +kernel, by decide +kernel⟩
abbrev st_law_purse : Stmt := (topS 28)
theorem sc_law_purse : FnScope N_law_purse ["_law_script", "_law_k"] (defScope st_law_purse) := ⟨rfl, rfl, rfl, by decide +kernel, rfl, by decide +kernel, by decide +kernel⟩
abbrev st_law_take : Stmt := (topS 29)
theorem sc_law_take : FnScope N_law_take ["_law_purse_here", "_law_many"] (defScope st_law_take) := ⟨rfl, rfl, rfl, by decide +kernel, rfl, by decide +kernel, by decide +kernel⟩
abbrev st_law_one : Stmt := (topS 30)
theorem sc_law_one : FnScope N_law_one ["_law_purse_here", "_law_things"] (defScope st_law_one) := ⟨rfl, rfl, rfl, by decide +kernel, rfl, by decide +kernel, by decide +kernel⟩
abbrev st_law_web : Stmt := (topS 31)
theorem sc_law_web : FnScope N_law_web ["_law_purse_here", "_law_most_places", "_law_most_ties"] (defScope st_law_web) := ⟨rfl, rfl, rfl, by decide +kernel, rfl, by decide +kernel, by decide +kernel⟩
abbrev st_law_lean : Stmt := (topS 32)
theorem sc_law_lean : FnScope N_law_lean ["_law_purse_here", "_law_ties_here"] (defScope st_law_lean) := ⟨rfl, rfl, rfl, by decide +kernel, rfl, by decide +kernel, by decide +kernel⟩
abbrev st_law_ways : Stmt := (topS 33)
theorem sc_law_ways : FnScope N_law_ways ["_law_ties_here", "_law_leaning_here"] (defScope st_law_ways) := ⟨rfl, rfl, rfl, by decide +kernel, rfl, by decide +kernel, by decide +kernel⟩
abbrev st_law_goes_round : Stmt := (topS 34)
theorem sc_law_goes_round : FnScope N_law_goes_round ["_law_ways_here", "_law_lot"] (defScope st_law_goes_round) := ⟨rfl, rfl, rfl, by decide +kernel, rfl, by decide +kernel, by decide +kernel⟩
abbrev st_law_flip : Stmt := (topS 35)
theorem sc_law_flip : FnScope N_law_flip ["_law_leaning_here", "_law_lot"] (defScope st_law_flip) := ⟨rfl, rfl, rfl, by decide +kernel, rfl, by decide +kernel, by decide +kernel⟩
abbrev st_law_row : Stmt := (topS 36)
theorem sc_law_row : FnScope N_law_row ["_law_places_here", "_law_ways_here"] (defScope st_law_row) := ⟨rfl, rfl, rfl, by decide +kernel, rfl, by decide +kernel, by decide +kernel⟩
abbrev st_law_shown : Stmt := (topS 37)
theorem sc_law_shown : FnScope N_law_shown ["_law_mine", "_law_leaning_here", "_law_other", "_law_told"] (defScope st_law_shown) := ⟨rfl, rfl, rfl, by decide +kernel, rfl, by decide +kernel, by decide +kernel⟩
abbrev st_law_near : Stmt := (topS 38)
theorem sc_law_near : FnScope N_law_near ["_law_purse_here", "_law_ties_here", "_law_leaning_here"] (defScope st_law_near) := ⟨rfl, rfl, rfl, by decide +kernel, rfl, by decide +kernel, by decide +kernel⟩
abbrev st_law_right : Stmt := (topS 39)
theorem sc_law_right : FnScope N_law_right ["_law_purse_here"] (defScope st_law_right) := ⟨rfl, rfl, rfl, by decide +kernel, rfl, by decide +kernel, by decide +kernel⟩
abbrev st_law : Stmt := (topS 40)
theorem sc_law : FnScope N_law ["_law_script"] (defScope st_law) := ⟨rfl, rfl, rfl, by decide +kernel, rfl, by decide +kernel, by decide +kernel⟩
structure Mo (K : PySem.W.Frag) (mg : Str → Option Value) (g : Gp) (ad : Nat → Addr) (fd : Nat → FuncData) : Prop where
  f_are_letters : Fun K "are_letters" "are_letters" st_are_letters (ad 0) (fd 0)
  b_are_letters : Binds K (fd 0) ["value"] []
  m_are_letters : mg "are_letters" = some (.ref (ad 0))
  f_are_places : Fun K "are_places" "are_places" st_are_places (ad 1) (fd 1)
  b_are_places : Binds K (fd 1) ["value"] []
  m_are_places : mg "are_places" = some (.ref (ad 1))
  f_is_tie : Fun K "is_tie" "is_tie" st_is_tie (ad 2) (fd 2)
  b_is_tie : Binds K (fd 2) ["places", "value"] []
  m_is_tie : mg "is_tie" = some (.ref (ad 2))
  f_wrong_tie : Fun K "wrong_tie" "wrong_tie" st_wrong_tie (ad 3) (fd 3)
  b_wrong_tie : Binds K (fd 3) ["places", "ties"] []
  m_wrong_tie : mg "wrong_tie" = some (.ref (ad 3))
  f_Webinit : Fun K "__init__" "Web.__init__" st_Webinit (ad 4) (fd 4)
  b_Webinit : Binds K (fd 4) ["self", "places", "ties"] []
  f_Weblen : Fun K "__len__" "Web.__len__" st_Weblen (ad 5) (fd 5)
  b_Weblen : Binds K (fd 5) ["self"] []
  f_check_web : Fun K "check_web" "check_web" st_check_web (ad 6) (fd 6)
  b_check_web : Binds K (fd 6) ["web"] []
  m_check_web : mg "check_web" = some (.ref (ad 6))
  f_is_leaning : Fun K "is_leaning" "is_leaning" st_is_leaning (ad 7) (fd 7)
  b_is_leaning : Binds K (fd 7) ["web", "value"] []
  m_is_leaning : mg "is_leaning" = some (.ref (ad 7))
  f_check_leaning : Fun K "check_leaning" "check_leaning" st_check_leaning (ad 8) (fd 8)
  b_check_leaning : Binds K (fd 8) ["web", "leaning"] []
  m_check_leaning : mg "check_leaning" = some (.ref (ad 8))
  f_check_leaned : Fun K "check_leaned" "check_leaned" st_check_leaned (ad 9) (fd 9)
  b_check_leaned : Binds K (fd 9) ["web", "leaning"] []
  m_check_leaned : mg "check_leaned" = some (.ref (ad 9))
  f_ways_of : Fun K "ways_of" "ways_of" st_ways_of (ad 10) (fd 10)
  b_ways_of : Binds K (fd 10) ["web", "leaning"] []
  m_ways_of : mg "ways_of" = some (.ref (ad 10))
  f_scores_of : Fun K "scores_of" "scores_of" st_scores_of (ad 11) (fd 11)
  b_scores_of : Binds K (fd 11) ["web", "leaning"] []
  m_scores_of : mg "scores_of" = some (.ref (ad 11))
  f_first_ring : Fun K "first_ring" "first_ring" st_first_ring (ad 12) (fd 12)
  b_first_ring : Binds K (fd 12) ["ways", "left"] []
  m_first_ring : mg "first_ring" = some (.ref (ad 12))
  f_turning_rings : Fun K "turning_rings" "turning_rings" st_turning_rings (ad 13) (fd 13)
  b_turning_rings : Binds K (fd 13) ["web", "leaning", "other_leaning"] []
  m_turning_rings : mg "turning_rings" = some (.ref (ad 13))
  f_law_purse : Fun K "_law_purse" "_law_purse" st_law_purse (ad 14) (fd 14)
  b_law_purse : Binds K (fd 14) ["_law_script", "_law_k"] []
  m_law_purse : mg "_law_purse" = some (.ref (ad 14))
  f_law_take : Fun K "_law_take" "_law_take" st_law_take (ad 15) (fd 15)
  b_law_take : Binds K (fd 15) ["_law_purse_here", "_law_many"] []
  m_law_take : mg "_law_take" = some (.ref (ad 15))
  f_law_one : Fun K "_law_one" "_law_one" st_law_one (ad 16) (fd 16)
  b_law_one : Binds K (fd 16) ["_law_purse_here", "_law_things"] []
  m_law_one : mg "_law_one" = some (.ref (ad 16))
  f_law_web : Fun K "_law_web" "_law_web" st_law_web (ad 17) (fd 17)
  b_law_web : Binds K (fd 17) ["_law_purse_here", "_law_most_places", "_law_most_ties"] []
  m_law_web : mg "_law_web" = some (.ref (ad 17))
  f_law_lean : Fun K "_law_lean" "_law_lean" st_law_lean (ad 18) (fd 18)
  b_law_lean : Binds K (fd 18) ["_law_purse_here", "_law_ties_here"] []
  m_law_lean : mg "_law_lean" = some (.ref (ad 18))
  f_law_ways : Fun K "_law_ways" "_law_ways" st_law_ways (ad 19) (fd 19)
  b_law_ways : Binds K (fd 19) ["_law_ties_here", "_law_leaning_here"] []
  m_law_ways : mg "_law_ways" = some (.ref (ad 19))
  f_law_goes_round : Fun K "_law_goes_round" "_law_goes_round" st_law_goes_round (ad 20) (fd 20)
  b_law_goes_round : Binds K (fd 20) ["_law_ways_here", "_law_lot"] []
  m_law_goes_round : mg "_law_goes_round" = some (.ref (ad 20))
  f_law_flip : Fun K "_law_flip" "_law_flip" st_law_flip (ad 21) (fd 21)
  b_law_flip : Binds K (fd 21) ["_law_leaning_here", "_law_lot"] []
  m_law_flip : mg "_law_flip" = some (.ref (ad 21))
  f_law_row : Fun K "_law_row" "_law_row" st_law_row (ad 22) (fd 22)
  b_law_row : Binds K (fd 22) ["_law_places_here", "_law_ways_here"] []
  m_law_row : mg "_law_row" = some (.ref (ad 22))
  f_law_shown : Fun K "_law_shown" "_law_shown" st_law_shown (ad 23) (fd 23)
  b_law_shown : Binds K (fd 23) ["_law_mine", "_law_leaning_here", "_law_other", "_law_told"] []
  m_law_shown : mg "_law_shown" = some (.ref (ad 23))
  f_law_near : Fun K "_law_near" "_law_near" st_law_near (ad 24) (fd 24)
  b_law_near : Binds K (fd 24) ["_law_purse_here", "_law_ties_here", "_law_leaning_here"] []
  m_law_near : mg "_law_near" = some (.ref (ad 24))
  f_law_right : Fun K "_law_right" "_law_right" st_law_right (ad 25) (fd 25)
  b_law_right : Binds K (fd 25) ["_law_purse_here"] []
  m_law_right : mg "_law_right" = some (.ref (ad 25))
  f_law : Fun K "law" "law" st_law (ad 26) (fd 26)
  b_law : Binds K (fd 26) ["_law_script"] []
  m_law : mg "law" = some (.ref (ad 26))
  kw_turning_rings : KB0 K (fd 13) ["web", "leaning", "other_leaning"] ["other_leaning", "leaning", "web"] pm3
  m_Web : mg "Web" = some (.ref g.Cw)
  z_len : mg "len" = none
  z_all : mg "all" = none
  z_abs : mg "abs" = none
  z_int : mg "int" = none
  z_divmod : mg "divmod" = none
  z_min : mg "min" = none
  z_max : mg "max" = none
  z_tuple : mg "tuple" = none
  z_list : mg "list" = none
  z_sorted : mg "sorted" = none
  z_set : mg "set" = none
  z_str : mg "str" = none
  z_isinstance : mg "isinstance" = none
  z_enumerate : mg "enumerate" = none
  z_zip : mg "zip" = none
  z_range : mg "range" = none
  g_MOST_PLACES : ∃ t : Tok, mg "MOST_PLACES" = some (.int 7 t)
  g_MOST_TIES : ∃ t : Tok, mg "MOST_TIES" = some (.int 11 t)
  g_LETTERS : ∃ t : Tok, mg "LETTERS" = some (.str "abcdefgh" t)
  g_SIGNS : ∃ t : Tok, mg "SIGNS" = some (.str "+-" t)
  wty : WebTy K g
  ck : g.ck = ckOk
  np : NoAttr K g.Cw "places"
  nt : NoAttr K g.Cw "ties"
  fl : PySem.W.findIn K (.ref g.Cw) "__len__" = some (some (.ref (ad 5)))
  il : PySem.W.isFn K (.ref (ad 5)) = true
  mkw : Mk K g.Cw (ad 4)
theorem pm3_rel {α β : Type} (R : α → β → Prop) (vs : List α) (us : List β) (h : Paired R vs us) : Paired R (pm3 vs) (pm3 us) := by
  match vs, us, h with
  | [], [], .nil => exact .nil
  | [_], [_], .cons a .nil => exact .cons a .nil
  | [_, _], [_, _], .cons a (.cons b .nil) => exact .cons a (.cons b .nil)
  | [_, _, _], [_, _, _], .cons a (.cons b (.cons c .nil)) => exact .cons c (.cons b (.cons a .nil))
  | _ :: _ :: _ :: _ :: _, _ :: _ :: _ :: _ :: _, .cons a (.cons b (.cons c (.cons d t))) => exact .cons a (.cons b (.cons c (.cons d t)))
variable {P : Program} {w : World} {K : PySem.W.Frag} {mg : Str → Option Value} {base : Heap} {g : Gp} {ad : Nat → Addr} {fd : Nat → FuncData}
-- are_letters depth 1
theorem ok_are_letters (M : Mo K mg g ad fd) : FnOk P w K mg base CX0 1 (ad 0) (fd 0) ["value"] (spOf K g S_are_letters) :=
  def_ok M.f_are_letters sc_are_letters S_are_letters_len fun cdv A outer s H E hr => ⟨d_are_letters,
    (gss_cons (gs_if (gw_pt (gw_or (gt_not (gt_val (ge_isi M.wty (.ty "str") (pe_bltn (by rfl) M.z_str rfl rfl) (by intro x b h; cases x <;> simp only [isStrD] at h <;> first | (cases h; exact kit_ty (by decide +kernel)) | cases h) (by rfl) M.z_isinstance (gvb 0)))) (gw_or1 (gt_cmp (or_ne hr.units) od_ne (gb_e (ge_lenDc' rfl sc_are_letters.nd (gi_srcB (gvb 0)) (blkOk_by (N := N_are_letters) (sc := (defScope st_are_letters)) (own := [("letter", 1)]) (by decide +kernel)) (fun s H C cl fp => (gg_name (j := 1) sc_are_letters.nd rfl (by first | exact .inl rfl | exact .inr rfl))) (fun s H C cl fp => (gv 1)) (fun s H C cl fp => ge_bl) (by rfl) M.z_len)) (gb_e (ge_callB cr_len cd_len0 (by rfl) M.z_len (by decide +kernel) (gab_cons (gvb 0) gab_nil))) rfl)))) (gss_one (gs_ret ge_bl)) gss_nil)
      (gss_one (gs_ret (ge_callB (cr_all rfl) cd_all (by rfl) M.z_all (by decide +kernel) (gab_cons (gb_e (ge_n (gn_lc' rfl sc_are_letters.nd (gi_srcB (gvb 0)) (blkOk_by (N := N_are_letters) (sc := (defScope st_are_letters)) (own := [("letter", 1)]) (by decide +kernel)) (fun s H C cl fp => (gg_name (j := 1) sc_are_letters.nd rfl (by first | exact .inl rfl | exact .inr rfl))) (fun s H C cl fp => gts_nil) (fun s H C cl fp => (ge_cmp or_in od_in (gvb 1) (gb_e (ge_globS (by rfl) M.g_LETTERS.choose_spec)) rfl))))) gab_nil))))), law_are_letters⟩

-- are_places depth 2
theorem ok_are_places (M : Mo K mg g ad fd) : FnOk P w K mg base CX0 2 (ad 1) (fd 1) ["value"] (spOf K g S_are_places) :=
  def_ok M.f_are_places sc_are_places S_are_places_len fun cdv A outer s H E hr => ⟨d_are_places,
    (gss_one (gs_ret (ge_and (ge_call (ok_are_letters M) (hr.mono (by decide)) (by rfl) M.m_are_letters M.f_are_letters.kp M.b_are_letters (ga_cons (gv 0) ga_nil)) (ge_and (ge_chain or_lt or_le od_lt od_le (gb_e ge_int) (gb_e (ge_callB cr_len cd_len0 (by rfl) M.z_len (by decide +kernel) (gab_cons (gvb 0) gab_nil))) (gb_e (ge_globI (by rfl) M.g_MOST_PLACES.choose_spec))) (ge_one (ge_cmp (or_eq hr.units) od_eq (gb_e (ge_n (gn_callTy (cr_list rfl) cn_list (by rfl) M.z_list (by decide +kernel) (gab_cons (gvb 0) gab_nil)))) (gb_e (ge_n (gn_callB (cr_sorted' rfl hr.units) cn_sorted (by rfl) M.z_sorted (by decide +kernel) (gab_cons (gvb 0) gab_nil)))) rfl)))))), law_are_places⟩

-- is_tie depth 1
theorem ok_is_tie (M : Mo K mg g ad fd) : FnOk P w K mg base CX0 1 (ad 2) (fd 2) ["places", "value"] (spOf K g S_is_tie) :=
  def_ok M.f_is_tie sc_is_tie S_is_tie_len fun cdv A outer s H E hr => ⟨d_is_tie,
    (gss_cons (gs_if (gw_pt (gw_or (gt_not (gt_val (ge_isi M.wty (.ty "str") (pe_bltn (by rfl) M.z_str rfl rfl) (by intro x b h; cases x <;> simp only [isStrD] at h <;> first | (cases h; exact kit_ty (by decide +kernel)) | cases h) (by rfl) M.z_isinstance (gvb 1)))) (gw_or1 (gt_cmp (or_ne hr.units) od_ne (gb_e (ge_callB cr_len cd_len0 (by rfl) M.z_len (by decide +kernel) (gab_cons (gvb 1) gab_nil))) (gb_e ge_int) rfl)))) (gss_one (gs_ret ge_bl)) gss_nil)
      (gss_one (gs_ret (ge_and (ge_cmp or_in od_in (gb_e (ge_ix (gvb 1) (gb_e ge_int))) (gvb 0) rfl) (ge_and (ge_cmp or_in od_in (gb_e (ge_ix (gvb 1) (gb_e ge_int))) (gvb 0) rfl) (ge_one (ge_cmp or_le od_le (gb_e (ge_ix (gvb 1) (gb_e ge_int))) (gb_e (ge_ix (gvb 1) (gb_e ge_int))) rfl))))))), law_is_tie⟩

-- wrong_tie depth 2
theorem ok_wrong_tie (M : Mo K mg g ad fd) : FnOk P w K mg base CX0 2 (ad 3) (fd 3) ["places", "ties"] (spOf K g S_wrong_tie) :=
  def_ok M.f_wrong_tie sc_wrong_tie S_wrong_tie_len fun cdv A outer s H E hr => ⟨d_wrong_tie,
    (gss_cons (gs_for PassesOwn.never rfl (gi_enum (by rfl) M.z_enumerate (gv 1)) (gg_tupK K rfl (ggs_cons (gg_name (j := 2) sc_wrong_tie.nd rfl (by first | exact .inl rfl | exact .inr rfl)) (ggs_cons (gg_name (j := 3) sc_wrong_tie.nd rfl (by first | exact .inl rfl | exact .inr rfl)) ggs_nil)))
      (gss_one (gs_if (gw_pt (gw_or (gt_cmp (or_eq hr.units) od_eq (gvb 2) (gb_e (ge_globI (by rfl) M.g_MOST_TIES.choose_spec)) rfl) (gw_or1 (gt_not (gt_val (ge_call (ok_is_tie M) (hr.mono (by decide)) (by rfl) M.m_is_tie M.f_is_tie.kp M.b_is_tie (ga_cons (gv 0) (ga_cons (gv 3) ga_nil)))))))) (gss_one (gs_ret (gv 2))) gss_nil)))
      (gss_one (gs_ret ge_non))), law_wrong_tie⟩

theorem rel_mk {c : Option Addr} {F H : Hp} {m : Nat} : ∀ {env : Env'} {σ : St}, Ex F H → Ck g c m F H → Paired (fun (s : Sl) (o : Option V) => SlR K g c F H s (some o) ∧ ∀ ds, s ≠ .own ds) env σ → Rel K g c F env m σ H := fun {env σ} e ck h => by
  have get : ∀ {env : Env'} {σ : St}, Paired (fun (s : Sl) (o : Option V) => SlR K g c F H s (some o) ∧ ∀ ds, s ≠ .own ds) env σ → ∀ (i : Nat) (s : Sl), env[i]? = some s → SlR K g c F H s σ[i]? ∧ ∀ ds, s ≠ .own ds := by
    intro env σ h
    induction h with
    | nil => intro i s h; simp at h
    | cons h t ih =>
      intro i s hs
      cases i with
      | zero => simp at hs; subst hs; exact h
      | succ i => exact ih i s (by simpa using hs)
  exact ⟨e, Paired.length h, fun i s hs => (get h i s hs).1, fun i j di dj p h1 => absurd rfl ((get h i _ h1).2 di), ck⟩
def spInit (K : PySem.W.Frag) (g : Gp) : Sp := fun vs H Q _ => ∃ c F m x dx t P T, vs = [.ref x, .str (plS P), .ref t] ∧ WbOk P T ∧ Ex F H ∧ Ck g c m F H ∧ Rep K g F (.tup (T.map wayD)) (.ref t) ∧ H x = some (.ins g.Cw dx []) ∧ c ≠ some x ∧
  ∀ F' H' H'', Fresh c F H F' H' → Ck g c m F' H' → (∀ b, b ≠ x → H'' b = H' b) → H'' x = some (.ins g.Cw dx [("places", .str (plS P)), ("ties", .ref t)]) → Q .non H''
theorem ok_Webinit (M : Mo K mg g ad fd) : FnOk P w K mg base CX0 3 (ad 4) (fd 4) ["self", "places", "ties"] (spInit K g) := by
  refine M.f_Webinit.ok sc_Webinit (fun vs H Q E h => ?_) (fun cdv A outer s H vs Q E hr h => ?_)
  · obtain ⟨c, F, m, x, dx, t, P, T, rfl, _⟩ := h
    rfl
  · obtain ⟨c, F, m, x, dx, t, P, T, rfl, hW, eF, ck, rt, hx, cx, q⟩ := h
    refine ⟨_, pss_cons (ps_if (gt_not (gt_val (ge_call (ok_are_places M) (hr.mono (by decide)) (by rfl) M.m_are_places M.f_are_places.kp M.b_are_places (ga_cons (gv 1) ga_nil)))) pss_never pss_nil)
      (pss_cons (ps_if (gt_not (gt_val (ge_isi M.wty (.ty "tuple") (pe_bltn (by rfl) M.z_tuple rfl rfl) (f := isTupD) (by intro x b h; cases x <;> simp only [isTupD] at h <;> first | (cases h; exact kit_ty (by decide +kernel)) | cases h) (by rfl) M.z_isinstance (gvb 2)))) pss_never pss_nil)
      (pss_cons (ps_set (i := 3) sc_Webinit.nd rfl (.inl rfl) (ge_call (ok_wrong_tie M) (hr.mono (by decide)) (by rfl) M.m_wrong_tie M.f_wrong_tie.kp M.b_wrong_tie (ga_cons (gv 1) (ga_cons (gv 2) ga_nil))))
      (pss_cons (ps_if (gt_cmp (g := g) op_notN od_notN (gvb 3) (gb_e ge_non) rfl) pss_never pss_nil)
      (pss_cons (ps_fld (pv 0) (pv 1) rfl) (pss_one (ps_fld (pv 0) (pv 2) rfl)))))), ?_⟩
    have r0 : Rel K g c F [.no, .val (.str (plS P)), .val (.tup (T.map wayD)), .no] m [some (.ref x), some (.str (plS P)), some (.ref t), none] H :=
      rel_mk eF ck (.cons ⟨trivial, fun _ z => nomatch z⟩ (.cons ⟨⟨_, rfl, .str _⟩, fun _ z => nomatch z⟩ (.cons ⟨⟨_, rfl, rt⟩, fun _ z => nomatch z⟩ (.cons ⟨trivial, fun _ z => nomatch z⟩ .nil))))
    refine ⟨c, F, _, m, (fun b m1 => b = false ∧ m1 = m), r0, ⟨_, rfl, P, hW.pl, rfl, true, rfl, rfl, rfl⟩, fun b H1 F1 m1 r1 f1 ⟨hb, hm⟩ => ?_⟩
    subst hb hm
    refine ⟨c, F1, _, m1, (fun b m2 => b = false ∧ m2 = m1), r1, ⟨_, rfl, true, rfl, true, rfl, rfl, rfl⟩, fun b H2 F2 m2 r2 f2 ⟨hb, hm⟩ => ?_⟩
    subst hb hm
    refine ⟨c, F2, _, m2, (fun y m3 => y = .non ∧ m3 = m2), r2, ⟨_, rfl, _, rfl, P, T, hW, rfl, rfl, rfl⟩, fun v H3 F3 m3 y r3 f3 rp ⟨hy, hm⟩ => ?_⟩
    subst hy hm
    have r3' := r3.setV (i := 3) rp
    refine ⟨c, F3, _, m3, (fun b m4 => b = false ∧ m4 = m3), r3', ⟨_, rfl, _, rfl, _, rfl, rfl, rfl⟩, fun b H4 F4 m4 r4 f4 ⟨hb, hm⟩ => ?_⟩
    subst hb hm
    have fr := ((f1.trans f2).trans f3).trans f4
    have hx4 : H4 x = some (.ins g.Cw dx []) := fr.hh _ _ hx cx
    refine ⟨_, rfl, _, rfl, x, g.Cw, dx, _, rfl, hx4, M.wty.cls, M.np, by decide, ?_⟩
    refine ⟨_, rfl, _, rfl, x, g.Cw, dx, _, rfl, upd_same, M.wty.cls, M.nt, (show 1 < 1000 by decide), ?_⟩
    refine q F4 H4 _ fr r4.ck (fun b hb => by rw [upd_ne hb, upd_ne hb]) ?_
    rw [upd_same]
    rfl
theorem ge_make {X : Cx} (M : Mo X.K X.mg g ad fd) {e : Expr} {es : List Expr} {da : DA} {p pos : Pos} (hr : Room 4 X.A) (hg : Gl X "Web") (ha : GA g X (e :: es) da) (he : starEach (e :: es) X.env = (false, eval e X.env) :: starEach es X.env := by rfl) (hpl : (backTo pos (starEach es X.env)).any (·.1) = false := by rfl) :
    GE g X (.Call (.Name "Web" p) (e :: es) [] pos) (dMake da) :=
  PE.weak (pe_make M.mkw (ok_Webinit M) hr hg M.m_Web M.b_Webinit .nil pass0 ha (by decide) he hpl) fun σ H Q ⟨c, F, env, m, Q1, r, h, kk⟩ => ⟨c, F, env, m, _, r, h, fun vs H1 F1 m1 as r1 f1 ar ⟨P, T, hW, eas, q⟩ => fun x dx hx hdx hne => by
    subst eas
    cases ar with
    | cons a1 ar =>
      cases ar with
      | cons a2 ar =>
        cases ar
        cases a1
        have a2' : Rep X.K g F1 (.tup (T.map wayD)) _ := a2
        cases a2' with
        | @tup t xs ds hs hl =>
        have n1 := New.lay (F := F1) (o := .own x) r1.sub hdx
        have hx2 : upd H1 dx (.own x) x = none := by rw [upd_ne (Ne.symm hne)]; exact hx
        have n2 := New.lay (F := F1) (o := .ins g.Cw dx []) n1.fh hx2
        have n := n1.trans n2
        have cx : c ≠ some x := fun z => by obtain ⟨_, _, e, _⟩ := r1.ck x z; rw [e] at hx; cases hx
        have F1x : F1 x = none := ex_none r1.sub hx
        refine ⟨c, F1, m1, x, dx, t, P, T, rfl, hW, n.fh, r1.ck.new n, .tup hs hl, upd_same, cx, fun F' H' H'' fr ck hb hx'' => ⟨rfl, ?_⟩⟩
        have F'x : F' x = none := by
          cases z : F' x with
          | none => rfl
          | some o =>
            rcases fr.new x o z with y | y
            · rw [F1x] at y; cases y
            · rw [upd_same] at y; cases y
        have fresh : Fresh c F1 H1 (upd F' x (.ins g.Cw dx [("places", .str (plS P)), ("ties", .ref t)])) H'' := by
          refine ⟨fr.ff.trans (Evl.Ex.new F'x), fun a o z => ?_, fun a o z nz => ?_, fun a o z => ?_, fun a z => ?_⟩
          · by_cases y : a = x
            · subst y; rw [upd_same] at z; rw [← z]; exact hx''
            · rw [upd_ne y] at z; rw [hb a y]; exact fr.fh a o z
          · have y : a ≠ x := fun e => by subst e; rw [hx] at z; cases z
            rw [hb a y]
            exact fr.hh a o (n.hh a o z) nz
          · by_cases y : a = x
            · subst y; exact .inr hx
            · rw [upd_ne y] at z
              rcases fr.new a o z with u | u
              · exact .inl u
              · exact .inr (ex_none n.hh u)
          · have y : a ≠ x := fun e => cx (by rw [← e]; exact z)
            rw [upd_ne y]; exact fr.nc a z
        have ck' : Ck g c m1 (upd F' x (.ins g.Cw dx [("places", .str (plS P)), ("ties", .ref t)])) H'' := fun a z => by
          have y : a ≠ x := fun e => cx (by rw [← e]; exact z)
          obtain ⟨b1, ys, b2, b3⟩ := ck a z
          exact ⟨by rw [upd_ne y]; exact b1, ys, by rw [hb a y]; exact b2, b3⟩
        have hxs : xs = (T.map tS).map V.str := repL_strs (by rw [ways_args]; exact hl)
        refine kk _ H'' _ m1 _ (r1.fresh fresh ck') (f1.trans fresh) (.web upd_same ?_) q
        rw [← hxs]
        exact Evl.ex_t fresh.ff hs⟩
-- Weblen depth 1
theorem ok_Weblen (M : Mo K mg g ad fd) : FnOk P w K mg base CX0 1 (ad 5) (fd 5) ["self"] (spOf K g S_Weblen) :=
  def_ok M.f_Weblen sc_Weblen S_Weblen_len fun cdv A outer s H E hr => ⟨d_Weblen,
    (gss_one (gs_ret (ge_callB cr_len cd_len0 (by rfl) M.z_len (by decide +kernel) (gab_cons (gb_e (ge_ties M.wty.cls M.nt (gv 0))) gab_nil)))), law_Weblen⟩

-- check_web depth 1
theorem ok_check_web (M : Mo K mg g ad fd) : FnOk P w K mg base CX0 1 (ad 6) (fd 6) ["web"] (spOf K g S_check_web) :=
  def_ok M.f_check_web sc_check_web S_check_web_len fun cdv A outer s H E hr => ⟨d_check_web,
    (gss_one (gs_if (gt_not (gt_val (ge_isi M.wty (.own g.Cw) (pe_glob (by rfl) M.m_Web rfl) (by intro x b h; cases x <;> simp only [isWebD] at h <;> first | (cases h; exact kit_same) | cases h) (by rfl) M.z_isinstance (gvb 0)))) (gss_one gs_never) gss_nil)), law_check_web⟩

-- is_leaning depth 3
theorem ok_is_leaning (M : Mo K mg g ad fd) : FnOk P w K mg base CX0 3 (ad 7) (fd 7) ["web", "value"] (spOf K g S_is_leaning) :=
  def_ok M.f_is_leaning sc_is_leaning S_is_leaning_len fun cdv A outer s H E hr => ⟨d_is_leaning,
    (gss_one (gs_ret (ge_and (ge_isi M.wty (.ty "str") (pe_bltn (by rfl) M.z_str rfl rfl) (by intro x b h; cases x <;> simp only [isStrD] at h <;> first | (cases h; exact kit_ty (by decide +kernel)) | cases h) (by rfl) M.z_isinstance (gvb 1)) (ge_and (ge_cmp (or_eq hr.units) od_eq (gb_e (ge_callB cr_len cd_len0 (by rfl) M.z_len (by decide +kernel) (gab_cons (gvb 1) gab_nil))) (gb_e (ge_callB (CallR.or cr_len (cr_lenW (ok_Weblen M) (hr.mono (by decide)) M.fl M.il M.b_Weblen)) cd_lenW (by rfl) M.z_len PySem.boot_len (gab_cons (gvb 0) gab_nil))) rfl) (ge_one (ge_callB (cr_all rfl) cd_all (by rfl) M.z_all (by decide +kernel) (gab_cons (gb_e (ge_n (gn_lc' rfl sc_is_leaning.nd (gi_srcB (gvb 1)) (blkOk_by (N := N_is_leaning) (sc := (defScope st_is_leaning)) (own := [("sign", 2)]) (by decide +kernel)) (fun s H C cl fp => (gg_name (j := 2) sc_is_leaning.nd rfl (by first | exact .inl rfl | exact .inr rfl))) (fun s H C cl fp => gts_nil) (fun s H C cl fp => (ge_cmp or_in od_in (gvb 2) (gb_e (ge_globS (by rfl) M.g_SIGNS.choose_spec)) rfl))))) gab_nil))))))), law_is_leaning⟩

-- check_leaning depth 4
theorem ok_check_leaning (M : Mo K mg g ad fd) : FnOk P w K mg base CX0 4 (ad 8) (fd 8) ["web", "leaning"] (spOf K g S_check_leaning) :=
  def_ok M.f_check_leaning sc_check_leaning S_check_leaning_len fun cdv A outer s H E hr => ⟨d_check_leaning,
    (gss_one (gs_if (gt_not (gt_val (ge_call (ok_is_leaning M) (hr.mono (by decide)) (by rfl) M.m_is_leaning M.f_is_leaning.kp M.b_is_leaning (ga_cons (gv 0) (ga_cons (gv 1) ga_nil))))) (gss_one gs_never) gss_nil)), law_check_leaning⟩

-- check_leaned depth 5
theorem ok_check_leaned (M : Mo K mg g ad fd) : FnOk P w K mg base CX0 5 (ad 9) (fd 9) ["web", "leaning"] (spOf K g S_check_leaned) :=
  def_ok M.f_check_leaned sc_check_leaned S_check_leaned_len fun cdv A outer s H E hr => ⟨d_check_leaned,
    (gss_cons (gs_expr (ge_call (ok_check_web M) (hr.mono (by decide)) (by rfl) M.m_check_web M.f_check_web.kp M.b_check_web (ga_cons (gv 0) ga_nil)))
      (gss_one (gs_expr (ge_call (ok_check_leaning M) (hr.mono (by decide)) (by rfl) M.m_check_leaning M.f_check_leaning.kp M.b_check_leaning (ga_cons (gv 0) (ga_cons (gv 1) ga_nil)))))), law_check_leaned⟩

-- ways_of depth 1
theorem ok_ways_of (M : Mo K mg g ad fd) : FnOk P w K mg base CX0 1 (ad 10) (fd 10) ["web", "leaning"] (spOf K g S_ways_of) :=
  def_ok M.f_ways_of sc_ways_of S_ways_of_len fun cdv A outer s H E hr => ⟨d_ways_of,
    (gss_one (gs_ret (ge_n (gn_lc' rfl sc_ways_of.nd (gi_bor (gi_zip (by rfl) M.z_zip (ge_ties M.wty.cls M.nt (gv 0)) (gv 1))) (blkOk_by (N := N_ways_of) (sc := (defScope st_ways_of)) (own := [("tie", 2), ("sign", 3)]) (by decide +kernel)) (fun s H C cl fp => (gg_tupK K rfl (ggs_cons (gg_name (j := 2) sc_ways_of.nd rfl (by first | exact .inl rfl | exact .inr rfl)) (ggs_cons (gg_name (j := 3) sc_ways_of.nd rfl (by first | exact .inl rfl | exact .inr rfl)) ggs_nil)))) (fun s H C cl fp => gts_nil) (fun s H C cl fp => (ge_if (gt_cmp (or_eq hr.units) od_eq (gvb 3) (gb_e ge_str) rfl) (gv 2) (ge_rev (gv 2)))))))), law_ways_of⟩

-- scores_of depth 2
theorem ok_scores_of (M : Mo K mg g ad fd) : FnOk P w K mg base CX0 2 (ad 11) (fd 11) ["web", "leaning"] (spOf K g S_scores_of) :=
  def_ok M.f_scores_of sc_scores_of S_scores_of_len fun cdv A outer s H E hr => ⟨d_scores_of,
    (gss_cons (gs_set (i := 2) sc_scores_of.nd rfl (by first | exact .inl rfl | exact .inr rfl) (ge_n (gn_lc' rfl sc_scores_of.nd (gi_srcB (gb_e (ge_call (ok_ways_of M) (hr.mono (by decide)) (by rfl) M.m_ways_of M.f_ways_of.kp M.b_ways_of (ga_cons (gv 0) (ga_cons (gv 1) ga_nil))))) (blkOk_by (N := N_scores_of) (sc := (defScope st_scores_of)) (own := [("way", 3)]) (by decide +kernel)) (fun s H C cl fp => (gg_name (j := 3) sc_scores_of.nd rfl (by first | exact .inl rfl | exact .inr rfl))) (fun s H C cl fp => gts_nil) (fun s H C cl fp => (ge_ix (gvb 3) (gb_e ge_int))))))
      (gss_one (gs_ret (ge_callTy cr_tuple cd_tuple (by rfl) M.z_tuple (by decide +kernel) (gab_cons (gb_e (ge_n (gn_lc' rfl sc_scores_of.nd (gi_srcB (gb_e (ge_places M.wty.cls M.np (gv 0)))) (blkOk_by (N := N_scores_of) (sc := (defScope st_scores_of)) (own := [("place", 4)]) (by decide +kernel)) (fun s H C cl fp => (gg_name (j := 4) sc_scores_of.nd rfl (by first | exact .inl rfl | exact .inr rfl))) (fun s H C cl fp => gts_nil) (fun s H C cl fp => (ge_mtL PySem.F.slot_list_count PySem.F.type_list_count mt_countF md_count (gvb 2) (gab_cons (gvb 4) gab_nil)))))) gab_nil))))), law_scores_of⟩

-- first_ring depth 1
theorem ok_first_ring (M : Mo K mg g ad fd) : FnOk P w K mg base CX0 1 (ad 12) (fd 12) ["ways", "left"] (spOf K g S_first_ring) :=
  def_ok M.f_first_ring sc_first_ring S_first_ring_len fun cdv A outer s H E hr => ⟨d_first_ring,
    (gss_cons (gs_asgNN (i := 2) (j := 3) rfl sc_first_ring.nd rfl rfl (by decide) (by first | exact .inl rfl | exact .inr rfl) (by first | exact .inl rfl | exact .inr rfl) (gn_lst gal_nil) (gn_lst (gal_cons (ge_ix (gb_e (ge_ix (gvb 0) (gb_e (ge_ix (gvb 1) (gb_e ge_int))))) (gb_e ge_int)) gal_nil)))
      (gss_one (gs_while PassesOwn.never (gt_val ge_bl) (gss_cons (gs_set (i := 4) sc_first_ring.nd rfl (by first | exact .inl rfl | exact .inr rfl) (ge_ix (gb_e (ge_n (gn_lc' rfl sc_first_ring.nd (gi_srcB (gvb 1)) (blkOk_by (N := N_first_ring) (sc := (defScope st_first_ring)) (own := [("own", 5)]) (by decide +kernel)) (fun s H C cl fp => (gg_name (j := 5) sc_first_ring.nd rfl (by first | exact .inl rfl | exact .inr rfl))) (fun s H C cl fp => (gts_one (gw_pt (gw_and (gt_cmp or_notin od_notin (gvb 5) (gvb 2) rfl) (gw_and1 (gt_cmp (or_eq hr.units) od_eq (gb_e (ge_ix (gb_e (ge_ix (gvb 0) (gvb 5))) (gb_e ge_int))) (gb_e (ge_ix (gvb 3) (gb_e ge_negI))) rfl)))))) (fun s H C cl fp => (gv 5))))) (gb_e ge_int)))
      (gss_cons (gs_append 2 (gv 4))
      (gss_cons (gs_if (gt_cmp or_in od_in (gb_e (ge_ix (gb_e (ge_ix (gvb 0) (gvb 4))) (gb_e ge_int))) (gvb 3) rfl) (gss_one (gs_ret (ge_n (gn_drop (gvb 2) (ge_mtL PySem.F.slot_list_index PySem.F.type_list_index mt_index md_index (gvb 3) (gab_cons (gb_e (ge_ix (gb_e (ge_ix (gvb 0) (gvb 4))) (gb_e ge_int))) gab_nil)))))) gss_nil)
      (gss_one (gs_append 3 (ge_ix (gb_e (ge_ix (gvb 0) (gvb 4))) (gb_e ge_int)))))))))), law_first_ring⟩

-- turning_rings depth 6
theorem ok_turning_rings (M : Mo K mg g ad fd) : FnOk P w K mg base CX0 6 (ad 13) (fd 13) ["web", "leaning", "other_leaning"] (spOf K g S_turning_rings) :=
  def_ok M.f_turning_rings sc_turning_rings S_turning_rings_len fun cdv A outer s H E hr => ⟨d_turning_rings,
    (gss_cons (gs_expr (ge_call (ok_check_leaned M) (hr.mono (by decide)) (by rfl) M.m_check_leaned M.f_check_leaned.kp M.b_check_leaned (ga_cons (gv 0) (ga_cons (gv 1) ga_nil))))
      (gss_cons (gs_expr (ge_call (ok_check_leaning M) (hr.mono (by decide)) (by rfl) M.m_check_leaning M.f_check_leaning.kp M.b_check_leaning (ga_cons (gv 0) (ga_cons (gv 2) ga_nil))))
      (gss_cons (gs_if (gt_cmp (or_ne hr.units) od_ne (gb_e (ge_call (ok_scores_of M) (hr.mono (by decide)) (by rfl) M.m_scores_of M.f_scores_of.kp M.b_scores_of (ga_cons (gv 0) (ga_cons (gv 1) ga_nil)))) (gb_e (ge_call (ok_scores_of M) (hr.mono (by decide)) (by rfl) M.m_scores_of M.f_scores_of.kp M.b_scores_of (ga_cons (gv 0) (ga_cons (gv 2) ga_nil)))) rfl) (gss_one (gs_ret ge_non)) gss_nil)
      (gss_cons (gs_parEN (i := 3) (j := 4) rfl sc_turning_rings.nd rfl rfl (by decide) rfl rfl (ge_call (ok_ways_of M) (hr.mono (by decide)) (by rfl) M.m_ways_of M.f_ways_of.kp M.b_ways_of (ga_cons (gv 0) (ga_cons (gv 1) ga_nil))) (gn_lst gal_nil) rfl)
      (gss_cons (gs_setLc' (i := 5) rfl sc_turning_rings.nd rfl rfl rfl (gi_bor (gi_range (by rfl) M.z_range (ge_callB (CallR.or cr_len (cr_lenW (ok_Weblen M) (hr.mono (by decide)) M.fl M.il M.b_Weblen)) cd_lenW (by rfl) M.z_len PySem.boot_len (gab_cons (gvb 0) gab_nil)))) (blkOk_by (N := N_turning_rings) (sc := (defScope st_turning_rings)) (own := [("index", 7)]) (by decide +kernel)) (fun s H C cl fp => (gg_name (j := 7) sc_turning_rings.nd rfl (by first | exact .inl rfl | exact .inr rfl))) (fun s H C cl fp => (gts_one (gt_cmp (or_ne hr.units) od_ne (gb_e (ge_ix (gvb 1) (gvb 7))) (gb_e (ge_ix (gvb 2) (gvb 7))) rfl))) (fun s H C cl fp => (gv 7)))
      (gss_cons (gs_while PassesOwn.never (gt_cmp (or_ne hr.units) od_ne (gvb 5) (gb_e (ge_n (gn_lst gal_nil))) rfl) (gss_cons (gs_set (i := 6) sc_turning_rings.nd rfl (by first | exact .inl rfl | exact .inr rfl) (ge_call (ok_first_ring M) (hr.mono (by decide)) (by rfl) M.m_first_ring M.f_first_ring.kp M.b_first_ring (ga_cons (gv 3) (ga_cons (gv 5) ga_nil))))
      (gss_cons (gs_append 4 (ge_callTy cr_tuple cd_tuple (by rfl) M.z_tuple (by decide +kernel) (gab_cons (gb_e (ge_n (gn_callB (cr_sorted' rfl hr.units) cn_sorted (by rfl) M.z_sorted (by decide +kernel) (gab_cons (gvb 6) gab_nil)))) gab_nil)))
      (gss_one (gs_setLc' (i := 5) rfl sc_turning_rings.nd rfl rfl rfl (gi_srcB (gvb 5)) (blkOk_by (N := N_turning_rings) (sc := (defScope st_turning_rings)) (own := [("index", 7)]) (by decide +kernel)) (fun s H C cl fp => (gg_name (j := 7) sc_turning_rings.nd rfl (by first | exact .inl rfl | exact .inr rfl))) (fun s H C cl fp => (gts_one (gt_cmp or_notin od_notin (gvb 7) (gvb 6) rfl))) (fun s H C cl fp => (gv 7)))))))
      (gss_one (gs_ret (ge_callTy cr_tuple cd_tuple (by rfl) M.z_tuple (by decide +kernel) (gab_cons (gvb 4) gab_nil)))))))))), law_turning_rings⟩

theorem cask_fresh {c : Option Addr} {F H H' : Hp} {a : Addr} {m : Nat} (e : Ex F H) (ck : Ck g c m F H) (hc : c = some a) (k : ∀ b o, H b = some o → b ≠ a → H' b = some o) : Fresh c F H F H' := by
  obtain ⟨h1, _⟩ := ck a hc
  refine ⟨fun _ _ h => h, fun b o h => k b o (e b o h) (fun z => by subst z; rw [h1] at h; cases h), fun b o h n => k b o h (fun z => n (by rw [z]; exact hc)), fun b o h => .inl h, fun b h => (ck b h).1⟩
theorem cask_ck {c : Option Addr} {F H H' : Hp} {a : Addr} {m m' : Nat} {xs : List V} (hg : g.ck = ckOk) (ck : Ck g c m F H) (hc : c = some a) (h : H' a = some (.lst xs)) (hk : ckOk m' xs) : Ck g c m' F H' := fun b z => by
  rw [hc] at z
  cases z
  exact ⟨(ck a hc).1, xs, h, by rw [hg]; exact hk⟩
theorem ok_law_take (M : Mo K mg g ad fd) : FnOk P w K mg base CX0 1 (ad 15) (fd 15) ["_law_purse_here", "_law_many"] (spOf K g S_law_take) := by
  refine M.f_law_take.ok sc_law_take (fun vs H Q E h => ?_) (fun cdv A outer s H vs Q E hr h => ?_)
  · obtain ⟨c, F, as, m, Q', _, ar, _, hs, _⟩ := h
    rw [← ar.length]; exact S_law_take_len as m Q' hs
  · obtain ⟨c, F, as, m, Q', eF, ar, ck, ⟨n, hn0, hn1, hm, rfl, q⟩, kk⟩ := h
    obtain ⟨a, rfl, hc⟩ : ∃ a, vs = [.ref a, .int n] ∧ c = some a := by
      cases ar with
      | cons h1 t =>
        cases t with
        | cons h2 t =>
          cases t
          obtain ⟨a, e1, rfl⟩ := h1
          have h2' : Rep K g F (.int n) _ := h2
          cases h2'
          exact ⟨a, rfl, e1⟩
    obtain ⟨hFa, xs, hH, hck⟩ := ck a hc
    rw [M.ck] at hck
    obtain ⟨sd, f, l, rfl, hs0, hs1, hf0, hl0, hl1⟩ := hck
    refine ⟨_, pss_cons (ps_asg (pe_op op_add (pe_ix ix_list (pv 0) pe_int (fun _ _ => rfl)) pe_int) (pg_sub (pv 0) pe_int set_list))
      (pss_cons (ps_if (pt_cmpR op_gt (pe_ix ix_list (pv 0) pe_int (fun _ _ => rfl)) pe_int (nomark _))
        (pss_cons (ps_asg (pe_callB call_divmod (by rfl) M.z_divmod (by decide +kernel) (pa_cons (pe_ix ix_list (pv 0) pe_int (fun _ _ => rfl)) (pa_cons (pv 1) pa_nil))) (pg_tup rfl (pgs_cons (pg_sub (pv 0) pe_int set_list) (pgs_cons (pg_name (i := 2) sc_law_take.nd rfl (.inl rfl)) pgs_nil))))
          (pss_one (ps_ret (pv 2)))) pss_nil)
      (pss_cons (ps_par (i := 3) (j := 4) rfl sc_law_take.nd rfl rfl (by decide) rfl rfl (pa_cons (pe_callTy call_int1 (by rfl) M.z_int (by decide +kernel) (pa_cons (pe_ix ix_list (pv 0) pe_int (fun _ _ => rfl)) pa_nil)) (pa_cons (pe_ix ix_list (pv 0) pe_int (fun _ _ => rfl)) pa_nil)) rfl)
      (pss_cons (ps_set (i := 5) sc_law_take.nd rfl (.inl rfl) (pe_op op_add (pe_op op_mod (pe_callTy call_int1 (by rfl) M.z_int (by decide +kernel) (pa_cons (pe_op op_fdiv (pv 3) pe_int) pa_nil)) pe_int) pe_int))
      (pss_cons (ps_asg (pe_op op_mod (pe_callTy call_int1 (by rfl) M.z_int (by decide +kernel) (pa_cons (pe_op op_add (pe_op op_add (pe_op op_mul (pv 3) (pv 5)) (pe_op op_mul (pe_op op_mul pe_int (pv 4)) (pv 4))) pe_int) pa_nil)) pe_int) (pg_sub (pv 0) pe_int set_list))
      (pss_one (ps_ret (pe_op op_mod (pe_callTy call_int1 (by rfl) M.z_int (by decide +kernel) (pa_cons (pe_op op_fdiv (pe_ix ix_list (pv 0) pe_int (fun _ _ => rfl)) pe_int) pa_nil)) (pv 1)))))))), ?_⟩
    refine ⟨.ref a, rfl, a, _, 2, .int l, rfl, rfl, SqL.of hH, rfl, l, 1, rfl, rfl, .ref a, rfl, a, _, 2, 2, rfl, rfl, hH, rfl, ?_⟩
    have hH1 : upd H a (.lst [.int sd, .int f, .int (l + 1)]) a = some (.lst [.int sd, .int f, .int (l + 1)]) := upd_same
    show tSeq _ _ _ _ (upd H a (.lst [.int sd, .int f, .int (l + 1)]))
    refine ⟨.ref a, rfl, a, _, 1, .int f, rfl, rfl, SqL.of hH1, rfl, f, 0, rfl, rfl, _, rfl, ?_⟩
    by_cases hf : (0 : Int) < f
    · rw [decide_eq_true hf]
      refine ⟨.ref a, rfl, a, _, 1, .int f, rfl, rfl, SqL.of hH1, rfl, .int n, rfl, f, n, rfl, ⟨hn0, by omega⟩, fun t ht => ?_⟩
      have hat : a ≠ t := fun z => by subst z; rw [hH1] at ht; cases ht
      refine ⟨t, _, rfl, SqT.of upd_same, rfl, _, _, rfl, .ref a, rfl, a, _, 1, 1, rfl, rfl, by rw [upd_ne hat]; exact hH1, rfl, ?_⟩
      refine ⟨_, _, rfl, rfl, _, rfl, ?_⟩
      have hd0 : 0 ≤ f % n := Int.emod_nonneg f (by omega)
      have hd1 : f % n < n := Int.emod_lt_of_pos f hn0
      have e : f % n = ((f % n).toNat : Int) := by omega
      refine kk _ _ F (m + 1) (.int ((f % n).toNat : Nat)) (cask_fresh eF ck hc fun b o hb nb => ?_) (cask_ck M.ck ck hc upd_same ⟨sd, f / n, l + 1, rfl, hs0, hs1, Int.ediv_nonneg hf0 (by omega), by omega, by omega⟩) ?_ (q _ (by omega))
      · have hbt : b ≠ t := fun z => by subst z; rw [upd_ne nb, hb] at ht; cases ht
        rw [upd_ne nb, upd_ne hbt, upd_ne nb]; exact hb
      · rw [← e]; exact .int _
    · rw [decide_eq_false hf]
      have hf' : f = 0 := by omega
      refine ⟨.ref a, rfl, a, _, 0, .int sd, rfl, rfl, SqL.of hH1, rfl, .inl ⟨sd, rfl, .ref a, rfl, a, _, 2, .int (l + 1), rfl, rfl, SqL.of hH1, rfl, _, _, rfl, ?_⟩⟩
      refine ⟨_, rfl, sd, 13, rfl, rfl, ⟨by decide, by decide⟩, .inl ⟨_, rfl, _, 39979, rfl, rfl, (show (0 : Int) < 39979 by decide), _, 30071, rfl, rfl, ?_⟩⟩
      have hsd : (-(2 ^ 64) < sd ∧ sd < 2 ^ 64) := by omega
      have hlp : (-(2 ^ 64) < l + 1 ∧ l + 1 < 2 ^ 64) := by omega
      refine ⟨_, rfl, _, rfl, sd, _, rfl, rfl, .inl hsd, _, rfl, 50021, l + 1, rfl, rfl, .inr hlp, _, rfl, _, l + 1, rfl, rfl, .inr hlp, _, _, rfl, rfl, _, 37, rfl, rfl, .inl ⟨_, rfl, _, 2147483399, rfl, rfl, (show (0 : Int) < 2147483399 by decide), .ref a, rfl, a, _, 0, 0, rfl, rfl, hH1, rfl, ?_⟩⟩
      generalize hz : (sd * (sd / 13 % 39979 + 30071) + 50021 * (l + 1) * (l + 1) + 37) % 2147483399 = z
      have hz0 : 0 ≤ z := by rw [← hz]; exact Int.emod_nonneg _ (by decide)
      have hz1 : z < 2147483399 := by rw [← hz]; exact Int.emod_lt_of_pos _ (by decide)
      refine ⟨.ref a, rfl, a, _, 0, .int z, rfl, rfl, SqL.of upd_same, ?_, z, 128, rfl, rfl, ⟨by decide, by decide⟩, .inl ⟨_, rfl, .int n, rfl, _, n, rfl, rfl, hn0, ?_⟩⟩
      · rw [← hz]; rfl
      have hd0 : 0 ≤ z / 128 % n := Int.emod_nonneg _ (by omega)
      have hd1 : z / 128 % n < n := Int.emod_lt_of_pos _ hn0
      have e : z / 128 % n = ((z / 128 % n).toNat : Int) := by omega
      refine kk _ _ F (m + 1) (.int ((z / 128 % n).toNat : Nat)) (cask_fresh eF ck hc fun b o hb nb => ?_) (cask_ck M.ck ck hc upd_same ⟨z, f, l + 1, by rw [← hz]; rfl, hz0, hz1, hf0, by omega, by omega⟩) ?_ (q _ (by omega))
      · rw [upd_ne nb, upd_ne nb]; exact hb
      · rw [← e]; exact .int _
-- law_one depth 2
theorem ok_law_one (M : Mo K mg g ad fd) : FnOk P w K mg base CX0 2 (ad 16) (fd 16) ["_law_purse_here", "_law_things"] (spOf K g S_law_one) :=
  def_ok M.f_law_one sc_law_one S_law_one_len fun cdv A outer s H E hr => ⟨d_law_one,
    (gss_one (gs_ret (ge_ix (gvb 1) (gb_e (ge_call (ok_law_take M) (hr.mono (by decide)) (by rfl) M.m_law_take M.f_law_take.kp M.b_law_take (ga_cask 0 (ga_cons (ge_callB cr_len cd_len0 (by rfl) M.z_len (by decide +kernel) (gab_cons (gvb 1) gab_nil)) ga_nil))))))), law_law_one⟩

-- law_web depth 3
theorem ok_law_web (M : Mo K mg g ad fd) : FnOk P w K mg base CX0 3 (ad 17) (fd 17) ["_law_purse_here", "_law_most_places", "_law_most_ties"] (spOf K g S_law_web) :=
  def_ok M.f_law_web sc_law_web S_law_web_len fun cdv A outer s H E hr => ⟨d_law_web,
    (gss_cons (gs_parNN (i := 3) (j := 4) rfl sc_law_web.nd rfl rfl (by decide) rfl rfl (gn_callTy (cr_list rfl) cn_list (by rfl) M.z_list (by decide +kernel) (gab_cons (gb_e ge_str) gab_nil)) (gn_lst gal_nil) rfl)
      (gss_cons (gs_for PassesOwn.never rfl (gi_range (by rfl) M.z_range (ge_op or_add od_add (gb_e ge_int) (gb_e (ge_call (ok_law_take M) (hr.mono (by decide)) (by rfl) M.m_law_take M.f_law_take.kp M.b_law_take (ga_cask 0 (ga_cons (gv 1) ga_nil)))))) (gg_name (j := 5) sc_law_web.nd rfl (by first | exact .inl rfl | exact .inr rfl))
      (gss_one (gs_appendPop 4 3 (ge_call (ok_law_take M) (hr.mono (by decide)) (by rfl) M.m_law_take M.f_law_take.kp M.b_law_take (ga_cask 0 (ga_cons (ge_callB cr_len cd_len0 (by rfl) M.z_len (by decide +kernel) (gab_cons (gvb 3) gab_nil)) ga_nil))))))
      (gss_cons (gs_parEN (i := 6) (j := 7) rfl sc_law_web.nd rfl rfl (by decide) rfl rfl (ge_mtS PySem.F.slot_str_join PySem.F.type_str_join mt_join md_join (gb_e ge_str) (gab_cons (gb_e (ge_n (gn_callB (cr_sorted' rfl hr.units) cn_sorted (by rfl) M.z_sorted (by decide +kernel) (gab_cons (gvb 4) gab_nil)))) gab_nil)) (gn_lst gal_nil) rfl)
      (gss_cons (gs_for PassesOwn.never rfl (gi_range (by rfl) M.z_range (ge_call (ok_law_take M) (hr.mono (by decide)) (by rfl) M.m_law_take M.f_law_take.kp M.b_law_take (ga_cask 0 (ga_cons (ge_op or_add od_add (gvb 2) (gb_e ge_int)) ga_nil)))) (gg_name (j := 5) sc_law_web.nd rfl (by first | exact .inl rfl | exact .inr rfl))
      (gss_cons (gs_par (i := 8) (j := 9) rfl sc_law_web.nd rfl rfl (by decide) rfl rfl (gal_cons (ge_call (ok_law_one M) (hr.mono (by decide)) (by rfl) M.m_law_one M.f_law_one.kp M.b_law_one (ga_cask 0 (ga_cons (gv 6) ga_nil))) (gal_cons (ge_call (ok_law_one M) (hr.mono (by decide)) (by rfl) M.m_law_one M.f_law_one.kp M.b_law_one (ga_cask 0 (ga_cons (gv 6) ga_nil))) gal_nil)) rfl)
      (gss_cons (gs_set (i := 9) sc_law_web.nd rfl (by first | exact .inl rfl | exact .inr rfl) (ge_if (gw_pt (gw_and (gt_cmp (or_eq hr.units) od_eq (gvb 8) (gvb 9) rfl) (gw_and1 (gt_cmp or_gt od_gt (gb_e (ge_call (ok_law_take M) (hr.mono (by decide)) (by rfl) M.m_law_take M.f_law_take.kp M.b_law_take (ga_cask 0 (ga_cons ge_int ga_nil)))) (gb_e ge_int) rfl)))) (ge_call (ok_law_one M) (hr.mono (by decide)) (by rfl) M.m_law_one M.f_law_one.kp M.b_law_one (ga_cask 0 (ga_cons (gv 6) ga_nil))) (gv 9)))
      (gss_one (gs_append 7 (ge_op or_add od_add (gb_e (ge_callB (cr_min2 rfl) cd_min2 (by rfl) M.z_min (by decide +kernel) (gab_cons (gvb 8) (gab_cons (gvb 9) gab_nil)))) (gb_e (ge_callB (cr_max2 rfl) cd_max2 (by rfl) M.z_max (by decide +kernel) (gab_cons (gvb 8) (gab_cons (gvb 9) gab_nil))))))))))
      (gss_one (gs_ret (ge_tup (gal_cons (gv 6) (gal_cons (ge_callTy cr_tuple cd_tuple (by rfl) M.z_tuple (by decide +kernel) (gab_cons (gvb 7) gab_nil)) gal_nil))))))))), law_law_web⟩

-- law_lean depth 3
theorem ok_law_lean (M : Mo K mg g ad fd) : FnOk P w K mg base CX0 3 (ad 18) (fd 18) ["_law_purse_here", "_law_ties_here"] (spOf K g S_law_lean) :=
  def_ok M.f_law_lean sc_law_lean S_law_lean_len fun cdv A outer s H E hr => ⟨d_law_lean,
    (gss_one (gs_ret (ge_mtS PySem.F.slot_str_join PySem.F.type_str_join mt_join md_join (gb_e ge_str) (gab_cons (gb_e (ge_n (gn_lc' rfl sc_law_lean.nd (gi_srcB (gvb 1)) (blkOk_by (N := N_law_lean) (sc := (defScope st_law_lean)) (own := [("_law_tie", 2)]) (by decide +kernel)) (fun s H C cl fp => (gg_name (j := 2) sc_law_lean.nd rfl (by first | exact .inl rfl | exact .inr rfl))) (fun s H C cl fp => gts_nil) (fun s H C cl fp => (ge_call (ok_law_one M) (hr.mono (by decide)) (by rfl) M.m_law_one M.f_law_one.kp M.b_law_one (ga_cask 0 (ga_cons ge_str ga_nil))))))) gab_nil)))), law_law_lean⟩

-- law_ways depth 1
theorem ok_law_ways (M : Mo K mg g ad fd) : FnOk P w K mg base CX0 1 (ad 19) (fd 19) ["_law_ties_here", "_law_leaning_here"] (spOf K g S_law_ways) :=
  def_ok M.f_law_ways sc_law_ways S_law_ways_len fun cdv A outer s H E hr => ⟨d_law_ways,
    (gss_one (gs_ret (ge_n (gn_lc' rfl sc_law_ways.nd (gi_bor (gi_range (by rfl) M.z_range (ge_callB cr_len cd_len0 (by rfl) M.z_len (by decide +kernel) (gab_cons (gvb 0) gab_nil)))) (blkOk_by (N := N_law_ways) (sc := (defScope st_law_ways)) (own := [("_law_k", 2)]) (by decide +kernel)) (fun s H C cl fp => (gg_name (j := 2) sc_law_ways.nd rfl (by first | exact .inl rfl | exact .inr rfl))) (fun s H C cl fp => gts_nil) (fun s H C cl fp => (ge_if (gt_cmp (or_eq hr.units) od_eq (gb_e (ge_ix (gvb 1) (gvb 2))) (gb_e ge_str) rfl) (ge_ix (gvb 0) (gvb 2)) (ge_rev (ge_ix (gvb 0) (gvb 2))))))))), law_law_ways⟩

-- law_goes_round depth 1
theorem ok_law_goes_round (M : Mo K mg g ad fd) : FnOk P w K mg base CX0 1 (ad 20) (fd 20) ["_law_ways_here", "_law_lot"] (spOf K g S_law_goes_round) :=
  def_ok M.f_law_goes_round sc_law_goes_round S_law_goes_round_len fun cdv A outer s H E hr => ⟨d_law_goes_round,
    (gss_cons (gs_if (gt_cmp (or_eq hr.units) od_eq (gvb 1) (gb_e (ge_tup gal_nil)) rfl) (gss_one (gs_ret ge_bl)) gss_nil)
      (gss_cons (gs_asgEN (i := 2) (j := 3) rfl sc_law_goes_round.nd rfl rfl (by first | exact .inl rfl | exact .inr rfl) (by first | exact .inl rfl | exact .inr rfl) (ge_ix (gb_e (ge_ix (gvb 0) (gb_e (ge_ix (gvb 1) (gb_e ge_int))))) (gb_e ge_int)) (gn_lst gal_nil))
      (gss_cons (gs_set (i := 4) sc_law_goes_round.nd rfl (by first | exact .inl rfl | exact .inr rfl) (gv 2))
      (gss_cons (gs_for PassesOwn.never rfl (gi_src (gv 1)) (gg_name (j := 5) sc_law_goes_round.nd rfl (by first | exact .inl rfl | exact .inr rfl))
      (gss_cons (gs_setLc' (i := 6) rfl sc_law_goes_round.nd rfl rfl rfl (gi_srcB (gvb 1)) (blkOk_by (N := N_law_goes_round) (sc := (defScope st_law_goes_round)) (own := [("_law_k", 7)]) (by decide +kernel)) (fun s H C cl fp => (gg_name (j := 7) sc_law_goes_round.nd rfl (by first | exact .inl rfl | exact .inr rfl))) (fun s H C cl fp => (gts_one (gw_pt (gw_and (gt_cmp (or_eq hr.units) od_eq (gb_e (ge_ix (gb_e (ge_ix (gvb 0) (gvb 7))) (gb_e ge_int))) (gvb 4) rfl) (gw_and1 (gt_cmp or_notin od_notin (gvb 7) (gvb 3) rfl)))))) (fun s H C cl fp => (gv 7)))
      (gss_cons (gs_if (gw_pt (gw_or (gt_cmp (or_ne hr.units) od_ne (gb_e (ge_callB cr_len cd_len0 (by rfl) M.z_len (by decide +kernel) (gab_cons (gvb 6) gab_nil))) (gb_e ge_int) rfl) (gw_or1 (gt_cmp or_in od_in (gvb 4) (gb_e (ge_n (gn_lc' rfl sc_law_goes_round.nd (gi_srcB (gvb 3)) (blkOk_by (N := N_law_goes_round) (sc := (defScope st_law_goes_round)) (own := [("_law_k", 7)]) (by decide +kernel)) (fun s H C cl fp => (gg_name (j := 7) sc_law_goes_round.nd rfl (by first | exact .inl rfl | exact .inr rfl))) (fun s H C cl fp => gts_nil) (fun s H C cl fp => (ge_ix (gb_e (ge_ix (gvb 0) (gvb 7))) (gb_e ge_int)))))) rfl)))) (gss_one (gs_ret ge_bl)) gss_nil)
      (gss_cons (gs_append 3 (ge_ix (gvb 6) (gb_e ge_int)))
      (gss_one (gs_set (i := 4) sc_law_goes_round.nd rfl (by first | exact .inl rfl | exact .inr rfl) (ge_ix (gb_e (ge_ix (gvb 0) (gb_e (ge_ix (gvb 6) (gb_e ge_int))))) (gb_e ge_int))))))))
      (gss_one (gs_ret (ge_and (ge_cmp (or_eq hr.units) od_eq (gvb 4) (gvb 2) rfl) (ge_one (ge_cmp (or_eq hr.units) od_eq (gb_e (ge_callB cr_len cd_len0 (by rfl) M.z_len (by decide +kernel) (gab_cons (gvb 3) gab_nil))) (gb_e (ge_callB cr_len cd_len0 (by rfl) M.z_len (by decide +kernel) (gab_cons (gvb 1) gab_nil))) rfl))))))))), law_law_goes_round⟩

-- law_flip depth 1
theorem ok_law_flip (M : Mo K mg g ad fd) : FnOk P w K mg base CX0 1 (ad 21) (fd 21) ["_law_leaning_here", "_law_lot"] (spOf K g S_law_flip) :=
  def_ok M.f_law_flip sc_law_flip S_law_flip_len fun cdv A outer s H E hr => ⟨d_law_flip,
    (gss_one (gs_ret (ge_mtS PySem.F.slot_str_join PySem.F.type_str_join mt_join md_join (gb_e ge_str) (gab_cons (gb_e (ge_n (gn_lc' rfl sc_law_flip.nd (gi_enumB (by rfl) M.z_enumerate (gvb 0)) (blkOk_by (N := N_law_flip) (sc := (defScope st_law_flip)) (own := [("_law_k", 2), ("_law_sign", 3)]) (by decide +kernel)) (fun s H C cl fp => (gg_tupK K rfl (ggs_cons (gg_name (j := 2) sc_law_flip.nd rfl (by first | exact .inl rfl | exact .inr rfl)) (ggs_cons (gg_name (j := 3) sc_law_flip.nd rfl (by first | exact .inl rfl | exact .inr rfl)) ggs_nil)))) (fun s H C cl fp => gts_nil) (fun s H C cl fp => (ge_if (gt_cmp or_in od_in (gvb 2) (gvb 1) rfl) (ge_if (gt_cmp (or_eq hr.units) od_eq (gvb 3) (gb_e ge_str) rfl) ge_str ge_str) (gv 3)))))) gab_nil)))), law_law_flip⟩

-- law_row depth 1
theorem ok_law_row (M : Mo K mg g ad fd) : FnOk P w K mg base CX0 1 (ad 22) (fd 22) ["_law_places_here", "_law_ways_here"] (spOf K g S_law_row) :=
  def_ok M.f_law_row sc_law_row S_law_row_len fun cdv A outer s H E hr => ⟨d_law_row,
    (gss_one (gs_ret (ge_callTy cr_tuple cd_tuple (by rfl) M.z_tuple (by decide +kernel) (gab_cons (gb_e (ge_n (gn_lc' rfl sc_law_row.nd (gi_srcB (gvb 0)) (blkOk_by (N := N_law_row) (sc := (defScope st_law_row)) (own := [("_law_place", 2)]) (by decide +kernel)) (fun s H C cl fp => (gg_name (j := 2) sc_law_row.nd rfl (by first | exact .inl rfl | exact .inr rfl))) (fun s H C cl fp => gts_nil) (fun s H C cl fp => (ge_callB cr_len cd_len0 (by rfl) M.z_len (by decide +kernel) (gab_cons (gb_e (ge_n (gn_lc' rfl sc_law_row.nd (gi_srcB (gvb 1)) (blkOk_by (N := N_law_row) (sc := ({ kind := PySem.ScopeKind.function, names := [(PySem.Str.ofString ".0", PySem.NameKind.local), (PySem.Str.ofString "_law_place", PySem.NameKind.cell), (PySem.Str.ofString "len", PySem.NameKind.globalImplicit), (PySem.Str.ofString "_law_ways_here", PySem.NameKind.cell)], isGenerator := false, isCoroutine := false, more := [] : PySem.Scope })) (own := [("_law_way", 3)]) (by decide +kernel)) (fun s H C cl fp => (gg_name (j := 3) sc_law_row.nd rfl (by first | exact .inl rfl | exact .inr rfl))) (fun s H C cl fp => (gts_one (gt_cmp (or_eq hr.units) od_eq (gb_e (ge_ix (gvb 3) (gb_e ge_int))) (gvb 2) rfl))) (fun s H C cl fp => (gv 3))))) gab_nil)))))) gab_nil)))), law_law_row⟩

-- law_shown depth 2
theorem ok_law_shown (M : Mo K mg g ad fd) : FnOk P w K mg base CX0 2 (ad 23) (fd 23) ["_law_mine", "_law_leaning_here", "_law_other", "_law_told"] (spOf K g S_law_shown) :=
  def_ok M.f_law_shown sc_law_shown S_law_shown_len fun cdv A outer s H E hr => ⟨d_law_shown,
    (gss_cons (gs_if (gt_not (gt_val (ge_isi M.wty (.ty "tuple") (pe_bltn (by rfl) M.z_tuple rfl rfl) (by intro x b h; cases x <;> simp only [isTupD] at h <;> first | (cases h; exact kit_ty (by decide +kernel)) | cases h) (by rfl) M.z_isinstance (gvb 3)))) (gss_one (gs_ret ge_bl)) gss_nil)
      (gss_cons (gs_asg (ge_tup (gal_cons (ge_call (ok_law_ways M) (hr.mono (by decide)) (by rfl) M.m_law_ways M.f_law_ways.kp M.b_law_ways (ga_cons (ge_ties M.wty.cls M.nt (gv 0)) (ga_cons (gv 1) ga_nil))) (gal_cons (ge_n (gn_lst gal_nil)) gal_nil))) (gg_tupK K rfl (ggs_cons (gg_name (j := 4) sc_law_shown.nd rfl (by first | exact .inl rfl | exact .inr rfl)) (ggs_cons (gg_name (j := 5) sc_law_shown.nd rfl (by first | exact .inl rfl | exact .inr rfl)) ggs_nil))))
      (gss_cons (gs_for PassesOwn.never rfl (gi_src (gv 3)) (gg_name (j := 6) sc_law_shown.nd rfl (by first | exact .inl rfl | exact .inr rfl))
      (gss_cons (gs_if (gw_pt (gw_or (gt_not (gt_val (ge_isi M.wty (.ty "tuple") (pe_bltn (by rfl) M.z_tuple rfl rfl) (by intro x b h; cases x <;> simp only [isTupD] at h <;> first | (cases h; exact kit_ty (by decide +kernel)) | cases h) (by rfl) M.z_isinstance (gvb 6)))) (gw_or (gt_cmp (or_ne hr.units) od_ne (gb_e (ge_n (gn_callTy (cr_list rfl) cn_list (by rfl) M.z_list (by decide +kernel) (gab_cons (gvb 6) gab_nil)))) (gb_e (ge_n (gn_sortSet rfl (by rfl) M.z_sorted (by rfl) M.z_set (gv 6)))) rfl) (gw_or1 (gt_not (gt_val (ge_call (ok_law_goes_round M) (hr.mono (by decide)) (by rfl) M.m_law_goes_round M.f_law_goes_round.kp M.b_law_goes_round (ga_cons (gv 4) (ga_cons (gv 6) ga_nil))))))))) (gss_one (gs_ret ge_bl)) gss_nil)
      (gss_cons (gs_if (gt_cmp (or_ne hr.units) od_ne (gb_e (ge_n (gn_lc' rfl sc_law_shown.nd (gi_srcB (gvb 6)) (blkOk_by (N := N_law_shown) (sc := (defScope st_law_shown)) (own := [("_law_k", 7)]) (by decide +kernel)) (fun s H C cl fp => (gg_name (j := 7) sc_law_shown.nd rfl (by first | exact .inl rfl | exact .inr rfl))) (fun s H C cl fp => (gts_one (gt_cmp or_in od_in (gvb 7) (gvb 5) rfl))) (fun s H C cl fp => (gv 7))))) (gb_e (ge_n (gn_lst gal_nil))) rfl) (gss_one (gs_ret ge_bl)) gss_nil)
      (gss_one (gs_set (i := 5) sc_law_shown.nd rfl (by first | exact .inl rfl | exact .inr rfl) (ge_op or_add od_add (gvb 5) (gb_e (ge_n (gn_callTy (cr_list rfl) cn_list (by rfl) M.z_list (by decide +kernel) (gab_cons (gvb 6) gab_nil))))))))))
      (gss_one (gs_ret (ge_cmp (or_eq hr.units) od_eq (gb_e (ge_call (ok_law_flip M) (hr.mono (by decide)) (by rfl) M.m_law_flip M.f_law_flip.kp M.b_law_flip (ga_cons (gv 1) (ga_cons (gv 5) ga_nil)))) (gvb 2) rfl)))))), law_law_shown⟩

-- law_near depth 2
theorem ok_law_near (M : Mo K mg g ad fd) : FnOk P w K mg base CX0 2 (ad 24) (fd 24) ["_law_purse_here", "_law_ties_here", "_law_leaning_here"] (spOf K g S_law_near) :=
  def_ok M.f_law_near sc_law_near S_law_near_len fun cdv A outer s H E hr => ⟨d_law_near,
    (gss_cons (gs_for PassesOwn.never rfl (gi_range (by rfl) M.z_range ge_int) (gg_name (j := 3) sc_law_near.nd rfl (by first | exact .inl rfl | exact .inr rfl))
      (gss_cons (gs_set (i := 4) sc_law_near.nd rfl (by first | exact .inl rfl | exact .inr rfl) (ge_call (ok_law_ways M) (hr.mono (by decide)) (by rfl) M.m_law_ways M.f_law_ways.kp M.b_law_ways (ga_cons (gv 1) (ga_cons (gv 2) ga_nil))))
      (gss_cons (gs_set (i := 5) sc_law_near.nd rfl (by first | exact .inl rfl | exact .inr rfl) (ge_callTy cr_tuple cd_tuple (by rfl) M.z_tuple (by decide +kernel) (gab_cons (gb_e (ge_n (gn_lc' rfl sc_law_near.nd (gi_bor (gi_range (by rfl) M.z_range (ge_callB cr_len cd_len0 (by rfl) M.z_len (by decide +kernel) (gab_cons (gvb 1) gab_nil)))) (blkOk_by (N := N_law_near) (sc := (defScope st_law_near)) (own := [("_law_k", 6)]) (by decide +kernel)) (fun s H C cl fp => (gg_name (j := 6) sc_law_near.nd rfl (by first | exact .inl rfl | exact .inr rfl))) (fun s H C cl fp => (gts_one (gt_cmp (or_eq hr.units) od_eq (gb_e (ge_call (ok_law_take M) (hr.mono (by decide)) (by rfl) M.m_law_take M.f_law_take.kp M.b_law_take (ga_cask 0 (ga_cons ge_int ga_nil)))) (gb_e ge_int) rfl))) (fun s H C cl fp => (gv 6))))) gab_nil)))
      (gss_one (gs_set (i := 2) sc_law_near.nd rfl (by first | exact .inl rfl | exact .inr rfl) (ge_if (gt_val (ge_call (ok_law_goes_round M) (hr.mono (by decide)) (by rfl) M.m_law_goes_round M.f_law_goes_round.kp M.b_law_goes_round (ga_cons (gv 4) (ga_cons (gv 5) ga_nil)))) (ge_call (ok_law_flip M) (hr.mono (by decide)) (by rfl) M.m_law_flip M.f_law_flip.kp M.b_law_flip (ga_cons (gv 2) (ga_cons (gv 5) ga_nil))) (gv 2)))))))
      (gss_one (gs_ret (gv 2)))), law_law_near⟩

-- law_right depth 7
theorem ok_law_right (M : Mo K mg g ad fd) : FnOk P w K mg base CX0 7 (ad 25) (fd 25) ["_law_purse_here"] (spOf K g S_law_right) :=
  def_ok M.f_law_right sc_law_right S_law_right_len fun cdv A outer s H E hr => ⟨d_law_right,
    (gss_cons (gs_asg (ge_call (ok_law_web M) (hr.mono (by decide)) (by rfl) M.m_law_web M.f_law_web.kp M.b_law_web (ga_cask 0 (ga_cons ge_int (ga_cons ge_int ga_nil)))) (gg_tupK K rfl (ggs_cons (gg_name (j := 1) sc_law_right.nd rfl (by first | exact .inl rfl | exact .inr rfl)) (ggs_cons (gg_name (j := 2) sc_law_right.nd rfl (by first | exact .inl rfl | exact .inr rfl)) ggs_nil))))
      (gss_cons (gs_set (i := 3) sc_law_right.nd rfl (by first | exact .inl rfl | exact .inr rfl) (ge_make M (hr.mono (by decide)) (by rfl) (ga_cons (gv 1) (ga_cons (gv 2) ga_nil))))
      (gss_cons (gs_for PassesOwn.never rfl (gi_range (by rfl) M.z_range ge_int) (gg_name (j := 4) sc_law_right.nd rfl (by first | exact .inl rfl | exact .inr rfl))
      (gss_cons (gs_set (i := 5) sc_law_right.nd rfl (by first | exact .inl rfl | exact .inr rfl) (ge_call (ok_law_lean M) (hr.mono (by decide)) (by rfl) M.m_law_lean M.f_law_lean.kp M.b_law_lean (ga_cask 0 (ga_cons (gv 2) ga_nil))))
      (gss_one (gs_for PassesOwn.never rfl (gi_src (ge_n (gn_lst (gal_cons (ge_call (ok_law_near M) (hr.mono (by decide)) (by rfl) M.m_law_near M.f_law_near.kp M.b_law_near (ga_cask 0 (ga_cons (gv 2) (ga_cons (gv 5) ga_nil)))) (gal_cons (ge_call (ok_law_lean M) (hr.mono (by decide)) (by rfl) M.m_law_lean M.f_law_lean.kp M.b_law_lean (ga_cask 0 (ga_cons (gv 2) ga_nil))) (gal_cons (gv 5) gal_nil)))))) (gg_name (j := 6) sc_law_right.nd rfl (by first | exact .inl rfl | exact .inr rfl))
      (gss_cons (gs_setLc' (i := 7) rfl sc_law_right.nd rfl rfl rfl (gi_srcB (gb_e (ge_n (gn_lst (gal_cons (gv 5) (gal_cons (gv 6) gal_nil)))))) (blkOk_by (N := N_law_right) (sc := (defScope st_law_right)) (own := [("_law_each", 9)]) (by decide +kernel)) (fun s H C cl fp => (gg_name (j := 9) sc_law_right.nd rfl (by first | exact .inl rfl | exact .inr rfl))) (fun s H C cl fp => gts_nil) (fun s H C cl fp => (ge_call (ok_law_row M) (hr.mono (by decide)) (by rfl) M.m_law_row M.f_law_row.kp M.b_law_row (ga_cons (gv 1) (ga_cons (ge_call (ok_law_ways M) (hr.mono (by decide)) (by rfl) M.m_law_ways M.f_law_ways.kp M.b_law_ways (ga_cons (gv 2) (ga_cons (gv 9) ga_nil))) ga_nil)))))
      (gss_cons (gs_set (i := 8) sc_law_right.nd rfl (by first | exact .inl rfl | exact .inr rfl) (ge_n (gn_lst (gal_cons (ge_call (ok_turning_rings M) (hr.mono (by decide)) (by rfl) M.m_turning_rings M.f_turning_rings.kp M.b_turning_rings (ga_cons (gv 3) (ga_cons (gv 5) (ga_cons (gv 6) ga_nil)))) (gal_cons (ge_callK (ok_turning_rings M) (hr.mono (by decide)) (by rfl) M.m_turning_rings M.f_turning_rings.kp M.kw_turning_rings pm3_rel rfl (gk_cons (gv 6) (mono_var _) (gk_cons (gv 5) (mono_var _) (gk_cons (gv 3) (mono_var _) gk_nil))) rfl) gal_nil)))))
      (gss_one (gs_if (gt_cmp (or_ne hr.units) od_ne (gb_e (ge_ix (gvb 7) (gb_e ge_int))) (gb_e (ge_ix (gvb 7) (gb_e ge_int))) rfl) (gss_one (gs_if (gt_cmp (or_ne hr.units) od_ne (gvb 8) (gb_e (ge_n (gn_lst (gal_cons ge_non (gal_cons ge_non gal_nil))))) rfl) (gss_one (gs_ret ge_bl)) gss_nil)) (gss_one (gs_if (gw_pt (gw_or (gt_not (gt_val (ge_call (ok_law_shown M) (hr.mono (by decide)) (by rfl) M.m_law_shown M.f_law_shown.kp M.b_law_shown (ga_cons (gv 3) (ga_cons (gv 5) (ga_cons (gv 6) (ga_cons (ge_ix (gvb 8) (gb_e ge_int)) ga_nil))))))) (gw_or1 (gt_not (gt_val (ge_call (ok_law_shown M) (hr.mono (by decide)) (by rfl) M.m_law_shown M.f_law_shown.kp M.b_law_shown (ga_cons (gv 3) (ga_cons (gv 5) (ga_cons (gv 6) (ga_cons (ge_ix (gvb 8) (gb_e ge_int)) ga_nil)))))))))) (gss_one (gs_ret ge_bl)) gss_nil))))))))))
      (gss_one (gs_ret ge_bl))))), law_law_right⟩
end K23
namespace K23
open PySem L2 G
variable {P : Program} {w : World} {K : PySem.W.Frag} {mg : Str → Option Value} {base : Heap} {g : Gp} {ad : Nat → Addr} {fd : Nat → FuncData}
def spPurse (K : PySem.W.Frag) : Sp := fun vs H Q _ => ∃ (a : Addr) (ns : List Int) (k : Nat), vs = [.ref a, .int (k : Nat)] ∧ SqL K H a (ns.map V.int) ∧ k < 1000 ∧ ns.length ≤ 63 ∧
  ∀ p H' (s f : Int), Ex H H' → H p = none → H' p = some (.lst [.int s, .int f, .int 0]) → 0 ≤ s → s < 2147483399 → 0 ≤ f → Q (.ref p) H'
theorem sqL_ex {H H' : Hp} {a : Addr} {xs : List V} (e : Ex H H') (h : SqL K H a xs) : SqL K H' a xs := Evl.ex_l e h
theorem ok_purse (M : Mo K mg g ad fd) : FnOk P w K mg base CX0 1 (ad 14) (fd 14) ["_law_script", "_law_k"] (spPurse K) := by
  refine M.f_law_purse.ok sc_law_purse (fun vs H Q E h => ?_) (fun cdv A outer s H vs Q E hr h => ?_)
  · obtain ⟨a, ns, k, rfl, _⟩ := h
    rfl
  · obtain ⟨a, ns, k, rfl, hS, hk, hlen, q⟩ := h
    -- the end, from any cell
    obtain ⟨t3, p3, fin'⟩ : ∃ t, PSs (cxOf CX0 P w K mg base N_law_purse "_law_purse" (defScope st_law_purse) (ad 14) cdv A outer s H E).nox ((defBody st_law_purse).drop 2) t ∧ ∀ (H1 : Hp) (cell : Int) (y3 : Option V), Ex H H1 → t { nx := fun _ H' => Q .non H', rt := Q } [some (.ref a), some (.int (k : Nat)), some (.int cell), y3, none] H1 := by
      refine ⟨_, pss_cons (ps_set (i := 4) sc_law_purse.nd rfl (.inl rfl) (pe_ifExp (PW.pt (pw_or (pt_cmpR op_lt (pv 2) pe_int (nomark _)) (pw_or1 (pt_cmpR op_ge (pv 2) (pe_op op_pow pe_int pe_int) (nomark _))))) (pe_callB call_abs (by rfl) M.z_abs (by decide +kernel) (pa_cons (pv 2) pa_nil)) pe_int))
        (pss_one (ps_ret (pe_lst (pa_cons (pe_op op_mod (pe_callTy call_int1 (by rfl) M.z_int (by decide +kernel) (pa_cons (pv 2) pa_nil)) pe_int) (pa_cons (pv 4) (pa_cons pe_int pa_nil)))))), fun H1 cell y3 e1 => ?_⟩
      have ret : ∀ f : Int, 0 ≤ f → tRet (tLst (tCons (tOp (rI (fun _ j => 0 < j) fun i j => .int (i % j)) (tCB (fun xs H Q => (∃ i, xs = [.int i] ∧ Q (.int i) H) ∨ ∃ k, xs = [.bl k] ∧ Q (.int (if k then 1 else 0)) H) (tCons (tVar 2) tNil)) (tC (.int 2147483399))) (tCons (tVar 4) (tCons (tC (.int 0)) tNil)))) { nx := fun _ H' => Q .non H', rt := Q } [some (.ref a), some (.int (k : Nat)), some (.int cell), y3, some (.int f)] H1 := by
        intro f hf
        refine ⟨_, rfl, .inl ⟨cell, rfl, cell, 2147483399, rfl, rfl, (show (0 : Int) < 2147483399 by decide), _, rfl, (ll (show 3 ≤ LL by decide)), fun p hp => ?_⟩⟩
        have hp0 : H p = none := ex_none e1 hp
        exact q p _ _ f (e1.trans (Evl.Ex.new hp)) hp0 upd_same (Int.emod_nonneg _ (by decide)) (Int.emod_lt_of_pos _ (by decide)) hf
      refine ⟨_, rfl, cell, 0, rfl, rfl, _, rfl, ?_⟩
      by_cases h1 : cell < 0
      · rw [decide_eq_true h1]
        refine ⟨_, rfl, cell, rfl, ?_⟩
        rw [if_pos h1]
        exact ret _ (by omega)
      · rw [decide_eq_false h1]
        refine ⟨_, rfl, 10, 18, rfl, rfl, ⟨by decide, by decide, by decide⟩, cell, _, rfl, rfl, _, rfl, ?_⟩
        by_cases h2 : ((10 : Int) ^ (18 : Int).toNat) ≤ cell
        · rw [decide_eq_true h2]
          refine ⟨_, rfl, cell, rfl, ?_⟩
          rw [if_neg h1]
          exact ret _ (by omega)
        · rw [decide_eq_false h2]
          exact ret _ (by omega)
    obtain ⟨t2, p2, two⟩ : ∃ t, PSs (cxOf CX0 P w K mg base N_law_purse "_law_purse" (defScope st_law_purse) (ad 14) cdv A outer s H E).nox ((defBody st_law_purse).drop 1) t ∧ ∀ (cell : Int), t { nx := fun _ H' => Q .non H', rt := Q } [some (.ref a), some (.int (k : Nat)), some (.int cell), none, none] H := by
      refine ⟨_, pss_cons (ps_if (pt_cmpR op_ge (pv 1) (pe_callB call_len_seq (by rfl) M.z_len PySem.boot_len (pa_cons (pv 0) pa_nil)) (nomark _))
        (pss_one (ps_for PassesOwn.never rfl (pi_list (pe_slice sl_list (pv 0) po_none (po_some pe_int))) (pg_name (i := 3) sc_law_purse.nd rfl (.inl rfl))
          (pss_one (ps_set (i := 2) sc_law_purse.nd rfl (.inl rfl) (pe_op op_mod (pe_callTy call_int1 (by rfl) M.z_int (by decide +kernel) (pa_cons (pe_op op_add (pe_op op_mul (pv 2) pe_int) (pe_op op_mul (pv 3) (pe_op op_add (pv 1) pe_int))) pa_nil)) pe_int))))) pss_nil) p3, fun cell => ?_⟩
      refine ⟨_, rfl, _, rfl, a, ns.map V.int, rfl, .inl hS, (k : Nat), _, rfl, rfl, _, rfl, ?_⟩
      by_cases hge : (((ns.map V.int).length : Nat) : Int) ≤ (k : Nat)
      · rw [decide_eq_true hge]
        refine ⟨_, rfl, 4, rfl, a, ns.map V.int, rfl, hS, fun p hp => ?_⟩
        have e1 : Ex H (upd H p (.lst (cutV (ns.map V.int) none (some 4)))) := Evl.Ex.new hp
        have hP : SqL K (upd H p (.lst (cutV (ns.map V.int) none (some 4)))) p (cutV (ns.map V.int) none (some 4)) := SqL.of upd_same
        obtain ⟨ms, hms⟩ : ∃ ms : List Int, cutV (ns.map V.int) none (some 4) = ms.map V.int := ⟨(ns.drop (HT.sIx (ns.map V.int).length 0 none)).take (HT.sIx (ns.map V.int).length (ns.map V.int).length (some 4) - HT.sIx (ns.map V.int).length 0 none), by
          unfold cutV; rw [← List.map_drop, ← List.map_take]⟩
        rw [hms] at hP e1 ⊢
        generalize upd H p (.lst (ms.map V.int)) = H1 at *
        refine ⟨p, rfl, ⟨_, hP⟩, fun i m σ H3 => ∃ (cell : Int) (y3 : Option V), σ = [some (.ref a), some (.int (k : Nat)), some (.int cell), y3, none] ∧ i + m = ms.length ∧ H3 = H1, ⟨ms.length, cell, none, rfl, by omega, rfl⟩, fun i m σ H3 hW => ?_⟩
        obtain ⟨cell2, y3, rfl, em, rfl⟩ := hW
        by_cases hi : i < ms.length
        · have gi : (ms.map V.int)[i]? = some (.int ms[i]) := by rw [List.getElem?_map, List.getElem?_eq_getElem hi]; rfl
          refine .inr ⟨⟨_, _, hP, gi⟩, fun σ' H' => ∃ (cell : Int) (y3 : Option V), σ' = [some (.ref a), some (.int (k : Nat)), some (.int cell), y3, none] ∧ H' = H3, fun σ' H' hN => ?_, fun v H' hy => ?_⟩
          · obtain ⟨c3, z3, e1, e2⟩ := hN
            exact ⟨m - 1, by omega, c3, z3, e1, by omega, e2⟩
          · obtain ⟨rfl, fv⟩ := hy
            have ev : v = .int ms[i] := Option.some.inj ((fv _ hP).symm.trans gi)
            subst ev
            refine ⟨_, rfl, cell2, 49999, rfl, rfl, .inr ⟨by decide, by decide⟩, _, rfl, _, rfl, (k : Nat), 7, rfl, rfl, ms[i], _, rfl, rfl, .inr ⟨by omega, by omega⟩, _, _, rfl, rfl, .inl ⟨_, rfl, _, 2147483423, rfl, rfl, (show (0 : Int) < 2147483423 by decide), _, _, rfl, rfl⟩⟩
        · refine .inl ⟨⟨_, hP, ?_⟩, fin' H3 cell2 y3 e1⟩
          rw [List.length_map]; omega
      · rw [decide_eq_false hge]
        exact fin' H cell none (fun _ _ h => h)
    refine ⟨_, pss_cons (ps_set (i := 2) sc_law_purse.nd rfl (.inl rfl) (pe_ifExp (pt_cmpR op_lt (pv 1) (pe_callB call_len_seq (by rfl) M.z_len PySem.boot_len (pa_cons (pv 0) pa_nil)) (nomark _)) (pe_ix ix_list (pv 0) (pv 1) (fun _ _ => rfl)) (pe_op op_add (pe_op op_mul pe_int (pv 1)) pe_int))) p2, ?_⟩
    refine ⟨_, rfl, _, rfl, a, ns.map V.int, rfl, .inl hS, (k : Nat), _, rfl, rfl, _, rfl, ?_⟩
    by_cases hlt : ((k : Nat) : Int) < ((ns.map V.int).length : Nat)
    · rw [decide_eq_true hlt]
      rw [List.length_map] at hlt
      have hk' : k < ns.length := by omega
      exact ⟨_, rfl, _, rfl, a, ns.map V.int, (k : Nat), .int ns[k], rfl, rfl, hS, atI_nat (by rw [List.getElem?_map, List.getElem?_eq_getElem hk']; rfl), two ns[k]⟩
    · rw [decide_eq_false hlt]
      exact ⟨_, rfl, 5003, (k : Nat), rfl, rfl, .inl ⟨by decide, by decide⟩, _, 71, rfl, rfl, two _⟩
end K23
namespace K23
open PySem L2 G
variable {P : Program} {w : World} {K : PySem.W.Frag} {mg : Str → Option Value} {base : Heap} {g : Gp} {ad : Nat → Addr} {fd : Nat → FuncData}
/-- len(script) -/
def dLenScr (i : Nat) : DE := fun env m Q => ∃ ns, env[i]? = some (.scr ns) ∧ Q (.int (ns.length : Nat)) m
theorem ge_lenScr {X : Cx} (i : Nat) {x : Str} {p p2 pos : Pos} (hg : Gl X "len") (hm : X.mg "len" = none) (hN : X.N[i]? = some x := by rfl) (hv : Vis X.env.scope x := by first | exact Or.inl rfl | exact Or.inr (Or.inl rfl) | exact Or.inr (Or.inr rfl)) (hd : (x == ("__debug__" : Str)) = false := by decide)
    (hcd : (x == ("__classdict__" : Str)) = false := by decide) (hs : starEach [.Name x p2] X.env = (false, eval (.Name x p2) X.env) :: starEach [] X.env := by rfl) : GE g X (.Call (.Name "len" p) [.Name x p2] [] pos) (dLenScr i) :=
  PE.weak (pe_callB call_len_seq hg hm PySem.boot_len (pa_cons (pe_var hN hv hd hcd) pa_nil hs) (by decide) (by decide) hs rfl) fun σ H Q ⟨c, F, env, m, Q1, r, ⟨ns, hns, q⟩, kk⟩ => by
    obtain ⟨a, e, h⟩ := r.slot i _ hns
    refine ⟨_, e, a, ns.map V.int, rfl, .inl (Evl.ex_l r.sub h), ?_⟩
    rw [List.length_map]
    exact kk _ H F m _ r (Fresh.refl r.sub r.ck) (.int _) q
/-- _law_right(_law_purse(script, k)) -/
def dRight (i j : Nat) : DE := fun env m Q => ∃ ns k, env[i]? = some (.scr ns) ∧ env[j]? = some (.val (natD k)) ∧ ns.length ≤ 63 ∧ k < 1000 ∧ Q (.bl true) m
theorem ge_right {X : Cx} (M : Mo X.K X.mg g ad fd) (i j : Nat) {x y : Str} {p p2 p3 p4 pos pos2 : Pos} (hr : Room 7 X.A) (hg1 : Gl X "_law_right") (hg2 : Gl X "_law_purse") (hN : X.N[i]? = some x := by rfl) (hv : Vis X.env.scope x := by first | exact Or.inl rfl | exact Or.inr (Or.inl rfl) | exact Or.inr (Or.inr rfl)) (hd : (x == ("__debug__" : Str)) = false := by decide)
    (hcd : (x == ("__classdict__" : Str)) = false := by decide) (hN2 : X.N[j]? = some y := by rfl) (hv2 : Vis X.env.scope y := by first | exact Or.inl rfl | exact Or.inr (Or.inl rfl) | exact Or.inr (Or.inr rfl)) (hd2 : (y == ("__debug__" : Str)) = false := by decide) (hcd2 : (y == ("__classdict__" : Str)) = false := by decide)
    (hs1 : starEach [.Name x p3, .Name y p4] X.env = (false, eval (.Name x p3) X.env) :: starEach [.Name y p4] X.env := by rfl) (hs2 : starEach [.Name y p4] X.env = (false, eval (.Name y p4) X.env) :: starEach [] X.env := by rfl)
    (hs3 : starEach [.Call (.Name "_law_purse" p2) [.Name x p3, .Name y p4] [] pos2] X.env = (false, eval (.Call (.Name "_law_purse" p2) [.Name x p3, .Name y p4] [] pos2) X.env) :: starEach [] X.env := by rfl) :
    GE g X (.Call (.Name "_law_right" p) [.Call (.Name "_law_purse" p2) [.Name x p3, .Name y p4] [] pos2] [] pos) (dRight i j) :=
  PE.weak (pe_call (ok_law_right M) hr hg1 M.m_law_right M.f_law_right.kp M.b_law_right .nil pass0 (pa_cons (pe_call (ok_purse M) (hr.mono (by decide)) hg2 M.m_law_purse M.f_law_purse.kp M.b_law_purse .nil pass0 (pa_cons (pe_var hN hv hd hcd) (pa_cons (pe_var hN2 hv2 hd2 hcd2) pa_nil hs2) hs1) (by decide) hs1 (by rw [hs2]; rfl)) pa_nil hs3) (by decide) hs3 rfl) fun σ H Q ⟨c, F, env, m, Q1, r, ⟨ns, k, h1, h2, hlen, hk, q⟩, kk⟩ => by
    obtain ⟨a, e1, hS⟩ := r.slot i _ h1
    obtain ⟨v, e2, rv⟩ := r.slot j _ h2
    have rv' : Rep X.K g F (.int (k : Nat)) v := rv
    cases rv'
    refine ⟨_, e1, _, e2, a, ns, k, rfl, Evl.ex_l r.sub hS, hk, hlen, fun pp H1 s f ex hp hH1 hs0 hs1 hf => ?_⟩
    have hF : F pp = none := ex_none r.sub hp
    refine ⟨some pp, F, [.cask], 0, fun d _ => d = .bl true, r.sub.trans ex, .cons ⟨pp, rfl, rfl⟩ .nil, fun b z => ?_, ⟨by decide, rfl, fun _ => rfl⟩, fun v2 H2 F2 m2 x2 fr _ rp ex2 => ?_⟩
    · cases z
      exact ⟨hF, _, hH1, by rw [M.ck]; exact ⟨s, f, 0, rfl, hs0, hs1, hf, by decide, by decide⟩⟩
    · subst ex2
      have ne : ∀ {b : Addr} {o : HO}, H b = some o → (some pp : Option Addr) ≠ some b := fun hb z => by cases z; rw [hp] at hb; cases hb
      have fresh : Fresh c F H F2 H2 := by
        refine ⟨fr.ff, fr.fh, fun b o hb _ => fr.hh b o (ex b o hb) (ne hb), fun b o hb => ?_, fun b z => ?_⟩
        · rcases fr.new b o hb with u | u
          · exact .inl u
          · exact .inr (ex_none ex u)
        · obtain ⟨u1, ys, u2, _⟩ := r.ck b z
          cases w2 : F2 b with
          | none => rfl
          | some o =>
            rcases fr.new b o w2 with u | u
            · rw [u1] at u; cases u
            · rw [ex b _ u2] at u; cases u
      have ck2 : Ck g c m F2 H2 := fun b z => by
        obtain ⟨u1, ys, u2, u3⟩ := r.ck b z
        exact ⟨fresh.nc b z, ys, fr.hh b _ (ex b _ u2) (ne u2), u3⟩
      exact kk v2 H2 F2 m _ (r.fresh fresh ck2) fresh rp q
def d_law : DS := dRet (dCallB allD (dConsL (dNew (dLc (dIRng (dCallB maxD2 (dConsL (dC (.int 2)) (dConsL (dCallB minD2 (dConsL (dLenScr 0) (dConsL (dC (.int 4)) dNilL))) dNilL)))) (tgN 1) dYes (dRight 0 1) [1])) dNilL))
def S_law : G.Spec := fun as m Q => ∃ ns, ns.length ≤ 63 ∧ as = [.scr ns] ∧ ∀ m', Q (.bl true) m'
theorem S_law_len : ∀ as m Q, S_law as m Q → as.length = 1 := by rintro as m Q ⟨_, _, rfl, _⟩; rfl
theorem law_law : ∀ as m Q, S_law as m Q → d_law (pad N_law as) m (fin Q) := by
  rintro as m Q ⟨ns, hlen, rfl, q⟩
  refine ⟨_, rfl, _, rfl, _, rfl, ?_⟩
  obtain ⟨n, hn, e⟩ : ∃ n : Nat, n ≤ 4 ∧ (if (if (4 : Int) < (ns.length : Nat) then (4 : Int) else (ns.length : Nat)) > 2 then (if (4 : Int) < (ns.length : Nat) then (4 : Int) else (ns.length : Nat)) else 2) = (n : Nat) := by
    refine ⟨(if (if (4 : Int) < (ns.length : Nat) then (4 : Int) else (ns.length : Nat)) > 2 then (if (4 : Int) < (ns.length : Nat) then (4 : Int) else (ns.length : Nat)) else 2).toNat, ?_, ?_⟩ <;> (repeat' split) <;> omega
  rw [e]
  refine ⟨(n : Nat), rfl, by omega, by omega, ?_⟩
  rw [natD_map]
  refine ⟨by rw [List.length_map, List.length_range]; have := llv; omega, ?_⟩
  refine lcR_m natD (fun _ => .bl true) (List.range n) m _ (fun i hi => ?_) ⟨_, all_true _, q m⟩
  have := List.mem_range.mp hi
  exact ⟨_, rfl, fun m Q q => ⟨ns, i, rfl, rfl, hlen, by omega, q⟩⟩
theorem ok_law (M : Mo K mg g ad fd) : FnOk P w K mg base CX0 8 (ad 26) (fd 26) ["_law_script"] (spOf K g S_law) :=
  def_ok M.f_law sc_law S_law_len fun cdv A outer s H E hr => ⟨d_law,
    (gss_one (gs_ret (ge_callB (cr_all rfl) cd_all (by rfl) M.z_all (by decide +kernel) (gab_cons (gb_e (ge_n (gn_lc' rfl sc_law.nd (gi_bor (gi_range (by rfl) M.z_range (ge_callB (cr_max2 rfl) cd_max2 (by rfl) M.z_max (by decide +kernel) (gab_cons (gb_e ge_int) (gab_cons (gb_e (ge_callB (cr_min2 rfl) cd_min2 (by rfl) M.z_min (by decide +kernel) (gab_cons (gb_e (ge_lenScr 0 (by rfl) M.z_len)) (gab_cons (gb_e ge_int) gab_nil)))) gab_nil))))) (blkOk_by (N := N_law) (sc := defScope st_law) (own := [("_law_k", 1)]) (by decide +kernel)) (fun s H C cl fp => gg_name (j := 1) sc_law.nd rfl (.inl rfl)) (fun s H C cl fp => gts_nil) (fun s H C cl fp => ge_right M 0 1 hr (by rfl) (by rfl))))) gab_nil)))), law_law⟩
end K23
namespace K23
open PySem L2 G
def spLaw (K : PySem.W.Frag) : Sp := fun vs H Q _ => ∃ (a : Addr) (ns : List Int), vs = [.ref a] ∧ SqL K H a (ns.map V.int) ∧ ns.length ≤ 63 ∧ ∀ H', Q (.bl true) H'
theorem all_mk {P : Program} {w : World} {K : PySem.W.Frag} {h : Heap} {mg : Str → Option Value} {fa C f0 f1 f2 f3 f4 f5 f6 f7 f8 f9 f10 f11 f12 f13 f14 f15 f16 f17 f18 f19 f20 f21 f22 f23 f24 f25 f26 : Addr} (X : K.In h) (G : h.Ns mainGlobals mg) (hfa : mg "law" = some (.ref fa))
    {od0 an0 : Option Addr} {sl0 : Array (Option Value)} {oc0 kV0 dc0 pm0 cd0 ct0 : Value}
    {od1 an1 : Option Addr} {sl1 : Array (Option Value)} {oc1 kV1 dc1 pm1 cd1 ct1 : Value}
    {od2 an2 : Option Addr} {sl2 : Array (Option Value)} {oc2 kV2 dc2 pm2 cd2 ct2 : Value}
    {od3 an3 : Option Addr} {sl3 : Array (Option Value)} {oc3 kV3 dc3 pm3 cd3 ct3 : Value}
    {od4 an4 : Option Addr} {sl4 : Array (Option Value)} {oc4 kV4 dc4 pm4 cd4 ct4 : Value}
    {od5 an5 : Option Addr} {sl5 : Array (Option Value)} {oc5 kV5 dc5 pm5 cd5 ct5 : Value}
    {od6 an6 : Option Addr} {sl6 : Array (Option Value)} {oc6 kV6 dc6 pm6 cd6 ct6 : Value}
    {od7 an7 : Option Addr} {sl7 : Array (Option Value)} {oc7 kV7 dc7 pm7 cd7 ct7 : Value}
    {od8 an8 : Option Addr} {sl8 : Array (Option Value)} {oc8 kV8 dc8 pm8 cd8 ct8 : Value}
    {od9 an9 : Option Addr} {sl9 : Array (Option Value)} {oc9 kV9 dc9 pm9 cd9 ct9 : Value}
    {od10 an10 : Option Addr} {sl10 : Array (Option Value)} {oc10 kV10 dc10 pm10 cd10 ct10 : Value}
    {od11 an11 : Option Addr} {sl11 : Array (Option Value)} {oc11 kV11 dc11 pm11 cd11 ct11 : Value}
    {od12 an12 : Option Addr} {sl12 : Array (Option Value)} {oc12 kV12 dc12 pm12 cd12 ct12 : Value}
    {od13 an13 : Option Addr} {sl13 : Array (Option Value)} {oc13 kV13 dc13 pm13 cd13 ct13 : Value}
    {od14 an14 : Option Addr} {sl14 : Array (Option Value)} {oc14 kV14 dc14 pm14 cd14 ct14 : Value}
    {od15 an15 : Option Addr} {sl15 : Array (Option Value)} {oc15 kV15 dc15 pm15 cd15 ct15 : Value}
    {od16 an16 : Option Addr} {sl16 : Array (Option Value)} {oc16 kV16 dc16 pm16 cd16 ct16 : Value}
    {od17 an17 : Option Addr} {sl17 : Array (Option Value)} {oc17 kV17 dc17 pm17 cd17 ct17 : Value}
    {od18 an18 : Option Addr} {sl18 : Array (Option Value)} {oc18 kV18 dc18 pm18 cd18 ct18 : Value}
    {od19 an19 : Option Addr} {sl19 : Array (Option Value)} {oc19 kV19 dc19 pm19 cd19 ct19 : Value}
    {od20 an20 : Option Addr} {sl20 : Array (Option Value)} {oc20 kV20 dc20 pm20 cd20 ct20 : Value}
    {od21 an21 : Option Addr} {sl21 : Array (Option Value)} {oc21 kV21 dc21 pm21 cd21 ct21 : Value}
    {od22 an22 : Option Addr} {sl22 : Array (Option Value)} {oc22 kV22 dc22 pm22 cd22 ct22 : Value}
    {od23 an23 : Option Addr} {sl23 : Array (Option Value)} {oc23 kV23 dc23 pm23 cd23 ct23 : Value}
    {od24 an24 : Option Addr} {sl24 : Array (Option Value)} {oc24 kV24 dc24 pm24 cd24 ct24 : Value}
    {od25 an25 : Option Addr} {sl25 : Array (Option Value)} {oc25 kV25 dc25 pm25 cd25 ct25 : Value}
    {od26 an26 : Option Addr} {sl26 : Array (Option Value)} {oc26 kV26 dc26 pm26 cd26 ct26 : Value}
    (a0 : PySem.W.nsIn K mainGlobals "are_letters" = some (some (.ref f0)))
    (l0 : K.lookup f0 = some ⟨oc0, od0, .func (PySem.W.fnOf "are_letters" "are_letters" (defArgs st_are_letters) (defBody st_are_letters) (defScope st_are_letters) .none kV0 dc0 pm0 an0 cd0 ct0), sl0⟩) (c0 : PySem.W.codeIn K cd0 "are_letters" = true) (k0 : PySem.W.keepIn K (.ref f0) = true)
    (a1 : PySem.W.nsIn K mainGlobals "are_places" = some (some (.ref f1)))
    (l1 : K.lookup f1 = some ⟨oc1, od1, .func (PySem.W.fnOf "are_places" "are_places" (defArgs st_are_places) (defBody st_are_places) (defScope st_are_places) .none kV1 dc1 pm1 an1 cd1 ct1), sl1⟩) (c1 : PySem.W.codeIn K cd1 "are_places" = true) (k1 : PySem.W.keepIn K (.ref f1) = true)
    (a2 : PySem.W.nsIn K mainGlobals "is_tie" = some (some (.ref f2)))
    (l2 : K.lookup f2 = some ⟨oc2, od2, .func (PySem.W.fnOf "is_tie" "is_tie" (defArgs st_is_tie) (defBody st_is_tie) (defScope st_is_tie) .none kV2 dc2 pm2 an2 cd2 ct2), sl2⟩) (c2 : PySem.W.codeIn K cd2 "is_tie" = true) (k2 : PySem.W.keepIn K (.ref f2) = true)
    (a3 : PySem.W.nsIn K mainGlobals "wrong_tie" = some (some (.ref f3)))
    (l3 : K.lookup f3 = some ⟨oc3, od3, .func (PySem.W.fnOf "wrong_tie" "wrong_tie" (defArgs st_wrong_tie) (defBody st_wrong_tie) (defScope st_wrong_tie) .none kV3 dc3 pm3 an3 cd3 ct3), sl3⟩) (c3 : PySem.W.codeIn K cd3 "wrong_tie" = true) (k3 : PySem.W.keepIn K (.ref f3) = true)
    (a4 : PySem.W.findIn K (.ref C) "__init__" = some (some (.ref f4)))
    (l4 : K.lookup f4 = some ⟨oc4, od4, .func (PySem.W.fnOf "__init__" "Web.__init__" (defArgs st_Webinit) (defBody st_Webinit) (defScope st_Webinit) .none kV4 dc4 pm4 an4 cd4 ct4), sl4⟩) (c4 : PySem.W.codeIn K cd4 "Web.__init__" = true) (k4 : PySem.W.keepIn K (.ref f4) = true)
    (a5 : PySem.W.findIn K (.ref C) "__len__" = some (some (.ref f5)))
    (l5 : K.lookup f5 = some ⟨oc5, od5, .func (PySem.W.fnOf "__len__" "Web.__len__" (defArgs st_Weblen) (defBody st_Weblen) (defScope st_Weblen) .none kV5 dc5 pm5 an5 cd5 ct5), sl5⟩) (c5 : PySem.W.codeIn K cd5 "Web.__len__" = true) (k5 : PySem.W.keepIn K (.ref f5) = true)
    (a6 : PySem.W.nsIn K mainGlobals "check_web" = some (some (.ref f6)))
    (l6 : K.lookup f6 = some ⟨oc6, od6, .func (PySem.W.fnOf "check_web" "check_web" (defArgs st_check_web) (defBody st_check_web) (defScope st_check_web) .none kV6 dc6 pm6 an6 cd6 ct6), sl6⟩) (c6 : PySem.W.codeIn K cd6 "check_web" = true) (k6 : PySem.W.keepIn K (.ref f6) = true)
    (a7 : PySem.W.nsIn K mainGlobals "is_leaning" = some (some (.ref f7)))
    (l7 : K.lookup f7 = some ⟨oc7, od7, .func (PySem.W.fnOf "is_leaning" "is_leaning" (defArgs st_is_leaning) (defBody st_is_leaning) (defScope st_is_leaning) .none kV7 dc7 pm7 an7 cd7 ct7), sl7⟩) (c7 : PySem.W.codeIn K cd7 "is_leaning" = true) (k7 : PySem.W.keepIn K (.ref f7) = true)
    (a8 : PySem.W.nsIn K mainGlobals "check_leaning" = some (some (.ref f8)))
    (l8 : K.lookup f8 = some ⟨oc8, od8, .func (PySem.W.fnOf "check_leaning" "check_leaning" (defArgs st_check_leaning) (defBody st_check_leaning) (defScope st_check_leaning) .none kV8 dc8 pm8 an8 cd8 ct8), sl8⟩) (c8 : PySem.W.codeIn K cd8 "check_leaning" = true) (k8 : PySem.W.keepIn K (.ref f8) = true)
    (a9 : PySem.W.nsIn K mainGlobals "check_leaned" = some (some (.ref f9)))
    (l9 : K.lookup f9 = some ⟨oc9, od9, .func (PySem.W.fnOf "check_leaned" "check_leaned" (defArgs st_check_leaned) (defBody st_check_leaned) (defScope st_check_leaned) .none kV9 dc9 pm9 an9 cd9 ct9), sl9⟩) (c9 : PySem.W.codeIn K cd9 "check_leaned" = true) (k9 : PySem.W.keepIn K (.ref f9) = true)
    (a10 : PySem.W.nsIn K mainGlobals "ways_of" = some (some (.ref f10)))
    (l10 : K.lookup f10 = some ⟨oc10, od10, .func (PySem.W.fnOf "ways_of" "ways_of" (defArgs st_ways_of) (defBody st_ways_of) (defScope st_ways_of) .none kV10 dc10 pm10 an10 cd10 ct10), sl10⟩) (c10 : PySem.W.codeIn K cd10 "ways_of" = true) (k10 : PySem.W.keepIn K (.ref f10) = true)
    (a11 : PySem.W.nsIn K mainGlobals "scores_of" = some (some (.ref f11)))
    (l11 : K.lookup f11 = some ⟨oc11, od11, .func (PySem.W.fnOf "scores_of" "scores_of" (defArgs st_scores_of) (defBody st_scores_of) (defScope st_scores_of) .none kV11 dc11 pm11 an11 cd11 ct11), sl11⟩) (c11 : PySem.W.codeIn K cd11 "scores_of" = true) (k11 : PySem.W.keepIn K (.ref f11) = true)
    (a12 : PySem.W.nsIn K mainGlobals "first_ring" = some (some (.ref f12)))
    (l12 : K.lookup f12 = some ⟨oc12, od12, .func (PySem.W.fnOf "first_ring" "first_ring" (defArgs st_first_ring) (defBody st_first_ring) (defScope st_first_ring) .none kV12 dc12 pm12 an12 cd12 ct12), sl12⟩) (c12 : PySem.W.codeIn K cd12 "first_ring" = true) (k12 : PySem.W.keepIn K (.ref f12) = true)
    (a13 : PySem.W.nsIn K mainGlobals "turning_rings" = some (some (.ref f13)))
    (l13 : K.lookup f13 = some ⟨oc13, od13, .func (PySem.W.fnOf "turning_rings" "turning_rings" (defArgs st_turning_rings) (defBody st_turning_rings) (defScope st_turning_rings) .none kV13 dc13 pm13 an13 cd13 ct13), sl13⟩) (c13 : PySem.W.codeIn K cd13 "turning_rings" = true) (k13 : PySem.W.keepIn K (.ref f13) = true)
    (a14 : PySem.W.nsIn K mainGlobals "_law_purse" = some (some (.ref f14)))
    (l14 : K.lookup f14 = some ⟨oc14, od14, .func (PySem.W.fnOf "_law_purse" "_law_purse" (defArgs st_law_purse) (defBody st_law_purse) (defScope st_law_purse) .none kV14 dc14 pm14 an14 cd14 ct14), sl14⟩) (c14 : PySem.W.codeIn K cd14 "_law_purse" = true) (k14 : PySem.W.keepIn K (.ref f14) = true)
    (a15 : PySem.W.nsIn K mainGlobals "_law_take" = some (some (.ref f15)))
    (l15 : K.lookup f15 = some ⟨oc15, od15, .func (PySem.W.fnOf "_law_take" "_law_take" (defArgs st_law_take) (defBody st_law_take) (defScope st_law_take) .none kV15 dc15 pm15 an15 cd15 ct15), sl15⟩) (c15 : PySem.W.codeIn K cd15 "_law_take" = true) (k15 : PySem.W.keepIn K (.ref f15) = true)
    (a16 : PySem.W.nsIn K mainGlobals "_law_one" = some (some (.ref f16)))
    (l16 : K.lookup f16 = some ⟨oc16, od16, .func (PySem.W.fnOf "_law_one" "_law_one" (defArgs st_law_one) (defBody st_law_one) (defScope st_law_one) .none kV16 dc16 pm16 an16 cd16 ct16), sl16⟩) (c16 : PySem.W.codeIn K cd16 "_law_one" = true) (k16 : PySem.W.keepIn K (.ref f16) = true)
    (a17 : PySem.W.nsIn K mainGlobals "_law_web" = some (some (.ref f17)))
    (l17 : K.lookup f17 = some ⟨oc17, od17, .func (PySem.W.fnOf "_law_web" "_law_web" (defArgs st_law_web) (defBody st_law_web) (defScope st_law_web) .none kV17 dc17 pm17 an17 cd17 ct17), sl17⟩) (c17 : PySem.W.codeIn K cd17 "_law_web" = true) (k17 : PySem.W.keepIn K (.ref f17) = true)
    (a18 : PySem.W.nsIn K mainGlobals "_law_lean" = some (some (.ref f18)))
    (l18 : K.lookup f18 = some ⟨oc18, od18, .func (PySem.W.fnOf "_law_lean" "_law_lean" (defArgs st_law_lean) (defBody st_law_lean) (defScope st_law_lean) .none kV18 dc18 pm18 an18 cd18 ct18), sl18⟩) (c18 : PySem.W.codeIn K cd18 "_law_lean" = true) (k18 : PySem.W.keepIn K (.ref f18) = true)
    (a19 : PySem.W.nsIn K mainGlobals "_law_ways" = some (some (.ref f19)))
    (l19 : K.lookup f19 = some ⟨oc19, od19, .func (PySem.W.fnOf "_law_ways" "_law_ways" (defArgs st_law_ways) (defBody st_law_ways) (defScope st_law_ways) .none kV19 dc19 pm19 an19 cd19 ct19), sl19⟩) (c19 : PySem.W.codeIn K cd19 "_law_ways" = true) (k19 : PySem.W.keepIn K (.ref f19) = true)
    (a20 : PySem.W.nsIn K mainGlobals "_law_goes_round" = some (some (.ref f20)))
    (l20 : K.lookup f20 = some ⟨oc20, od20, .func (PySem.W.fnOf "_law_goes_round" "_law_goes_round" (defArgs st_law_goes_round) (defBody st_law_goes_round) (defScope st_law_goes_round) .none kV20 dc20 pm20 an20 cd20 ct20), sl20⟩) (c20 : PySem.W.codeIn K cd20 "_law_goes_round" = true) (k20 : PySem.W.keepIn K (.ref f20) = true)
    (a21 : PySem.W.nsIn K mainGlobals "_law_flip" = some (some (.ref f21)))
    (l21 : K.lookup f21 = some ⟨oc21, od21, .func (PySem.W.fnOf "_law_flip" "_law_flip" (defArgs st_law_flip) (defBody st_law_flip) (defScope st_law_flip) .none kV21 dc21 pm21 an21 cd21 ct21), sl21⟩) (c21 : PySem.W.codeIn K cd21 "_law_flip" = true) (k21 : PySem.W.keepIn K (.ref f21) = true)
    (a22 : PySem.W.nsIn K mainGlobals "_law_row" = some (some (.ref f22)))
    (l22 : K.lookup f22 = some ⟨oc22, od22, .func (PySem.W.fnOf "_law_row" "_law_row" (defArgs st_law_row) (defBody st_law_row) (defScope st_law_row) .none kV22 dc22 pm22 an22 cd22 ct22), sl22⟩) (c22 : PySem.W.codeIn K cd22 "_law_row" = true) (k22 : PySem.W.keepIn K (.ref f22) = true)
    (a23 : PySem.W.nsIn K mainGlobals "_law_shown" = some (some (.ref f23)))
    (l23 : K.lookup f23 = some ⟨oc23, od23, .func (PySem.W.fnOf "_law_shown" "_law_shown" (defArgs st_law_shown) (defBody st_law_shown) (defScope st_law_shown) .none kV23 dc23 pm23 an23 cd23 ct23), sl23⟩) (c23 : PySem.W.codeIn K cd23 "_law_shown" = true) (k23 : PySem.W.keepIn K (.ref f23) = true)
    (a24 : PySem.W.nsIn K mainGlobals "_law_near" = some (some (.ref f24)))
    (l24 : K.lookup f24 = some ⟨oc24, od24, .func (PySem.W.fnOf "_law_near" "_law_near" (defArgs st_law_near) (defBody st_law_near) (defScope st_law_near) .none kV24 dc24 pm24 an24 cd24 ct24), sl24⟩) (c24 : PySem.W.codeIn K cd24 "_law_near" = true) (k24 : PySem.W.keepIn K (.ref f24) = true)
    (a25 : PySem.W.nsIn K mainGlobals "_law_right" = some (some (.ref f25)))
    (l25 : K.lookup f25 = some ⟨oc25, od25, .func (PySem.W.fnOf "_law_right" "_law_right" (defArgs st_law_right) (defBody st_law_right) (defScope st_law_right) .none kV25 dc25 pm25 an25 cd25 ct25), sl25⟩) (c25 : PySem.W.codeIn K cd25 "_law_right" = true) (k25 : PySem.W.keepIn K (.ref f25) = true)
    (a26 : PySem.W.nsIn K mainGlobals "law" = some (some (.ref f26)))
    (l26 : K.lookup f26 = some ⟨oc26, od26, .func (PySem.W.fnOf "law" "law" (defArgs st_law) (defBody st_law) (defScope st_law) .none kV26 dc26 pm26 an26 cd26 ct26), sl26⟩) (c26 : PySem.W.codeIn K cd26 "law" = true) (k26 : PySem.W.keepIn K (.ref f26) = true)
    (aW : PySem.W.nsIn K mainGlobals "Web" = some (some (.ref C)))
    (z_len : PySem.W.nsIn K mainGlobals "len" = some none)
    (z_all : PySem.W.nsIn K mainGlobals "all" = some none)
    (z_abs : PySem.W.nsIn K mainGlobals "abs" = some none)
    (z_int : PySem.W.nsIn K mainGlobals "int" = some none)
    (z_divmod : PySem.W.nsIn K mainGlobals "divmod" = some none)
    (z_min : PySem.W.nsIn K mainGlobals "min" = some none)
    (z_max : PySem.W.nsIn K mainGlobals "max" = some none)
    (z_tuple : PySem.W.nsIn K mainGlobals "tuple" = some none)
    (z_list : PySem.W.nsIn K mainGlobals "list" = some none)
    (z_sorted : PySem.W.nsIn K mainGlobals "sorted" = some none)
    (z_set : PySem.W.nsIn K mainGlobals "set" = some none)
    (z_str : PySem.W.nsIn K mainGlobals "str" = some none)
    (z_isinstance : PySem.W.nsIn K mainGlobals "isinstance" = some none)
    (z_enumerate : PySem.W.nsIn K mainGlobals "enumerate" = some none)
    (z_zip : PySem.W.nsIn K mainGlobals "zip" = some none)
    (z_range : PySem.W.nsIn K mainGlobals "range" = some none)
    {tk_MOST_PLACES : Tok} {tk_MOST_TIES : Tok} {tk_LETTERS : Tok} {tk_SIGNS : Tok}
    (v_MOST_PLACES : PySem.W.nsIn K mainGlobals "MOST_PLACES" = some (some (.int 7 tk_MOST_PLACES)))
    (v_MOST_TIES : PySem.W.nsIn K mainGlobals "MOST_TIES" = some (some (.int 11 tk_MOST_TIES)))
    (v_LETTERS : PySem.W.nsIn K mainGlobals "LETTERS" = some (some (.str "abcdefgh" tk_LETTERS)))
    (v_SIGNS : PySem.W.nsIn K mainGlobals "SIGNS" = some (some (.str "+-" tk_SIGNS)))
    (w1 : PySem.W.plainGet K C Str.empty = true)
    (w2 : PySem.W.hasDictIn K C = true)
    (w3 : PySem.W.plainOver K C = true)
    (w4 : PySem.W.findIn K (.ref C) "__setattr__" = some (some (.builtin "object.__setattr__")))
    (w5 : PySem.W.findIn K (.ref C) "__class__" = some (some (.builtin "object.__class__")))
    (w6 : PySem.W.specialIn K (.builtin "object.__class__") "__get__" = some (some (.builtin "getset_descriptor.__get__")))
    (w7 : PySem.W.takesIn K (.builtin "object.__class__") = true)
    (w8 : PySem.W.mroIn K C (.type "object") = some true)
    (w9 : PySem.W.findIn K (.ref C) "places" = some none)
    (w10 : PySem.W.findIn K (.ref C) "ties" = some none)
    (w11 : PySem.W.isFn K (.ref f5) = true)
    (w12 : PySem.W.makesIn K C = true)
    (w13 : PySem.W.isFn K (.ref f4) = true)
    (w14 : PySem.W.keepIn K (.ref C) = true)
    : ∃ fd : FuncData, (∀ (s : Shared) (v : Value), BindsTo s fd ⟨[v], []⟩ [("_law_script", v)]) ∧ ∀ base : Heap, K.In base → base.Ns mainGlobals mg → FnOk P w K mg base CX0 8 fa fd ["_law_script"] (spLaw K) := by
  have e := hfa.symm.trans (PySem.W.mg_of X G a26)
  cases e
  have F0 := fun_mk (st := st_are_letters) l0 c0 k0
  have b0 := F0.binds (ps := ["value"]) fun _ _ _ _ _ _ us hl => match us, hl with | [_], _ => rfl
  have F1 := fun_mk (st := st_are_places) l1 c1 k1
  have b1 := F1.binds (ps := ["value"]) fun _ _ _ _ _ _ us hl => match us, hl with | [_], _ => rfl
  have F2 := fun_mk (st := st_is_tie) l2 c2 k2
  have b2 := F2.binds (ps := ["places", "value"]) fun _ _ _ _ _ _ us hl => match us, hl with | [_, _], _ => rfl
  have F3 := fun_mk (st := st_wrong_tie) l3 c3 k3
  have b3 := F3.binds (ps := ["places", "ties"]) fun _ _ _ _ _ _ us hl => match us, hl with | [_, _], _ => rfl
  have F4 := fun_mk (st := st_Webinit) l4 c4 k4
  have b4 := F4.binds (ps := ["self", "places", "ties"]) fun _ _ _ _ _ _ us hl => match us, hl with | [_, _, _], _ => rfl
  have F5 := fun_mk (st := st_Weblen) l5 c5 k5
  have b5 := F5.binds (ps := ["self"]) fun _ _ _ _ _ _ us hl => match us, hl with | [_], _ => rfl
  have F6 := fun_mk (st := st_check_web) l6 c6 k6
  have b6 := F6.binds (ps := ["web"]) fun _ _ _ _ _ _ us hl => match us, hl with | [_], _ => rfl
  have F7 := fun_mk (st := st_is_leaning) l7 c7 k7
  have b7 := F7.binds (ps := ["web", "value"]) fun _ _ _ _ _ _ us hl => match us, hl with | [_, _], _ => rfl
  have F8 := fun_mk (st := st_check_leaning) l8 c8 k8
  have b8 := F8.binds (ps := ["web", "leaning"]) fun _ _ _ _ _ _ us hl => match us, hl with | [_, _], _ => rfl
  have F9 := fun_mk (st := st_check_leaned) l9 c9 k9
  have b9 := F9.binds (ps := ["web", "leaning"]) fun _ _ _ _ _ _ us hl => match us, hl with | [_, _], _ => rfl
  have F10 := fun_mk (st := st_ways_of) l10 c10 k10
  have b10 := F10.binds (ps := ["web", "leaning"]) fun _ _ _ _ _ _ us hl => match us, hl with | [_, _], _ => rfl
  have F11 := fun_mk (st := st_scores_of) l11 c11 k11
  have b11 := F11.binds (ps := ["web", "leaning"]) fun _ _ _ _ _ _ us hl => match us, hl with | [_, _], _ => rfl
  have F12 := fun_mk (st := st_first_ring) l12 c12 k12
  have b12 := F12.binds (ps := ["ways", "left"]) fun _ _ _ _ _ _ us hl => match us, hl with | [_, _], _ => rfl
  have F13 := fun_mk (st := st_turning_rings) l13 c13 k13
  have b13 := F13.binds (ps := ["web", "leaning", "other_leaning"]) fun _ _ _ _ _ _ us hl => match us, hl with | [_, _, _], _ => rfl
  have F14 := fun_mk (st := st_law_purse) l14 c14 k14
  have b14 := F14.binds (ps := ["_law_script", "_law_k"]) fun _ _ _ _ _ _ us hl => match us, hl with | [_, _], _ => rfl
  have F15 := fun_mk (st := st_law_take) l15 c15 k15
  have b15 := F15.binds (ps := ["_law_purse_here", "_law_many"]) fun _ _ _ _ _ _ us hl => match us, hl with | [_, _], _ => rfl
  have F16 := fun_mk (st := st_law_one) l16 c16 k16
  have b16 := F16.binds (ps := ["_law_purse_here", "_law_things"]) fun _ _ _ _ _ _ us hl => match us, hl with | [_, _], _ => rfl
  have F17 := fun_mk (st := st_law_web) l17 c17 k17
  have b17 := F17.binds (ps := ["_law_purse_here", "_law_most_places", "_law_most_ties"]) fun _ _ _ _ _ _ us hl => match us, hl with | [_, _, _], _ => rfl
  have F18 := fun_mk (st := st_law_lean) l18 c18 k18
  have b18 := F18.binds (ps := ["_law_purse_here", "_law_ties_here"]) fun _ _ _ _ _ _ us hl => match us, hl with | [_, _], _ => rfl
  have F19 := fun_mk (st := st_law_ways) l19 c19 k19
  have b19 := F19.binds (ps := ["_law_ties_here", "_law_leaning_here"]) fun _ _ _ _ _ _ us hl => match us, hl with | [_, _], _ => rfl
  have F20 := fun_mk (st := st_law_goes_round) l20 c20 k20
  have b20 := F20.binds (ps := ["_law_ways_here", "_law_lot"]) fun _ _ _ _ _ _ us hl => match us, hl with | [_, _], _ => rfl
  have F21 := fun_mk (st := st_law_flip) l21 c21 k21
  have b21 := F21.binds (ps := ["_law_leaning_here", "_law_lot"]) fun _ _ _ _ _ _ us hl => match us, hl with | [_, _], _ => rfl
  have F22 := fun_mk (st := st_law_row) l22 c22 k22
  have b22 := F22.binds (ps := ["_law_places_here", "_law_ways_here"]) fun _ _ _ _ _ _ us hl => match us, hl with | [_, _], _ => rfl
  have F23 := fun_mk (st := st_law_shown) l23 c23 k23
  have b23 := F23.binds (ps := ["_law_mine", "_law_leaning_here", "_law_other", "_law_told"]) fun _ _ _ _ _ _ us hl => match us, hl with | [_, _, _, _], _ => rfl
  have F24 := fun_mk (st := st_law_near) l24 c24 k24
  have b24 := F24.binds (ps := ["_law_purse_here", "_law_ties_here", "_law_leaning_here"]) fun _ _ _ _ _ _ us hl => match us, hl with | [_, _, _], _ => rfl
  have F25 := fun_mk (st := st_law_right) l25 c25 k25
  have b25 := F25.binds (ps := ["_law_purse_here"]) fun _ _ _ _ _ _ us hl => match us, hl with | [_], _ => rfl
  have F26 := fun_mk (st := st_law) l26 c26 k26
  have b26 := F26.binds (ps := ["_law_script"]) fun _ _ _ _ _ _ us hl => match us, hl with | [_], _ => rfl
  have M : Mo K mg ⟨C, ckOk⟩ (fun i => [f0, f1, f2, f3, f4, f5, f6, f7, f8, f9, f10, f11, f12, f13, f14, f15, f16, f17, f18, f19, f20, f21, f22, f23, f24, f25, fa].getD i 0) (fun i => [PySem.W.fnOf "are_letters" "are_letters" (defArgs st_are_letters) (defBody st_are_letters) (defScope st_are_letters) .none kV0 dc0 pm0 an0 cd0 ct0, PySem.W.fnOf "are_places" "are_places" (defArgs st_are_places) (defBody st_are_places) (defScope st_are_places) .none kV1 dc1 pm1 an1 cd1 ct1, PySem.W.fnOf "is_tie" "is_tie" (defArgs st_is_tie) (defBody st_is_tie) (defScope st_is_tie) .none kV2 dc2 pm2 an2 cd2 ct2, PySem.W.fnOf "wrong_tie" "wrong_tie" (defArgs st_wrong_tie) (defBody st_wrong_tie) (defScope st_wrong_tie) .none kV3 dc3 pm3 an3 cd3 ct3, PySem.W.fnOf "__init__" "Web.__init__" (defArgs st_Webinit) (defBody st_Webinit) (defScope st_Webinit) .none kV4 dc4 pm4 an4 cd4 ct4, PySem.W.fnOf "__len__" "Web.__len__" (defArgs st_Weblen) (defBody st_Weblen) (defScope st_Weblen) .none kV5 dc5 pm5 an5 cd5 ct5, PySem.W.fnOf "check_web" "check_web" (defArgs st_check_web) (defBody st_check_web) (defScope st_check_web) .none kV6 dc6 pm6 an6 cd6 ct6, PySem.W.fnOf "is_leaning" "is_leaning" (defArgs st_is_leaning) (defBody st_is_leaning) (defScope st_is_leaning) .none kV7 dc7 pm7 an7 cd7 ct7, PySem.W.fnOf "check_leaning" "check_leaning" (defArgs st_check_leaning) (defBody st_check_leaning) (defScope st_check_leaning) .none kV8 dc8 pm8 an8 cd8 ct8, PySem.W.fnOf "check_leaned" "check_leaned" (defArgs st_check_leaned) (defBody st_check_leaned) (defScope st_check_leaned) .none kV9 dc9 pm9 an9 cd9 ct9, PySem.W.fnOf "ways_of" "ways_of" (defArgs st_ways_of) (defBody st_ways_of) (defScope st_ways_of) .none kV10 dc10 pm10 an10 cd10 ct10, PySem.W.fnOf "scores_of" "scores_of" (defArgs st_scores_of) (defBody st_scores_of) (defScope st_scores_of) .none kV11 dc11 pm11 an11 cd11 ct11, PySem.W.fnOf "first_ring" "first_ring" (defArgs st_first_ring) (defBody st_first_ring) (defScope st_first_ring) .none kV12 dc12 pm12 an12 cd12 ct12, PySem.W.fnOf "turning_rings" "turning_rings" (defArgs st_turning_rings) (defBody st_turning_rings) (defScope st_turning_rings) .none kV13 dc13 pm13 an13 cd13 ct13, PySem.W.fnOf "_law_purse" "_law_purse" (defArgs st_law_purse) (defBody st_law_purse) (defScope st_law_purse) .none kV14 dc14 pm14 an14 cd14 ct14, PySem.W.fnOf "_law_take" "_law_take" (defArgs st_law_take) (defBody st_law_take) (defScope st_law_take) .none kV15 dc15 pm15 an15 cd15 ct15, PySem.W.fnOf "_law_one" "_law_one" (defArgs st_law_one) (defBody st_law_one) (defScope st_law_one) .none kV16 dc16 pm16 an16 cd16 ct16, PySem.W.fnOf "_law_web" "_law_web" (defArgs st_law_web) (defBody st_law_web) (defScope st_law_web) .none kV17 dc17 pm17 an17 cd17 ct17, PySem.W.fnOf "_law_lean" "_law_lean" (defArgs st_law_lean) (defBody st_law_lean) (defScope st_law_lean) .none kV18 dc18 pm18 an18 cd18 ct18, PySem.W.fnOf "_law_ways" "_law_ways" (defArgs st_law_ways) (defBody st_law_ways) (defScope st_law_ways) .none kV19 dc19 pm19 an19 cd19 ct19, PySem.W.fnOf "_law_goes_round" "_law_goes_round" (defArgs st_law_goes_round) (defBody st_law_goes_round) (defScope st_law_goes_round) .none kV20 dc20 pm20 an20 cd20 ct20, PySem.W.fnOf "_law_flip" "_law_flip" (defArgs st_law_flip) (defBody st_law_flip) (defScope st_law_flip) .none kV21 dc21 pm21 an21 cd21 ct21, PySem.W.fnOf "_law_row" "_law_row" (defArgs st_law_row) (defBody st_law_row) (defScope st_law_row) .none kV22 dc22 pm22 an22 cd22 ct22, PySem.W.fnOf "_law_shown" "_law_shown" (defArgs st_law_shown) (defBody st_law_shown) (defScope st_law_shown) .none kV23 dc23 pm23 an23 cd23 ct23, PySem.W.fnOf "_law_near" "_law_near" (defArgs st_law_near) (defBody st_law_near) (defScope st_law_near) .none kV24 dc24 pm24 an24 cd24 ct24, PySem.W.fnOf "_law_right" "_law_right" (defArgs st_law_right) (defBody st_law_right) (defScope st_law_right) .none kV25 dc25 pm25 an25 cd25 ct25, PySem.W.fnOf "law" "law" (defArgs st_law) (defBody st_law) (defScope st_law) .none kV26 dc26 pm26 an26 cd26 ct26].getD i (PySem.W.fnOf "law" "law" (defArgs st_law) (defBody st_law) (defScope st_law) .none kV26 dc26 pm26 an26 cd26 ct26)) := {
    f_are_letters := F0
    b_are_letters := b0
    m_are_letters := PySem.W.mg_of X G a0
    f_are_places := F1
    b_are_places := b1
    m_are_places := PySem.W.mg_of X G a1
    f_is_tie := F2
    b_is_tie := b2
    m_is_tie := PySem.W.mg_of X G a2
    f_wrong_tie := F3
    b_wrong_tie := b3
    m_wrong_tie := PySem.W.mg_of X G a3
    f_Webinit := F4
    b_Webinit := b4
    f_Weblen := F5
    b_Weblen := b5
    f_check_web := F6
    b_check_web := b6
    m_check_web := PySem.W.mg_of X G a6
    f_is_leaning := F7
    b_is_leaning := b7
    m_is_leaning := PySem.W.mg_of X G a7
    f_check_leaning := F8
    b_check_leaning := b8
    m_check_leaning := PySem.W.mg_of X G a8
    f_check_leaned := F9
    b_check_leaned := b9
    m_check_leaned := PySem.W.mg_of X G a9
    f_ways_of := F10
    b_ways_of := b10
    m_ways_of := PySem.W.mg_of X G a10
    f_scores_of := F11
    b_scores_of := b11
    m_scores_of := PySem.W.mg_of X G a11
    f_first_ring := F12
    b_first_ring := b12
    m_first_ring := PySem.W.mg_of X G a12
    f_turning_rings := F13
    b_turning_rings := b13
    m_turning_rings := PySem.W.mg_of X G a13
    f_law_purse := F14
    b_law_purse := b14
    m_law_purse := PySem.W.mg_of X G a14
    f_law_take := F15
    b_law_take := b15
    m_law_take := PySem.W.mg_of X G a15
    f_law_one := F16
    b_law_one := b16
    m_law_one := PySem.W.mg_of X G a16
    f_law_web := F17
    b_law_web := b17
    m_law_web := PySem.W.mg_of X G a17
    f_law_lean := F18
    b_law_lean := b18
    m_law_lean := PySem.W.mg_of X G a18
    f_law_ways := F19
    b_law_ways := b19
    m_law_ways := PySem.W.mg_of X G a19
    f_law_goes_round := F20
    b_law_goes_round := b20
    m_law_goes_round := PySem.W.mg_of X G a20
    f_law_flip := F21
    b_law_flip := b21
    m_law_flip := PySem.W.mg_of X G a21
    f_law_row := F22
    b_law_row := b22
    m_law_row := PySem.W.mg_of X G a22
    f_law_shown := F23
    b_law_shown := b23
    m_law_shown := PySem.W.mg_of X G a23
    f_law_near := F24
    b_law_near := b24
    m_law_near := PySem.W.mg_of X G a24
    f_law_right := F25
    b_law_right := b25
    m_law_right := PySem.W.mg_of X G a25
    f_law := F26
    b_law := b26
    m_law := PySem.W.mg_of X G a26
    kw_turning_rings := fun s ws _ hl => match ws, hl with | [_, _, _], _ => .of_eq rfl
    m_Web := PySem.W.mg_of X G aW
    z_len := PySem.W.mg_none_of X G z_len
    z_all := PySem.W.mg_none_of X G z_all
    z_abs := PySem.W.mg_none_of X G z_abs
    z_int := PySem.W.mg_none_of X G z_int
    z_divmod := PySem.W.mg_none_of X G z_divmod
    z_min := PySem.W.mg_none_of X G z_min
    z_max := PySem.W.mg_none_of X G z_max
    z_tuple := PySem.W.mg_none_of X G z_tuple
    z_list := PySem.W.mg_none_of X G z_list
    z_sorted := PySem.W.mg_none_of X G z_sorted
    z_set := PySem.W.mg_none_of X G z_set
    z_str := PySem.W.mg_none_of X G z_str
    z_isinstance := PySem.W.mg_none_of X G z_isinstance
    z_enumerate := PySem.W.mg_none_of X G z_enumerate
    z_zip := PySem.W.mg_none_of X G z_zip
    z_range := PySem.W.mg_none_of X G z_range
    g_MOST_PLACES := ⟨_, PySem.W.mg_of X G v_MOST_PLACES⟩
    g_MOST_TIES := ⟨_, PySem.W.mg_of X G v_MOST_TIES⟩
    g_LETTERS := ⟨_, PySem.W.mg_of X G v_LETTERS⟩
    g_SIGNS := ⟨_, PySem.W.mg_of X G v_SIGNS⟩
    wty := ⟨⟨w1, w2, w3, w4⟩, w5, w6, w7, w8⟩
    ck := rfl
    np := w9
    nt := w10
    fl := a5
    il := w11
    mkw := ⟨w12, a4, w13, w14⟩ }
  refine ⟨_, fun s v => .of_eq rfl, fun base _ _ => (ok_law M).imp ?_⟩
  rintro vs H Q E ⟨a, ns, rfl, hS, hl, q⟩
  refine ⟨none, H, [.scr ns], 0, fun d _ => d = .bl true, fun _ _ h => h, .cons ⟨a, rfl, hS⟩ .nil, (fun _ z => nomatch z), ⟨ns, hl, rfl, fun _ => rfl⟩, fun v H' F' m' x _ _ rp e => ?_⟩
  subst e
  cases rp
  exact q H'
end K23
open PySem PySem.W PyProof.Rows
set_option maxHeartbeats 0 in
theorem PySem.Challenge.cw_webreckon_k23_whole_rings_between_leanin_holds : PySem.Challenge.rw_webreckon_k23_whole_rings_between_leanin.Holds := by
  w_on; o_law; k_head; (case hw => w_witness2)
  k_fill
  refine L2.walk_of (l := PySem.Challenge.rw_webreckon_k23_whole_rings_between_leanin) (n := 63) (k := 8) (x := "_law_script") (CX := fun _ => L2.CX0) (sp := fun w => K23.spLaw _) rfl (by decide) rfl ⟨rfl, by decide, by decide⟩ (fun w h Y => PySem.W.kIn_of Y) ?F (fun _ _ a ns hl _ hS => ⟨a, ns, rfl, hS, hl, fun _ => rfl⟩) (fun _ _ _ _ _ h => h)
  case F =>
    intro w mg fa h KX G hmg
    refine' K23.all_mk KX G hmg ?a0 ?l0 ?c0 ?k0 ?a1 ?l1 ?c1 ?k1 ?a2 ?l2 ?c2 ?k2 ?a3 ?l3 ?c3 ?k3 ?a4 ?l4 ?c4 ?k4 ?a5 ?l5 ?c5 ?k5 ?a6 ?l6 ?c6 ?k6 ?a7 ?l7 ?c7 ?k7 ?a8 ?l8 ?c8 ?k8 ?a9 ?l9 ?c9 ?k9 ?a10 ?l10 ?c10 ?k10 ?a11 ?l11 ?c11 ?k11 ?a12 ?l12 ?c12 ?k12 ?a13 ?l13 ?c13 ?k13 ?a14 ?l14 ?c14 ?k14 ?a15 ?l15 ?c15 ?k15 ?a16 ?l16 ?c16 ?k16 ?a17 ?l17 ?c17 ?k17 ?a18 ?l18 ?c18 ?k18 ?a19 ?l19 ?c19 ?k19 ?a20 ?l20 ?c20 ?k20 ?a21 ?l21 ?c21 ?k21 ?a22 ?l22 ?c22 ?k22 ?a23 ?l23 ?c23 ?k23 ?a24 ?l24 ?c24 ?k24 ?a25 ?l25 ?c25 ?k25 ?a26 ?l26 ?c26 ?k26 ?aW ?z_len ?z_all ?z_abs ?z_int ?z_divmod ?z_min ?z_max ?z_tuple ?z_list ?z_sorted ?z_set ?z_str ?z_isinstance ?z_enumerate ?z_zip ?z_range ?v_MOST_PLACES ?v_MOST_TIES ?v_LETTERS ?v_SIGNS ?w1 ?w2 ?w3 ?w4 ?w5 ?w6 ?w7 ?w8 ?w9 ?w10 ?w11 ?w12 ?w13 ?w14
    (case aW => k_is); (case a0 => k_is); (case l0 => k_is); (case c0 => k_is); (case k0 => k_is); (case a1 => k_is); (case l1 => k_is); (case c1 => k_is); (case k1 => k_is); (case a2 => k_is); (case l2 => k_is); (case c2 => k_is); (case k2 => k_is); (case a3 => k_is); (case l3 => k_is); (case c3 => k_is); (case k3 => k_is); (case a4 => k_is); (case l4 => k_is); (case c4 => k_is); (case k4 => k_is); (case a5 => k_is); (case l5 => k_is); (case c5 => k_is); (case k5 => k_is); (case a6 => k_is); (case l6 => k_is); (case c6 => k_is); (case k6 => k_is); (case a7 => k_is); (case l7 => k_is); (case c7 => k_is); (case k7 => k_is); (case a8 => k_is); (case l8 => k_is); (case c8 => k_is); (case k8 => k_is); (case a9 => k_is); (case l9 => k_is); (case c9 => k_is); (case k9 => k_is); (case a10 => k_is); (case l10 => k_is); (case c10 => k_is); (case k10 => k_is); (case a11 => k_is); (case l11 => k_is); (case c11 => k_is); (case k11 => k_is); (case a12 => k_is); (case l12 => k_is); (case c12 => k_is); (case k12 => k_is); (case a13 => k_is); (case l13 => k_is); (case c13 => k_is); (case k13 => k_is); (case a14 => k_is); (case l14 => k_is); (case c14 => k_is); (case k14 => k_is); (case a15 => k_is); (case l15 => k_is); (case c15 => k_is); (case k15 => k_is); (case a16 => k_is); (case l16 => k_is); (case c16 => k_is); (case k16 => k_is); (case a17 => k_is); (case l17 => k_is); (case c17 => k_is); (case k17 => k_is); (case a18 => k_is); (case l18 => k_is); (case c18 => k_is); (case k18 => k_is); (case a19 => k_is); (case l19 => k_is); (case c19 => k_is); (case k19 => k_is); (case a20 => k_is); (case l20 => k_is); (case c20 => k_is); (case k20 => k_is); (case a21 => k_is); (case l21 => k_is); (case c21 => k_is); (case k21 => k_is); (case a22 => k_is); (case l22 => k_is); (case c22 => k_is); (case k22 => k_is); (case a23 => k_is); (case l23 => k_is); (case c23 => k_is); (case k23 => k_is); (case a24 => k_is); (case l24 => k_is); (case c24 => k_is); (case k24 => k_is); (case a25 => k_is); (case l25 => k_is); (case c25 => k_is); (case k25 => k_is); (case a26 => k_is); (case l26 => k_is); (case c26 => k_is); (case k26 => k_is); (case z_len => k_is); (case z_all => k_is); (case z_abs => k_is); (case z_int => k_is); (case z_divmod => k_is); (case z_min => k_is); (case z_max => k_is); (case z_tuple => k_is); (case z_list => k_is); (case z_sorted => k_is); (case z_set => k_is); (case z_str => k_is); (case z_isinstance => k_is); (case z_enumerate => k_is); (case z_zip => k_is); (case z_range => k_is); (case v_MOST_PLACES => k_is); (case v_MOST_TIES => k_is); (case v_LETTERS => k_is); (case v_SIGNS => k_is); (case w1 => k_is); (case w2 => k_is); (case w3 => k_is); (case w4 => k_is); (case w5 => k_is); (case w6 => k_is); (case w7 => k_is); (case w8 => k_is); (case w9 => k_is); (case w10 => k_is); (case w11 => k_is); (case w12 => k_is); (case w13 => k_is); (case w14 => k_is)
