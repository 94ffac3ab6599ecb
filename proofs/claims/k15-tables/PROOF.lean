import PyProof.Rows.All
import Wide.All
import OpenK.AllK
import Wide.FinOn
import HandS.ForMost
import HandS.Evl
import HandS.TupAny
import HandS.Deep
import HandS.Style
import KE.GoesNew
import KE.SortData
import KE.DataMinMax
import HandS.SetFor
import HandS.Strs
import HandS.IsInst
import HandS.DictComp
import PyProof.ListStr
import HandS.WordsDict
import KE.GoesMore
import HandS.Small
import HandS.Conv
import PyProof.TupleOfSeq
import HandS.TupMul
import HandS.Replace
import PyProof.StrLawsOcc
import PyProof.StrLawsIn
import HandS.TryOnly
import HandS.RaiseMore
import HandS.Wide
import HandS.Codes
import PyProof.ReprLen
import PySem.Challenge.RW_webreckon_k15_whole_lot_counts_tables_an
set_option Elab.async false
set_option linter.all false
set_option maxRecDepth 100000
set_option maxHeartbeats 4000000
/-! G: a layer of data over HandS. D: data without addresses; Rep: a value is a datum, in a part F of the heap that never changes; Rel: the slots are data;
   GE, GB, GN, GT, GS ..: HandS's judgements read by data. -/
namespace G
open PySem L2
abbrev Ex := Evl.Ex

/-- data -/
inductive D where
  | non | bl (b : Bool) | int (i : Int) | str (s : Str)
  | tup (ds : List D) | lst (ds : List D) | dic (kvs : List (Key × D)) | web (pl : Str) (ts : List Str)

structure Gp where
  Cw : Addr
  ck : Nat → List V → Prop

mutual
inductive Rep (K : PySem.W.Frag) (g : Gp) (F : Hp) : D → V → Prop
  | non : Rep K g F .non .non
  | bl (b : Bool) : Rep K g F (.bl b) (.bl b)
  | int (i : Int) : Rep K g F (.int i) (.int i)
  | str (s : Str) : Rep K g F (.str s) (.str s)
  | tup {a : Addr} {xs : List V} {ds : List D} : SqT K F a xs → RepL K g F ds xs → Rep K g F (.tup ds) (.ref a)
  | lst {a : Addr} {xs : List V} {ds : List D} : F a = some (.lst xs) → RepL K g F ds xs → Rep K g F (.lst ds) (.ref a)
  | dic {a : Addr} {kvs : List (Key × V)} {kds : List (Key × D)} : F a = some (.dK kvs) → kvs.map (·.1) = kds.map (·.1) → RepL K g F (kds.map (·.2)) (kvs.map (·.2)) → Rep K g F (.dic kds) (.ref a)
  | web {a dx t : Addr} {pl : Str} {ts : List Str} : F a = some (.ins g.Cw dx [("places", .str pl), ("ties", .ref t)]) → SqT K F t (ts.map V.str) → Rep K g F (.web pl ts) (.ref a)
inductive RepL (K : PySem.W.Frag) (g : Gp) (F : Hp) : List D → List V → Prop
  | nil : RepL K g F [] []
  | cons {d : D} {v : V} {ds : List D} {vs : List V} : Rep K g F d v → RepL K g F ds vs → RepL K g F (d :: ds) (v :: vs)
end

section
variable {K : PySem.W.Frag} {g : Gp} {F F' H H' : Hp}
mutual
theorem Rep.mono (e : Ex F F') : ∀ {d : D} {v : V}, Rep K g F d v → Rep K g F' d v
  | _, _, .non => .non
  | _, _, .bl b => .bl b
  | _, _, .int i => .int i
  | _, _, .str s => .str s
  | _, _, .tup h r => .tup (Evl.ex_t e h) (RepL.mono e r)
  | _, _, .lst h r => .lst (e _ _ h) (RepL.mono e r)
  | _, _, .dic h k r => .dic (e _ _ h) k (RepL.mono e r)
  | _, _, .web h r => .web (e _ _ h) (Evl.ex_t e r)
theorem RepL.mono (e : Ex F F') : ∀ {ds : List D} {vs : List V}, RepL K g F ds vs → RepL K g F' ds vs
  | _, _, .nil => .nil
  | _, _, .cons h t => .cons (Rep.mono e h) (RepL.mono e t)
end
theorem RepL.length : ∀ {ds : List D} {vs : List V}, RepL K g F ds vs → vs.length = ds.length
  | _, _, .nil => rfl
  | _, _, .cons _ t => by rw [List.length_cons, List.length_cons, RepL.length t]
theorem RepL.append : ∀ {ds es : List D} {vs ws : List V}, RepL K g F ds vs → RepL K g F es ws → RepL K g F (ds ++ es) (vs ++ ws)
  | _, _, _, _, .nil, s => s
  | _, _, _, _, .cons h t, s => .cons h (RepL.append t s)
theorem RepL.get : ∀ {ds : List D} {vs : List V} {i : Nat} {d : D}, RepL K g F ds vs → ds[i]? = some d → ∃ v, vs[i]? = some v ∧ Rep K g F d v
  | _, _, _, _, .nil, e => by simp at e
  | _, _, 0, _, .cons h _, e => by simp at e; subst e; exact ⟨_, rfl, h⟩
  | _, _, i + 1, _, .cons _ t, e => by
    obtain ⟨v, h1, h2⟩ := RepL.get (i := i) t (by simpa using e)
    exact ⟨v, by simpa using h1, h2⟩
theorem RepL.take : ∀ {ds : List D} {vs : List V} (n : Nat), RepL K g F ds vs → RepL K g F (ds.take n) (vs.take n)
  | _, _, 0, _ => .nil
  | _, _, _ + 1, .nil => .nil
  | _, _, n + 1, .cons r t => .cons r (RepL.take n t)
theorem RepL.drop : ∀ {ds : List D} {vs : List V} (n : Nat), RepL K g F ds vs → RepL K g F (ds.drop n) (vs.drop n)
  | _, _, 0, r => r
  | _, _, _ + 1, .nil => .nil
  | _, _, n + 1, .cons _ t => RepL.drop n t
theorem RepL.eraseIdx : ∀ {ds : List D} {vs : List V} (n : Nat), RepL K g F ds vs → RepL K g F (ds.eraseIdx n) (vs.eraseIdx n)
  | _, _, _, .nil => .nil
  | _, _, 0, .cons _ t => t
  | _, _, n + 1, .cons h t => .cons h (RepL.eraseIdx n t)
theorem RepL.set {d : D} {v : V} (r : Rep K g F d v) : ∀ {ds : List D} {vs : List V} (n : Nat), RepL K g F ds vs → RepL K g F (ds.set n d) (vs.set n v)
  | _, _, _, .nil => .nil
  | _, _, 0, .cons _ t => .cons r t
  | _, _, n + 1, .cons h t => .cons h (RepL.set r n t)
theorem repL_strs : ∀ {ts : List Str} {vs : List V}, RepL K g F (ts.map D.str) vs → vs = ts.map V.str
  | [], _, .nil => rfl
  | _ :: _, _, .cons h t => by cases h; rw [repL_strs t]; rfl
theorem repL_ints : ∀ {ts : List Int} {vs : List V}, RepL K g F (ts.map D.int) vs → vs = ts.map V.int
  | [], _, .nil => rfl
  | _ :: _, _, .cons h t => by cases h; rw [repL_ints t]; rfl
theorem repL_bls : ∀ {ts : List Bool} {vs : List V}, RepL K g F (ts.map D.bl) vs → vs = ts.map V.bl
  | [], _, .nil => rfl
  | _ :: _, _, .cons h t => by cases h; rw [repL_bls t]; rfl
theorem repL_of_strs : ∀ (ts : List Str), RepL K g F (ts.map D.str) (ts.map V.str)
  | [] => .nil
  | x :: r => .cons (.str x) (repL_of_strs r)
theorem repL_of_ints : ∀ (ts : List Int), RepL K g F (ts.map D.int) (ts.map V.int)
  | [] => .nil
  | x :: r => .cons (.int x) (repL_of_ints r)
theorem repL_of_bls : ∀ (ts : List Bool), RepL K g F (ts.map D.bl) (ts.map V.bl)
  | [] => .nil
  | x :: r => .cons (.bl x) (repL_of_bls r)
theorem RepL.reverse {ds : List D} {vs : List V} (h : RepL K g F ds vs) : RepL K g F ds.reverse vs.reverse := by
  induction ds generalizing vs with
  | nil => cases h; exact .nil
  | cons d r ih =>
    cases h with
    | cons h1 t1 => rw [List.reverse_cons, List.reverse_cons]; exact (ih t1).append (.cons h1 .nil)
end

/-- a datum whose list at the top may still be somebody's own -/
def RepT (K : PySem.W.Frag) (g : Gp) (c : Option Addr) (F H : Hp) : D → V → Prop
  | .lst ds, v => ∃ p xs, v = .ref p ∧ H p = some (.lst xs) ∧ RepL K g F ds xs ∧ c ≠ some p
  | .dic kds, v => ∃ p kvs, v = .ref p ∧ H p = some (.dK kvs) ∧ kvs.map (·.1) = kds.map (·.1) ∧ RepL K g F (kds.map (·.2)) (kvs.map (·.2)) ∧ c ≠ some p
  | d, v => Rep K g F d v

/-- a slot: nothing known; a datum; a list of one's own; the cask; the script -/
inductive Sl where
  | no | val (d : D) | ow (d : D) | cask | scr (ns : List Int) | tb (qs : List Addr) (rows : List (List D))
/-- a list of one's own -/
abbrev Sl.own (ds : List D) : Sl := .ow (.lst ds)
def Sl.vl : Sl → Option D
  | .val d => some d
  | _ => none
def Sl.rd : Sl → Option D
  | .val d => some d
  | .ow d => some d
  | _ => none
/-- an object of one's own: a list, a dict -/
def ObR (K : PySem.W.Frag) (g : Gp) (F : Hp) : D → HO → Prop
  | .lst ds, u => ∃ xs, u = .lst xs ∧ RepL K g F ds xs
  | .dic kds, u => ∃ kvs, u = .dK kvs ∧ kvs.map (·.1) = kds.map (·.1) ∧ RepL K g F (kds.map (·.2)) (kvs.map (·.2))
  | _, _ => False
/-- rows of a table of one's own -/
inductive RowsR (K : PySem.W.Frag) (g : Gp) (c : Option Addr) (F H : Hp) : List (List D) → List Addr → Prop
  | nil : RowsR K g c F H [] []
  | cons {row : List D} {q : Addr} {xs : List V} {rows : List (List D)} {qs : List Addr} : F q = none → c ≠ some q → H q = some (.lst xs) → RepL K g F row xs → RowsR K g c F H rows qs → RowsR K g c F H (row :: rows) (q :: qs)
def SlR (K : PySem.W.Frag) (g : Gp) (c : Option Addr) (F H : Hp) : Sl → Option (Option V) → Prop
  | .no, _ => True
  | .val d, o => ∃ v, o = some (some v) ∧ Rep K g F d v
  | .ow d, o => ∃ p u, o = some (some (.ref p)) ∧ F p = none ∧ H p = some u ∧ ObR K g F d u ∧ c ≠ some p
  | .cask, o => ∃ a, c = some a ∧ o = some (some (.ref a))
  | .scr ns, o => ∃ a, o = some (some (.ref a)) ∧ SqL K F a (ns.map V.int)
  | .tb qs rows, o => ∃ p, o = some (some (.ref p)) ∧ F p = none ∧ c ≠ some p ∧ H p = some (.lst (qs.map V.ref)) ∧ p ∉ qs ∧ qs.Nodup ∧ RowsR K g c F H rows qs
/-- the addresses of what is one's own -/
def Sl.adr : Sl → Option (Option V) → List Addr
  | .ow _, some (some (.ref p)) => [p]
  | .tb qs _, some (some (.ref p)) => p :: qs
  | _, _ => []
theorem ObR.mono {K : PySem.W.Frag} {g : Gp} {F F' : Hp} (e : Ex F F') {d : D} {u : HO} (h : ObR K g F d u) : ObR K g F' d u := by
  cases d with
  | lst ds => obtain ⟨xs, h1, h2⟩ := h; exact ⟨xs, h1, RepL.mono e h2⟩
  | dic kds => obtain ⟨kvs, h1, h2, h3⟩ := h; exact ⟨kvs, h1, h2, RepL.mono e h3⟩
  | _ => exact h
theorem SlR.own' {K : PySem.W.Frag} {g : Gp} {c : Option Addr} {F H : Hp} {ds : List D} {o : Option (Option V)} (h : SlR K g c F H (.own ds) o) : ∃ p xs, o = some (some (.ref p)) ∧ F p = none ∧ H p = some (.lst xs) ∧ RepL K g F ds xs ∧ c ≠ some p := by
  obtain ⟨p, u, h1, h2, h3, ⟨xs, rfl, h5⟩, h6⟩ := h
  exact ⟨p, xs, h1, h2, h3, h5, h6⟩
theorem SlR.owd' {K : PySem.W.Frag} {g : Gp} {c : Option Addr} {F H : Hp} {kds : List (Key × D)} {o : Option (Option V)} (h : SlR K g c F H (.ow (.dic kds)) o) : ∃ p kvs, o = some (some (.ref p)) ∧ F p = none ∧ H p = some (.dK kvs) ∧ kvs.map (·.1) = kds.map (·.1) ∧ RepL K g F (kds.map (·.2)) (kvs.map (·.2)) ∧ c ≠ some p := by
  obtain ⟨p, u, h1, h2, h3, ⟨kvs, rfl, h4, h5⟩, h6⟩ := h
  exact ⟨p, kvs, h1, h2, h3, h4, h5, h6⟩

theorem RowsR.at {K : PySem.W.Frag} {g : Gp} {c : Option Addr} {F H : Hp} : ∀ {rows : List (List D)} {qs : List Addr} {a : Addr}, RowsR K g c F H rows qs → a ∈ qs → F a = none ∧ c ≠ some a ∧ ∃ u, H a = some u
  | _, _, a, .nil, h => by simp at h
  | _, _, a, .cons h1 h2 h3 _ t, h => by
    rcases List.mem_cons.mp h with rfl | h
    · exact ⟨h1, h2, _, h3⟩
    · exact t.at h
theorem RowsR.keep {K : PySem.W.Frag} {g : Gp} {c : Option Addr} {F H F' H' : Hp} (ex : Ex F F') : ∀ {rows : List (List D)} {qs : List Addr}, RowsR K g c F H rows qs → (∀ a ∈ qs, F' a = none ∧ H' a = H a) → RowsR K g c F' H' rows qs
  | _, _, .nil, _ => .nil
  | _, _, .cons h1 h2 h3 h4 t, k => .cons (k _ (by simp)).1 h2 (by rw [(k _ (by simp)).2]; exact h3) (RepL.mono ex h4) (t.keep ex fun a ha => k a (by simp [ha]))
theorem SlR.at {K : PySem.W.Frag} {g : Gp} {c : Option Addr} {F H : Hp} {s : Sl} {o : Option (Option V)} {a : Addr} (h : SlR K g c F H s o) (ha : a ∈ s.adr o) : F a = none ∧ c ≠ some a ∧ ∃ u, H a = some u := by
  cases s with
  | ow d =>
    obtain ⟨p, u, rfl, h1, h2, _, h4⟩ := h
    rw [show (Sl.ow d).adr (some (some (.ref p))) = [p] from rfl, List.mem_singleton] at ha
    subst ha
    exact ⟨h1, h4, u, h2⟩
  | tb qs rows =>
    obtain ⟨p, rfl, h1, h2, h3, _, _, h6⟩ := h
    rw [show (Sl.tb qs rows).adr (some (some (.ref p))) = p :: qs from rfl] at ha
    rcases List.mem_cons.mp ha with rfl | ha
    · exact ⟨h1, h2, _, h3⟩
    · exact h6.at ha
  | _ => simp [Sl.adr] at ha
theorem SlR.keep {K : PySem.W.Frag} {g : Gp} {c : Option Addr} {F H F' H' : Hp} (ex : Ex F F') {s : Sl} {o : Option (Option V)} (h : SlR K g c F H s o) (k : ∀ a ∈ s.adr o, F' a = none ∧ H' a = H a) : SlR K g c F' H' s o := by
  cases s with
  | no => trivial
  | val d => obtain ⟨v, e, r⟩ := h; exact ⟨v, e, r.mono ex⟩
  | ow d =>
    obtain ⟨p, u, rfl, h1, h2, h3, h4⟩ := h
    have := k p (by simp [Sl.adr])
    exact ⟨p, u, rfl, this.1, by rw [this.2]; exact h2, ObR.mono ex h3, h4⟩
  | cask => exact h
  | scr ns => obtain ⟨a, e, r⟩ := h; exact ⟨a, e, Evl.ex_l ex r⟩
  | tb qs rows =>
    obtain ⟨p, rfl, h1, h2, h3, h4, h5, h6⟩ := h
    have := k p (by simp [Sl.adr])
    exact ⟨p, rfl, this.1, h2, by rw [this.2]; exact h3, h4, h5, h6.keep ex fun a ha => k a (by simp [Sl.adr, ha])⟩
/-- the cask -/
def Ck (g : Gp) (c : Option Addr) (m : Nat) (F H : Hp) : Prop := ∀ a, c = some a → F a = none ∧ ∃ xs, H a = some (.lst xs) ∧ g.ck m xs
structure Rel (K : PySem.W.Frag) (g : Gp) (c : Option Addr) (F : Hp) (env : List Sl) (m : Nat) (σ : St) (H : Hp) : Prop where
  sub : Ex F H
  len : env.length = σ.length
  slot : ∀ (i : Nat) (s : Sl), env[i]? = some s → SlR K g c F H s σ[i]?
  sep : ∀ (i j : Nat) (si sj : Sl) (a : Addr), env[i]? = some si → env[j]? = some sj → a ∈ si.adr σ[i]? → a ∈ sj.adr σ[j]? → i = j
  ck : Ck g c m F H
/-- what an operation does: new objects alone, some of them fixed for good -/
structure New (F H F' H' : Hp) : Prop where
  ff : Ex F F'
  fh : Ex F' H'
  hh : Ex H H'
  new : ∀ a o, F' a = some o → F a = some o ∨ H a = none
/-- what an expression does: the same, but that the cask may turn -/
structure Fresh (c : Option Addr) (F H F' H' : Hp) : Prop where
  ff : Ex F F'
  fh : Ex F' H'
  hh : ∀ a o, H a = some o → c ≠ some a → H' a = some o
  new : ∀ a o, F' a = some o → F a = some o ∨ H a = none
  nc : ∀ a, c = some a → F' a = none
section
variable {K : PySem.W.Frag} {g : Gp} {c : Option Addr} {F F' F1 F2 H H' H1 H2 : Hp} {env : List Sl} {m m' : Nat} {σ : St}
theorem New.refl (e : Ex F H) : New F H F H := ⟨fun _ _ h => h, e, fun _ _ h => h, fun _ _ h => .inl h⟩
theorem ex_none {F H : Hp} {p : Addr} (e : Ex F H) (h : H p = none) : F p = none := by
  cases q : F p with
  | none => rfl
  | some o => rw [e p o q] at h; cases h
/-- a new object, fixed -/
theorem New.fix {p : Addr} {o : HO} (e : Ex F H) (hp : H p = none) : New F H (upd F p o) (upd H p o) where
  ff := Evl.Ex.new (ex_none e hp)
  fh := fun a u h => by
    by_cases q : a = p
    · subst q; rw [upd_same] at h ⊢; exact h
    · rw [upd_ne q] at h ⊢; exact e a u h
  hh := Evl.Ex.new hp
  new := fun a u h => by
    by_cases q : a = p
    · subst q; exact .inr hp
    · rw [upd_ne q] at h; exact .inl h
/-- a new object, not fixed -/
theorem New.lay {p : Addr} {o : HO} (e : Ex F H) (hp : H p = none) : New F H F (upd H p o) where
  ff := fun _ _ h => h
  fh := fun a u h => Evl.Ex.new hp a u (e a u h)
  hh := Evl.Ex.new hp
  new := fun a u h => .inl h
theorem New.trans (a : New F H F1 H1) (b : New F1 H1 F2 H2) : New F H F2 H2 where
  ff := a.ff.trans b.ff
  fh := b.fh
  hh := a.hh.trans b.hh
  new := fun x o h => by
    rcases b.new x o h with q | q
    · exact a.new x o q
    · exact .inr (ex_none a.hh q)
theorem Fresh.refl (e : Ex F H) (k : Ck g c m F H) : Fresh c F H F H := ⟨fun _ _ h => h, e, fun _ _ h _ => h, fun _ _ h => .inl h, fun a h => (k a h).1⟩
theorem Fresh.trans (a : Fresh c F H F1 H1) (b : Fresh c F1 H1 F2 H2) : Fresh c F H F2 H2 where
  ff := a.ff.trans b.ff
  fh := b.fh
  hh := fun x o h n => b.hh x o (a.hh x o h n) n
  nc := b.nc
  new := fun x o h => by
    rcases b.new x o h with q | q
    · exact a.new x o q
    · cases z : H x with
      | none => exact .inr rfl
      | some u =>
        by_cases n : c = some x
        · rw [b.nc x n] at h; cases h
        · rw [a.hh x u z n] at q; cases q
theorem Ck.new (k : Ck g c m F H) (n : New F H F' H') : Ck g c m F' H' := fun a e => by
  obtain ⟨h1, xs, h2, h3⟩ := k a e
  refine ⟨?_, xs, n.hh _ _ h2, h3⟩
  cases q : F' a with
  | none => rfl
  | some o =>
    rcases n.new a o q with z | z
    · rw [h1] at z; cases z
    · rw [h2] at z; cases z
theorem New.fresh (n : New F H F' H') (k : Ck g c m F H) : Fresh c F H F' H' :=
  ⟨n.ff, n.fh, fun a o h _ => n.hh a o h, n.new, fun a e => (k.new n a e).1⟩
theorem RepT.of {d : D} {v : V} (e : Ex F H) (nc : ∀ a, c = some a → F a = none) (h : Rep K g F d v) : RepT K g c F H d v := by
  cases h with
  | lst h r => exact ⟨_, _, rfl, e _ _ h, r, fun z => by rw [nc _ z] at h; cases h⟩
  | non => exact .non
  | bl b => exact .bl b
  | int i => exact .int i
  | str s => exact .str s
  | tup h r => exact .tup h r
  | dic h k r => exact ⟨_, _, rfl, e _ _ h, k, r, fun z => by rw [nc _ z] at h; cases h⟩
  | web h r => exact .web h r
theorem RepT.mono {d : D} {v : V} (n : Fresh c F H F' H') (h : RepT K g c F H d v) : RepT K g c F' H' d v := by
  cases d with
  | lst ds =>
    obtain ⟨p, xs, e, h1, h2, h3⟩ := h
    exact ⟨p, xs, e, n.hh _ _ h1 h3, RepL.mono n.ff h2, h3⟩
  | dic kds =>
    obtain ⟨p, xs, e, h1, hk, h2, h3⟩ := h
    exact ⟨p, xs, e, n.hh _ _ h1 h3, hk, RepL.mono n.ff h2, h3⟩
  | _ => exact Rep.mono n.ff h
theorem SlR.mono {s : Sl} {o : Option (Option V)} (n : Fresh c F H F' H') (h : SlR K g c F H s o) : SlR K g c F' H' s o := h.keep n.ff fun a ha => by
  obtain ⟨h1, h2, u, h3⟩ := h.at ha
  refine ⟨?_, by rw [h3, n.hh a u h3 h2]⟩
  cases q : F' a with
  | none => rfl
  | some u2 =>
    rcases n.new a u2 q with z | z
    · rw [h1] at z; cases z
    · rw [h3] at z; cases z
theorem Rel.fresh (r : Rel K g c F env m σ H) (n : Fresh c F H F' H') (k : Ck g c m' F' H') : Rel K g c F' env m' σ H' :=
  ⟨n.fh, r.len, fun i s h => (r.slot i s h).mono n, r.sep, k⟩
theorem Rel.new (r : Rel K g c F env m σ H) (n : New F H F' H') : Rel K g c F' env m σ H' := r.fresh (n.fresh r.ck) (r.ck.new n)
theorem Rel.nc (r : Rel K g c F env m σ H) : ∀ a, c = some a → F a = none := fun a h => (r.ck a h).1
end

/-! ### readings by data -/
abbrev Env' := List Sl
abbrev DE := Env' → Nat → (D → Nat → Prop) → Prop
abbrev DT := Env' → Nat → (Bool → Nat → Prop) → Prop
abbrev DA := Env' → Nat → (List Sl → Nat → Prop) → Prop
abbrev DL := Env' → Nat → (List D → Nat → Prop) → Prop

/-- arguments: data, the cask, the script -/
def ArgsR (K : PySem.W.Frag) (g : Gp) (c : Option Addr) (F : Hp) : List Sl → List V → Prop := Paired fun s v => match s with
  | .val d => Rep K g F d v
  | .cask => ∃ a, c = some a ∧ v = .ref a
  | .scr ns => ∃ a, v = .ref a ∧ SqL K F a (ns.map V.int)
  | _ => False
section
variable (K : PySem.W.Frag) (g : Gp)
def tD (d : DE) : TE := fun σ H Q' => ∃ c F env m Q, Rel K g c F env m σ H ∧ d env m Q ∧
  ∀ v H' F' m' x, Rel K g c F' env m' σ H' → Fresh c F H F' H' → Rep K g F' x v → Q x m' → Q' v H'
def tB (d : DE) : TE := fun σ H Q' => ∃ c F env m Q, Rel K g c F env m σ H ∧ d env m Q ∧
  ∀ v H' F' m' x, Rel K g c F' env m' σ H' → Fresh c F H F' H' → RepT K g c F' H' x v → Q x m' → Q' v H'
/-- a new list that is nobody's -/
def tN (d : DL) : TE := fun σ H Q' => ∃ c F env m Q, Rel K g c F env m σ H ∧ d env m Q ∧
  ∀ p H' F' m' ds xs, Rel K g c F' env m' σ H' → Fresh c F H F' H' → H p = none → F' p = none → c ≠ some p → H' p = some (.lst xs) → RepL K g F' ds xs → Q ds m' → Q' (.ref p) H'
def tT (d : DT) : TT := fun σ H Q' => ∃ c F env m Q, Rel K g c F env m σ H ∧ d env m Q ∧
  ∀ b H' F' m', Rel K g c F' env m' σ H' → Fresh c F H F' H' → Q b m' → Q' b H'
def tAr (d : DA) : TA := fun σ H Q' => ∃ c F env m Q, Rel K g c F env m σ H ∧ d env m Q ∧
  ∀ vs H' F' m' as, Rel K g c F' env m' σ H' → Fresh c F H F' H' → ArgsR K g c F' as vs → Q as m' → Q' vs H'
/-- arguments of built-ins: data, the lists at the top perhaps somebody's own -/
def RepTs (c : Option Addr) (F H : Hp) : List D → List V → Prop := Paired (RepT K g c F H)
def tAb (d : DL) : TA := fun σ H Q' => ∃ c F env m Q, Rel K g c F env m σ H ∧ d env m Q ∧
  ∀ vs H' F' m' ds, Rel K g c F' env m' σ H' → Fresh c F H F' H' → RepTs K g c F' H' ds vs → Q ds m' → Q' vs H'
end
def GE (g : Gp) (X : Cx) (e : Expr) (d : DE) : Prop := PE X e (tD X.K g d)
def GB (g : Gp) (X : Cx) (e : Expr) (d : DE) : Prop := PE X e (tB X.K g d)
def GN (g : Gp) (X : Cx) (e : Expr) (d : DL) : Prop := PE X e (tN X.K g d)
def GT (g : Gp) (X : Cx) (e : Expr) (d : DT) : Prop := PT X e (tT X.K g d)
def GA (g : Gp) (X : Cx) (es : List Expr) (d : DA) : Prop := PA X es (tAr X.K g d)
def GAb (g : Gp) (X : Cx) (es : List Expr) (d : DL) : Prop := PA X es (tAb X.K g d)
theorem PE.weak {X : Cx} {e : Expr} {t t' : TE} (h : PE X e t) (w : ∀ σ H Q, t' σ H Q → t σ H Q) : PE X e t' := ⟨fun pins s σ H Q I q => h.run pins s σ H Q I (w σ H Q q)⟩
theorem PT.weak {X : Cx} {e : Expr} {t t' : TT} (h : PT X e t) (w : ∀ σ H Q, t' σ H Q → t σ H Q) : PT X e t' := ⟨fun pins s σ H Q I q => h.run pins s σ H Q I (w σ H Q q)⟩
theorem PW.weak {X : Cx} {e : Expr} {t t' : TT} (h : PW X e t) (w : ∀ σ H Q, t' σ H Q → t σ H Q) : PW X e t' := ⟨fun wh pins s σ H Q I q => h.run wh pins s σ H Q I (w σ H Q q)⟩
theorem PA.weak {X : Cx} {es : List Expr} {t t' : TA} (h : PA X es t) (w : ∀ σ H Q, t' σ H Q → t σ H Q) : PA X es t' := ⟨fun pos pins s σ H Q I q => h.run pos pins s σ H Q I (w σ H Q q)⟩
theorem PS.weak {X : Cx} {e : Stmt} {t t' : TS} (h : PS X e t) (w : ∀ D σ H, t' D σ H → t D σ H) : PS X e t' := ⟨fun pins s σ H D I q => h.run pins s σ H D I (w D σ H q)⟩
theorem PSs.weak {X : Cx} {e : List Stmt} {t t' : TS} (h : PSs X e t) (w : ∀ D σ H, t' D σ H → t D σ H) : PSs X e t' := ⟨fun pins s σ H D I q => h.run pins s σ H D I (w D σ H q)⟩

section
variable {g : Gp} {X : Cx} {a b e : Expr} {es : List Expr} {da db d : DE} {pos : Pos}
theorem gb_e (h : GE g X e d) : GB g X e d := PE.weak h fun σ H Q ⟨c, F, env, m, Q1, r, hd, k⟩ => ⟨c, F, env, m, Q1, r, hd, fun v H' F' m' x r' f rep q => k v H' F' m' x r' f (RepT.of r'.sub r'.nc rep) q⟩
def dNew (d : DL) : DE := fun env m Q => d env m fun ds m' => Q (.lst ds) m'
theorem fix_fresh {K : PySem.W.Frag} {c : Option Addr} {F H F' H' : Hp} {p : Addr} {xs : List V} (f : Fresh c F H F' H') (h0 : H p = none) (hp : F' p = none) (hc : c ≠ some p) (h1 : H' p = some (.lst xs)) : Fresh c F H (upd F' p (.lst xs)) H' where
  ff := f.ff.trans (Evl.Ex.new hp)
  fh := fun a o z => by
    by_cases y : a = p
    · subst y; rw [upd_same] at z; rw [← z]; exact h1
    · rw [upd_ne y] at z; exact f.fh a o z
  hh := f.hh
  new := fun a o z => by
    by_cases y : a = p
    · subst y; exact .inr h0
    · rw [upd_ne y] at z; exact f.new a o z
  nc := fun a e => by
    have y : a ≠ p := fun q => hc (q ▸ e)
    rw [upd_ne y]; exact f.nc a e
theorem ge_n {d : DL} (h : GN g X e d) : GE g X e (dNew d) := PE.weak h fun σ H Q ⟨c, F, env, m, Q1, r, hd, k⟩ => ⟨c, F, env, m, _, r, hd, fun p H' F' m' ds xs r' f h0 hp hc h1 h2 q => by
  have n := fix_fresh (K := X.K) f h0 hp hc h1
  refine k _ H' _ m' _ (r.fresh n fun a e => ?_) n (.lst upd_same (RepL.mono (Evl.Ex.new hp) h2)) q
  exact ⟨n.nc a e, (r'.ck a e).2⟩⟩
end
end G
namespace G
open PySem L2

section
variable {K : PySem.W.Frag} {g : Gp} {c : Option Addr} {F H : Hp} {v : V}
theorem RepT.non' (h : RepT K g c F H .non v) : v = .non := by have h' : Rep K g F .non v := h; cases h'; rfl
theorem RepT.bl' {b : Bool} (h : RepT K g c F H (.bl b) v) : v = .bl b := by have h' : Rep K g F (.bl b) v := h; cases h'; rfl
theorem RepT.int' {i : Int} (h : RepT K g c F H (.int i) v) : v = .int i := by have h' : Rep K g F (.int i) v := h; cases h'; rfl
theorem RepT.str' {s : Str} (h : RepT K g c F H (.str s) v) : v = .str s := by have h' : Rep K g F (.str s) v := h; cases h'; rfl
theorem RepT.tup' {ds : List D} (h : RepT K g c F H (.tup ds) v) : ∃ a xs, v = .ref a ∧ SqT K F a xs ∧ RepL K g F ds xs := by
  have h' : Rep K g F (.tup ds) v := h
  cases h' with
  | tup q r => exact ⟨_, _, rfl, q, r⟩
theorem RepT.dic' {kds : List (Key × D)} (h : RepT K g c F H (.dic kds) v) : ∃ a kvs, v = .ref a ∧ H a = some (.dK kvs) ∧ kvs.map (·.1) = kds.map (·.1) ∧ RepL K g F (kds.map (·.2)) (kvs.map (·.2)) ∧ c ≠ some a := h
theorem RepT.web' {pl : Str} {ts : List Str} (h : RepT K g c F H (.web pl ts) v) : ∃ a dx t, v = .ref a ∧ F a = some (.ins g.Cw dx [("places", .str pl), ("ties", .ref t)]) ∧ SqT K F t (ts.map V.str) := by
  have h' : Rep K g F (.web pl ts) v := h
  cases h' with
  | web q r => exact ⟨_, _, _, rfl, q, r⟩
/-- the length line of the layer -/
abbrev LL : Nat := 100000
theorem ll {n : Nat} (h : n ≤ LL) : n ≤ sizeLine := Evl.sz_of h
theorem ll' {n : Nat} (h : n < LL) : n < sizeLine := Evl.sz_lt h
end

/-! ### names, constants -/
def dVar (i : Nat) : DE := fun env m Q => ∃ d, (env[i]?).bind Sl.vl = some d ∧ Q d m
def dVarB (i : Nat) : DE := fun env m Q => ∃ d, (env[i]?).bind Sl.rd = some d ∧ Q d m
def dC (d : D) : DE := fun _ m Q => Q d m
section
variable {g : Gp} {X : Cx} {a b e : Expr} {es : List Expr} {da db d : DE} {pos : Pos}
theorem vl_some {env : Env'} {i : Nat} {d : D} (h : (env[i]?).bind Sl.vl = some d) : env[i]? = some (.val d) := by
  cases q : env[i]? with
  | none => rw [q] at h; cases h
  | some s =>
    rw [q] at h
    cases s with
    | val x => cases h; rfl
    | _ => cases h
theorem gv (i : Nat) {x : Str} (hN : X.N[i]? = some x := by rfl) (hv : Vis X.env.scope x := by first | exact Or.inl rfl | exact Or.inr (Or.inl rfl) | exact Or.inr (Or.inr rfl)) (hd : (x == ("__debug__" : Str)) = false := by decide)
    (hcd : (x == ("__classdict__" : Str)) = false := by decide) : GE g X (.Name x pos) (dVar i) := PE.weak (pe_var hN hv hd hcd) fun σ H Q ⟨c, F, env, m, Q1, r, ⟨d, hd, q⟩, k⟩ => by
  obtain ⟨v, e, rp⟩ := r.slot i _ (vl_some hd)
  exact ⟨v, e, k v H F m d r (Fresh.refl r.sub r.ck) rp q⟩
theorem gvb (i : Nat) {x : Str} (hN : X.N[i]? = some x := by rfl) (hv : Vis X.env.scope x := by first | exact Or.inl rfl | exact Or.inr (Or.inl rfl) | exact Or.inr (Or.inr rfl)) (hd : (x == ("__debug__" : Str)) = false := by decide)
    (hcd : (x == ("__classdict__" : Str)) = false := by decide) : GB g X (.Name x pos) (dVarB i) := PE.weak (pe_var hN hv hd hcd) fun σ H Q ⟨c, F, env, m, Q1, r, ⟨d, hd, q⟩, k⟩ => by
  cases z : env[i]? with
  | none => rw [z] at hd; cases hd
  | some s =>
    rw [z] at hd
    have w := r.slot i s z
    cases s with
    | val x =>
      cases hd
      obtain ⟨v, e, rp⟩ := w
      exact ⟨v, e, k v H F m _ r (Fresh.refl r.sub r.ck) (RepT.of r.sub r.nc rp) q⟩
    | ow d =>
      cases hd
      obtain ⟨p, u, e, h1, h2, h3, h4⟩ := w
      cases d with
      | lst ds =>
        obtain ⟨xs, rfl, h3⟩ := h3
        exact ⟨.ref p, e, k _ H F m (.lst ds) r (Fresh.refl r.sub r.ck) ⟨p, xs, rfl, h2, h3, h4⟩ q⟩
      | dic kds =>
        obtain ⟨kvs, rfl, hk, h3⟩ := h3
        exact ⟨.ref p, e, k _ H F m (.dic kds) r (Fresh.refl r.sub r.ck) ⟨p, kvs, rfl, h2, hk, h3, h4⟩ q⟩
      | _ => exact h3.elim
    | _ => cases hd
theorem ge_const {v : V} {t : TE} (h : PE X e (tC v)) (rp : ∀ F, Rep X.K g F d' v) : GE g X e (dC d') := PE.weak h fun σ H Q ⟨c, F, env, m, Q1, r, q, k⟩ => k v H F m _ r (Fresh.refl r.sub r.ck) (rp F) q
theorem ge_int {i j} : GE g X (.Constant (.int i) j pos) (dC (.int i)) := ge_const (t := fun _ _ _ => True) pe_int fun _ => .int i
theorem ge_str {x j} : GE g X (.Constant (.str x) j pos) (dC (.str x)) := ge_const (t := fun _ _ _ => True) pe_str fun _ => .str x
theorem ge_bl {x j} : GE g X (.Constant (.bool x) j pos) (dC (.bl x)) := ge_const (t := fun _ _ _ => True) pe_bl fun _ => .bl x
theorem ge_non {j} : GE g X (.Constant .none j pos) (dC .non) := ge_const (t := fun _ _ _ => True) pe_non fun _ => .non
theorem ge_globI {x : Str} {i : Int} {t : Tok} (hg : Gl X x) (hm : X.mg x = some (.int i t)) (hd : (x == ("__debug__" : Str)) = false := by decide) : GE g X (.Name x pos) (dC (.int i)) := ge_const (t := fun _ _ _ => True) (pe_glob (v := .int i) hg hm ⟨_, rfl⟩ hd) fun _ => .int i
theorem ge_globS {x : Str} {i : Str} {t : Tok} (hg : Gl X x) (hm : X.mg x = some (.str i t)) (hd : (x == ("__debug__" : Str)) = false := by decide) : GE g X (.Name x pos) (dC (.str i)) := ge_const (t := fun _ _ _ => True) (pe_glob (v := .str i) hg hm ⟨_, rfl⟩ hd) fun _ => .str i

/-! ### operators -/
def OpD (K : PySem.W.Frag) (g : Gp) (r : R2) (f : D → D → Option D) : Prop := ∀ (c : Option Addr) (F H : Hp) (x y z : D) (v w : V) (Q' : VK), Ex F H → (∀ a, c = some a → F a = none) →
  RepT K g c F H x v → RepT K g c F H y w → f x y = some z → (∀ v' H' F', New F H F' H' → Rep K g F' z v' → Q' v' H') → r v w H Q'
def dOp (f : D → D → Option D) (da db : DE) : DE := fun env m Q => da env m fun x m1 => db env m1 fun y m2 => ∃ z, f x y = some z ∧ Q z m2
theorem op_weak {r : R2} {f : D → D → Option D} (od : OpD X.K g r f) : ∀ σ H Q, tD X.K g (dOp f da db) σ H Q → tOp r (tB X.K g da) (tB X.K g db) σ H Q := fun σ H Q ⟨c, F, env, m, Q1, rl, hd, k⟩ =>
  ⟨c, F, env, m, _, rl, hd, fun v H1 F1 m1 x r1 f1 rp1 q1 => ⟨c, F1, env, m1, _, r1, q1, fun w H2 F2 m2 y r2 f2 rp2 ⟨z, hz, q2⟩ =>
    od c F2 H2 x y z v w Q r2.sub r2.nc (rp1.mono f2) rp2 hz fun v' H' F' n rp => k v' H' F' m2 z (r2.new n) ((f1.trans f2).trans (n.fresh r2.ck)) rp q2⟩⟩
theorem ge_op {op : Operator} {r : R2} {f : D → D → Option D} (ho : OpR X (binaryOp op) r) (od : OpD X.K g r f) (ha : GB g X a da) (hb : GB g X b db) : GE g X (.BinOp a op b pos) (dOp f da db) := PE.weak (pe_op ho ha hb) (op_weak od)
theorem ge_cmp {op : CmpOp} {r : R2} {f : D → D → Option D} (ho : OpR X (compareOp op) r) (od : OpD X.K g r f) (ha : GB g X a da) (hb : GB g X b db) (hm : behindInMarks op b = false) : GE g X (.Compare a [op] [b] pos) (dOp f da db) := PE.weak (pe_cmpR ho ha hb hm) (op_weak od)
def dTest (d : DE) : DT := fun env m Q => d env m fun x m1 => ∃ b, x = .bl b ∧ Q b m1
theorem test_weak {t : TE} (w : ∀ σ H Q, tD X.K g d σ H Q → t σ H Q) : ∀ σ H Q, tT X.K g (dTest d) σ H Q → tTest t σ H Q := fun σ H Q ⟨c, F, env, m, Q1, rl, hd, k⟩ => by
  refine w σ H _ ⟨c, F, env, m, _, rl, hd, fun v H' F' m' x r' f' rp q => ?_⟩
  obtain ⟨b, rfl, q⟩ := q
  cases rp
  exact ⟨b, rfl, k b H' F' m' r' f' q⟩
theorem gt_cmp {op : CmpOp} {r : R2} {f : D → D → Option D} (ho : OpR X (compareOp op) r) (od : OpD X.K g r f) (ha : GB g X a da) (hb : GB g X b db) (hm : behindInMarks op b = false) : GT g X (.Compare a [op] [b] pos) (dTest (dOp f da db)) :=
  PT.weak (pt_cmpR ho ha hb hm) (test_weak (op_weak od))
theorem gt_val (h : GE g X e d) (he : ∀ whole, isTrue e X.env whole = (do let v ← whole; standAt e.pos; holding [v] (truthy v)) := by intro _; rfl) : GT g X e (dTest d) :=
  PT.weak (pt_val h he) (test_weak (t := tD X.K g d) fun _ _ _ h => h)
/-- a op b op' c -/
def dChain (f f' : D → D → Option D) (da db dc : DE) : DE := fun env m Q => da env m fun x m1 => db env m1 fun y m2 => ∃ b, f x y = some (.bl b) ∧ if b = true then dc env m2 fun z m3 => ∃ u, f' y z = some u ∧ Q u m3 else Q (.bl false) m2
variable {cc : Expr} {dc : DE}
theorem chain_weak {r r' : R2} {f f' : D → D → Option D} (od : OpD X.K g r f) (od' : OpD X.K g r' f') (scal : ∀ x y b, f x y = some b → True) : ∀ σ H Q, tD X.K g (dChain f f' da db dc) σ H Q → tChain r r' (tB X.K g da) (tB X.K g db) (tB X.K g dc) σ H Q := fun σ H Q ⟨c, F, env, m, Q1, rl, hd, k⟩ =>
  ⟨c, F, env, m, _, rl, hd, fun v H1 F1 m1 x r1 f1 rp1 q1 => ⟨c, F1, env, m1, _, r1, q1, fun w H2 F2 m2 y r2 f2 rp2 ⟨b, hz, q2⟩ =>
    od c F2 H2 x y _ v w _ r2.sub r2.nc (rp1.mono f2) rp2 hz fun v' H' F' n rp => by
      cases rp
      refine ⟨b, rfl, ?_⟩
      have r3 := r2.new n
      have f3 := (f1.trans f2).trans (n.fresh r2.ck)
      cases b with
      | false => exact k _ H' F' m2 _ r3 f3 (.bl false) q2
      | true =>
        exact ⟨c, F', env, m2, _, r3, q2, fun u H4 F4 m4 z r4 f4 rp4 ⟨o, ho, q4⟩ =>
          od' c F4 H4 y z o w u Q r4.sub r4.nc ((rp2.mono (n.fresh r2.ck)).mono f4) rp4 ho fun v5 H5 F5 n5 rp5 => k v5 H5 F5 m4 o (r4.new n5) ((f3.trans f4).trans (n5.fresh r4.ck)) rp5 q4⟩⟩⟩
theorem ge_chain {op op' : CmpOp} {r r' : R2} {f f' : D → D → Option D} (ho : OpR X (compareOp op) r) (ho' : OpR X (compareOp op') r') (od : OpD X.K g r f) (od' : OpD X.K g r' f') (ha : GB g X a da) (hb : GB g X b db) (hc : GB g X cc dc)
    (hl : lastMarks [op, op'] [b, cc] = false := by with_unfolding_all rfl) : GE g X (.Compare a [op, op'] [b, cc] pos) (dChain f f' da db dc) :=
  PE.weak (pe_chain ho ho' ha hb hc hl) (chain_weak od od' fun _ _ _ _ => trivial)
theorem gt_chain {op op' : CmpOp} {r r' : R2} {f f' : D → D → Option D} (ho : OpR X (compareOp op) r) (ho' : OpR X (compareOp op') r') (od : OpD X.K g r f) (od' : OpD X.K g r' f') (ha : GB g X a da) (hb : GB g X b db) (hc : GB g X cc dc)
    (hl : lastMarks [op, op'] [b, cc] = false := by with_unfolding_all rfl) : GT g X (.Compare a [op, op'] [b, cc] pos) (dTest (dChain f f' da db dc)) :=
  PT.weak (pt_chain ho ho' ha hb hc hl) (test_weak (chain_weak od od' fun _ _ _ _ => trivial))

/-! ### and, or, not, if else -/
variable {t u : DT} {rest : List Expr}
def GW (g : Gp) (X : Cx) (e : Expr) (d : DT) : Prop := PW X e (tT X.K g d)
def dAnd (t u : DT) : DT := fun env m Q => t env m fun b m1 => if b = true then u env m1 Q else Q false m1
def dOr (t u : DT) : DT := fun env m Q => t env m fun b m1 => if b = true then Q true m1 else u env m1 Q
def dNot (t : DT) : DT := fun env m Q => t env m fun b m1 => Q (!b) m1
theorem gw_pt (h : GW g X e t) : GT g X e t := PW.pt h
theorem gw_and1 (h : GT g X a t) : GW g X (.BoolOp .And [a] pos) t := pw_and1 h
theorem gw_or1 (h : GT g X a t) : GW g X (.BoolOp .Or [a] pos) t := pw_or1 h
theorem gw_and (ha : GT g X a t) (hb : GW g X (.BoolOp .And (b :: rest) pos) u) : GW g X (.BoolOp .And (a :: b :: rest) pos) (dAnd t u) := PW.weak (pw_and ha hb) fun σ H Q ⟨c, F, env, m, Q1, rl, hd, k⟩ =>
  ⟨c, F, env, m, _, rl, hd, fun x H1 F1 m1 r1 f1 q1 => by
    cases x with
    | true => exact ⟨c, F1, env, m1, _, r1, q1, fun y H2 F2 m2 r2 f2 q2 => k y H2 F2 m2 r2 (f1.trans f2) q2⟩
    | false => exact k false H1 F1 m1 r1 f1 q1⟩
theorem gw_or (ha : GT g X a t) (hb : GW g X (.BoolOp .Or (b :: rest) pos) u) : GW g X (.BoolOp .Or (a :: b :: rest) pos) (dOr t u) := PW.weak (pw_or ha hb) fun σ H Q ⟨c, F, env, m, Q1, rl, hd, k⟩ =>
  ⟨c, F, env, m, _, rl, hd, fun x H1 F1 m1 r1 f1 q1 => by
    cases x with
    | false => exact ⟨c, F1, env, m1, _, r1, q1, fun y H2 F2 m2 r2 f2 q2 => k y H2 F2 m2 r2 (f1.trans f2) q2⟩
    | true => exact k true H1 F1 m1 r1 f1 q1⟩
theorem gt_not (ha : GT g X a t) : GT g X (.UnaryOp .Not a pos) (dNot t) := PT.weak (pt_not ha) fun σ H Q ⟨c, F, env, m, Q1, rl, hd, k⟩ => ⟨c, F, env, m, _, rl, hd, fun x H1 F1 m1 r1 f1 q1 => k _ H1 F1 m1 r1 f1 q1⟩
def dIfE (t : DT) (da db : DE) : DE := fun env m Q => t env m fun b m1 => if b = true then da env m1 Q else db env m1 Q
theorem ge_if {t : DT} (hc : GT g X cc t) (ha : GE g X a da) (hb : GE g X b db) : GE g X (.IfExp cc a b pos) (dIfE t da db) := PE.weak (pe_ifExp hc ha hb) fun σ H Q ⟨c, F, env, m, Q1, rl, hd, k⟩ =>
  ⟨c, F, env, m, _, rl, hd, fun x H1 F1 m1 r1 f1 q1 => by
    cases x with
    | true => exact ⟨c, F1, env, m1, _, r1, q1, fun y H2 F2 m2 z r2 f2 rp q2 => k y H2 F2 m2 z r2 (f1.trans f2) rp q2⟩
    | false => exact ⟨c, F1, env, m1, _, r1, q1, fun y H2 F2 m2 z r2 f2 rp q2 => k y H2 F2 m2 z r2 (f1.trans f2) rp q2⟩⟩
/-- as values, of truths -/
def dAndV (da db : DE) : DE := fun env m Q => da env m fun x m1 => ∃ b, x = .bl b ∧ if b = true then db env m1 Q else Q (.bl false) m1
def dOrV (da db : DE) : DE := fun env m Q => da env m fun x m1 => ∃ b, x = .bl b ∧ if b = true then Q (.bl true) m1 else db env m1 Q
def dNotV (da : DE) : DE := fun env m Q => da env m fun x m1 => ∃ b, x = .bl b ∧ Q (.bl (!b)) m1
theorem ge_one {op} (h : GE g X a da) : GE g X (.BoolOp op [a] pos) da := pe_one h
theorem ge_and (ha : GE g X a da) (hb : GE g X (.BoolOp .And (b :: rest) pos) db) : GE g X (.BoolOp .And (a :: b :: rest) pos) (dAndV da db) := PE.weak (pe_and ha hb) fun σ H Q ⟨c, F, env, m, Q1, rl, hd, k⟩ =>
  ⟨c, F, env, m, _, rl, hd, fun v H1 F1 m1 x r1 f1 rp ⟨y, hy, q1⟩ => by
    subst hy
    cases rp
    refine ⟨y, rfl, ?_⟩
    cases y with
    | true => exact ⟨c, F1, env, m1, _, r1, q1, fun y H2 F2 m2 z r2 f2 rp q2 => k y H2 F2 m2 z r2 (f1.trans f2) rp q2⟩
    | false => exact k _ H1 F1 m1 _ r1 f1 (.bl false) q1⟩
theorem ge_or (ha : GE g X a da) (hb : GE g X (.BoolOp .Or (b :: rest) pos) db) : GE g X (.BoolOp .Or (a :: b :: rest) pos) (dOrV da db) := PE.weak (pe_or ha hb) fun σ H Q ⟨c, F, env, m, Q1, rl, hd, k⟩ =>
  ⟨c, F, env, m, _, rl, hd, fun v H1 F1 m1 x r1 f1 rp ⟨y, hy, q1⟩ => by
    subst hy
    cases rp
    refine ⟨y, rfl, ?_⟩
    cases y with
    | false => exact ⟨c, F1, env, m1, _, r1, q1, fun y H2 F2 m2 z r2 f2 rp q2 => k y H2 F2 m2 z r2 (f1.trans f2) rp q2⟩
    | true => exact k _ H1 F1 m1 _ r1 f1 (.bl true) q1⟩
theorem ge_not (ha : GE g X a da) : GE g X (.UnaryOp .Not a pos) (dNotV da) := PE.weak (pe_not ha) fun σ H Q ⟨c, F, env, m, Q1, rl, hd, k⟩ =>
  ⟨c, F, env, m, _, rl, hd, fun v H1 F1 m1 x r1 f1 rp ⟨y, hy, q1⟩ => by
    subst hy
    cases rp
    exact ⟨y, rfl, k _ H1 F1 m1 _ r1 f1 (.bl _) q1⟩⟩

/-! ### arguments, displays -/
def dNilA : DA := fun _ m Q => Q [] m
def dConsA (d : DE) (r : DA) : DA := fun env m Q => d env m fun x m1 => r env m1 fun as m2 => Q (.val x :: as) m2
/-- the cask's or the script's own name as an argument -/
def dConsC (i : Nat) (r : DA) : DA := fun env m Q => ∃ s, env[i]? = some s ∧ (s = .cask ∨ ∃ ns, s = .scr ns) ∧ r env m fun as m2 => Q (s :: as) m2
variable {dr : DA}
theorem ArgsR.mono {K : PySem.W.Frag} {c : Option Addr} {F F' : Hp} (e : Ex F F') : ∀ {as : List Sl} {vs : List V}, ArgsR K g c F as vs → ArgsR K g c F' as vs
  | _, _, .nil => .nil
  | s :: _, _, .cons h t => .cons (by
      cases s with
      | val d => exact Rep.mono e h
      | cask => exact h
      | scr ns => obtain ⟨a, e1, e2⟩ := h; exact ⟨a, e1, Evl.ex_l e e2⟩
      | no => exact h
      | ow ds => exact h
      | tb qs rows => exact h) (ArgsR.mono e t)
theorem ga_nil : GA g X [] dNilA := PA.weak pa_nil fun σ H Q ⟨c, F, env, m, Q1, rl, hd, k⟩ => k [] H F m [] rl (Fresh.refl rl.sub rl.ck) .nil hd
theorem ga_cons (ha : GE g X e d) (hr : GA g X es dr) (hs : starEach (e :: es) X.env = (false, eval e X.env) :: starEach es X.env := by rfl) : GA g X (e :: es) (dConsA d dr) := PA.weak (pa_cons ha hr hs) fun σ H Q ⟨c, F, env, m, Q1, rl, hd, k⟩ =>
  ⟨c, F, env, m, _, rl, hd, fun v H1 F1 m1 x r1 f1 rp q1 => ⟨c, F1, env, m1, _, r1, q1, fun vs H2 F2 m2 as r2 f2 rps q2 => k _ H2 F2 m2 _ r2 (f1.trans f2) (.cons (rp.mono f2.ff) rps) q2⟩⟩
theorem ga_cask (i : Nat) {x : Str} (hr : GA g X es dr) (hN : X.N[i]? = some x := by rfl) (hv : Vis X.env.scope x := by first | exact Or.inl rfl | exact Or.inr (Or.inl rfl) | exact Or.inr (Or.inr rfl)) (hd : (x == ("__debug__" : Str)) = false := by decide)
    (hcd : (x == ("__classdict__" : Str)) = false := by decide) (hs : starEach (.Name x pos :: es) X.env = (false, eval (.Name x pos) X.env) :: starEach es X.env := by rfl) : GA g X (.Name x pos :: es) (dConsC i dr) :=
  PA.weak (pa_cons (pe_var hN hv hd hcd) hr hs) fun σ H Q ⟨c, F, env, m, Q1, rl, ⟨s, e1, e2, q⟩, k⟩ => by
    have w := rl.slot i s e1
    rcases e2 with rfl | ⟨ns, rfl⟩
    · obtain ⟨a, ca, ea⟩ := w
      exact ⟨.ref a, ea, c, F, env, m, _, rl, q, fun vs H2 F2 m2 as r2 f2 rps q2 => k _ H2 F2 m2 (.cask :: as) r2 f2 (.cons ⟨a, ca, rfl⟩ rps) q2⟩
    · obtain ⟨a, ea, ca⟩ := w
      exact ⟨.ref a, ea, c, F, env, m, _, rl, q, fun vs H2 F2 m2 as r2 f2 rps q2 => k _ H2 F2 m2 (.scr ns :: as) r2 f2 (.cons ⟨a, rfl, Evl.ex_l f2.ff ca⟩ rps) q2⟩
/-- data alone -/
def dNilL : DL := fun _ m Q => Q [] m
def dConsL (d : DE) (r : DL) : DL := fun env m Q => d env m fun x m1 => r env m1 fun ds m2 => Q (x :: ds) m2
variable {dl : DL}
theorem RepTs.mono {K : PySem.W.Frag} {c : Option Addr} {F F' H H' : Hp} (n : Fresh c F H F' H') : ∀ {ds : List D} {vs : List V}, RepTs K g c F H ds vs → RepTs K g c F' H' ds vs
  | _, _, .nil => .nil
  | _, _, .cons h t => .cons (h.mono n) (RepTs.mono n t)
theorem gab_nil : GAb g X [] dNilL := PA.weak pa_nil fun σ H Q ⟨c, F, env, m, Q1, rl, hd, k⟩ => k [] H F m [] rl (Fresh.refl rl.sub rl.ck) .nil hd
theorem gab_cons (ha : GB g X e d) (hr : GAb g X es dl) (hs : starEach (e :: es) X.env = (false, eval e X.env) :: starEach es X.env := by rfl) : GAb g X (e :: es) (dConsL d dl) := PA.weak (pa_cons ha hr hs) fun σ H Q ⟨c, F, env, m, Q1, rl, hd, k⟩ =>
  ⟨c, F, env, m, _, rl, hd, fun v H1 F1 m1 x r1 f1 rp q1 => ⟨c, F1, env, m1, _, r1, q1, fun vs H2 F2 m2 as r2 f2 rps q2 => k _ H2 F2 m2 _ r2 (f1.trans f2) (.cons (rp.mono f2) rps) q2⟩⟩
/-- items of a display: fixed data -/
def tAl (K : PySem.W.Frag) (g : Gp) (d : DL) : TA := fun σ H Q' => ∃ c F env m Q, Rel K g c F env m σ H ∧ d env m Q ∧
  ∀ vs H' F' m' ds, Rel K g c F' env m' σ H' → Fresh c F H F' H' → RepL K g F' ds vs → Q ds m' → Q' vs H'
def GAl (g : Gp) (X : Cx) (es : List Expr) (d : DL) : Prop := PA X es (tAl X.K g d)
theorem gal_nil : GAl g X [] dNilL := PA.weak pa_nil fun σ H Q ⟨c, F, env, m, Q1, rl, hd, k⟩ => k [] H F m [] rl (Fresh.refl rl.sub rl.ck) .nil hd
theorem gal_cons (ha : GE g X e d) (hr : GAl g X es dl) (hs : starEach (e :: es) X.env = (false, eval e X.env) :: starEach es X.env := by rfl) : GAl g X (e :: es) (dConsL d dl) := PA.weak (pa_cons ha hr hs) fun σ H Q ⟨c, F, env, m, Q1, rl, hd, k⟩ =>
  ⟨c, F, env, m, _, rl, hd, fun v H1 F1 m1 x r1 f1 rp q1 => ⟨c, F1, env, m1, _, r1, q1, fun vs H2 F2 m2 as r2 f2 rps q2 => k _ H2 F2 m2 _ r2 (f1.trans f2) (.cons (rp.mono f2.ff) rps) q2⟩⟩
def dTup (d : DL) : DE := fun env m Q => d env m fun ds m1 => ds.length ≤ LL ∧ Q (.tup ds) m1
def dLst (d : DL) : DL := fun env m Q => d env m fun ds m1 => ds.length ≤ LL ∧ Q ds m1
theorem ge_tup {x1} (h : GAl g X es dl) : GE g X (.Tuple es x1 pos) (dTup dl) := PE.weak (pe_tup h) fun σ H Q ⟨c, F, env, m, Q1, rl, hd, k⟩ =>
  ⟨c, F, env, m, _, rl, hd, fun vs H1 F1 m1 ds r1 f1 rp ⟨hz, q1⟩ => ⟨ll (by rw [rp.length]; exact hz), fun p hp => by
    have n := New.fix (F := F1) (o := .tup vs) r1.sub hp
    exact k _ _ _ m1 _ (r1.new n) (f1.trans (n.fresh r1.ck)) (.tup (SqT.of upd_same) (rp.mono n.ff)) q1⟩⟩
theorem gn_lst (h : GAl g X es dl) : GN g X (.List es pos) (dLst dl) := PE.weak (pe_lst h) fun σ H Q ⟨c, F, env, m, Q1, rl, hd, k⟩ =>
  ⟨c, F, env, m, _, rl, hd, fun vs H1 F1 m1 ds r1 f1 rp ⟨hz, q1⟩ => ⟨ll (by rw [rp.length]; exact hz), fun p hp => by
    have n := New.lay (F := F1) (o := .lst vs) r1.sub hp
    refine k p _ _ m1 ds vs (r1.new n) (f1.trans (n.fresh r1.ck)) ?_ (ex_none r1.sub hp) (fun z => ?_) upd_same rp q1
    · cases q : H p with
      | none => rfl
      | some o =>
        by_cases z : c = some p
        · obtain ⟨_, _, e, _⟩ := r1.ck p z; rw [e] at hp; cases hp
        · rw [f1.hh p o q z] at hp; cases hp
    · obtain ⟨_, _, e, _⟩ := r1.ck p z; rw [e] at hp; cases hp⟩⟩
end
end G
namespace G
open PySem L2

/-! ### arithmetic, comparisons: on data -/
def addD : D → D → Option D
  | .int i, .int j => some (.int (i + j))
  | .str a, .str b => if a.length + b.length ≤ LL then some (.str (a ++ b)) else none
  | .tup a, .tup b => if a.length + b.length ≤ LL then some (.tup (a ++ b)) else none
  | .lst a, .lst b => if a.length + b.length ≤ LL then some (.lst (a ++ b)) else none
  | _, _ => none
def subD : D → D → Option D
  | .int i, .int j => some (.int (i - j))
  | _, _ => none
def mulD : D → D → Option D
  | .int i, .int j => if (-(2 ^ 64) < i ∧ i < 2 ^ 64) ∨ (-(2 ^ 64) < j ∧ j < 2 ^ 64) then some (.int (i * j)) else none
  | .lst ds, .int k => if 0 ≤ k ∧ k ≤ 1000 ∧ ds.length * k.toNat ≤ LL then some (.lst (List.replicate k.toNat ds).flatten) else none
  | _, _ => none
def fdivD : D → D → Option D
  | .int i, .int j => if 0 < j ∧ j < 1073741824 then some (.int (i / j)) else none
  | _, _ => none
def modD : D → D → Option D
  | .int i, .int j => if 0 < j then some (.int (i % j)) else none
  | _, _ => none
def powD : D → D → Option D
  | .int i, .int j => if 0 ≤ j ∧ j ≤ 1000000 ∧ i.natAbs < 2 ^ 64 then some (.int (i ^ j.toNat)) else none
  | _, _ => none
def sLt (a b : Str) : Bool := decide (a.cps.toList < b.cps.toList)
def ltD : D → D → Option D
  | .int i, .int j => some (.bl (decide (i < j)))
  | .str a, .str b => some (.bl (sLt a b))
  | _, _ => none
def leD : D → D → Option D
  | .int i, .int j => some (.bl (decide (i ≤ j)))
  | .str a, .str b => some (.bl (!sLt b a))
  | _, _ => none
def gtD : D → D → Option D
  | .int i, .int j => some (.bl (decide (j < i)))
  | .str a, .str b => some (.bl (sLt b a))
  | _, _ => none
def geD : D → D → Option D
  | .int i, .int j => some (.bl (decide (j ≤ i)))
  | .str a, .str b => some (.bl (!sLt a b))
  | _, _ => none
section
variable {K : PySem.W.Frag} {g : Gp}
theorem od_I0 {f : Int → Int → V} {fd : Int → Int → D} {r : D → D → Option D} (h : ∀ x y z, r x y = some z → ∃ i j, x = .int i ∧ y = .int j ∧ z = fd i j) (hf : ∀ F i j, Rep K g F (fd i j) (f i j)) : OpD K g (rI0 f) r := fun c F H x y z v w Q' e nc rx ry hz k => by
  obtain ⟨i, j, rfl, rfl, rfl⟩ := h x y z hz
  exact ⟨i, j, rx.int', ry.int', k _ H F (New.refl e) (hf F i j)⟩
theorem od_I {C : Int → Int → Prop} {f : Int → Int → V} {fd : Int → Int → D} {r : D → D → Option D} (h : ∀ x y z, r x y = some z → ∃ i j, x = .int i ∧ y = .int j ∧ C i j ∧ z = fd i j) (hf : ∀ F i j, Rep K g F (fd i j) (f i j)) : OpD K g (rI C f) r := fun c F H x y z v w Q' e nc rx ry hz k => by
  obtain ⟨i, j, rfl, rfl, hc, rfl⟩ := h x y z hz
  exact ⟨i, j, rx.int', ry.int', hc, k _ H F (New.refl e) (hf F i j)⟩
theorem od_or {r r' : R2} {f f1 f2 : D → D → Option D} (h : OpD K g r f1) (h' : OpD K g r' f2) (hf : ∀ x y z, f x y = some z → f1 x y = some z ∨ f2 x y = some z) : OpD K g (fun x y H Q => r x y H Q ∨ r' x y H Q) f := fun c F H x y z v w Q' e nc rx ry hz k => by
  rcases hf x y z hz with q | q
  · exact .inl (h c F H x y z v w Q' e nc rx ry q k)
  · exact .inr (h' c F H x y z v w Q' e nc rx ry q k)
def addI : D → D → Option D | .int i, .int j => some (.int (i + j)) | _, _ => none
def addS : D → D → Option D | .str a, .str b => if a.length + b.length ≤ LL then some (.str (a ++ b)) else none | _, _ => none
def addT : D → D → Option D | .tup a, .tup b => if a.length + b.length ≤ LL then some (.tup (a ++ b)) else none | _, _ => none
def addL : D → D → Option D | .lst a, .lst b => if a.length + b.length ≤ LL then some (.lst (a ++ b)) else none | _, _ => none
def rAddS : R2 := fun x y H Q => ∃ i j, x = .str i ∧ y = .str j ∧ i.length + j.length ≤ sizeLine ∧ Q (.str (i ++ j)) H
theorem od_addS : OpD K g rAddS addS := fun c F H x y z v w Q' e nc rx ry hz k => by
  unfold addS at hz
  split at hz
  · split at hz
    · rename_i h
      cases hz
      exact ⟨_, _, rx.str', ry.str', ll h, k _ H F (New.refl e) (.str _)⟩
    · cases hz
  · cases hz
theorem od_addT : OpD K g (rCatA K) addT := fun c F H x y z v w Q' e nc rx ry hz k => by
  unfold addT at hz
  split at hz
  · rename_i a b
    split at hz
    · rename_i h
      cases hz
      obtain ⟨p, xs, e1, h1, r1⟩ := rx.tup'
      obtain ⟨q, ys, e2, h2, r2⟩ := ry.tup'
      refine ⟨p, q, xs, ys, e1, e2, Evl.ex_t e h1, Evl.ex_t e h2, ll (by rw [r1.length, r2.length]; exact h), fun ex => ?_, fun ex ey => ?_, fun ex ey t ht => ?_⟩
      · subst ex; cases r1; exact k _ H F (New.refl e) (.tup h2 r2)
      · subst ey; cases r2; rw [List.append_nil] at k; exact k _ H F (New.refl e) (.tup h1 r1)
      · have n := New.fix (o := .tup (xs ++ ys)) e ht
        exact k _ _ _ n (.tup (SqT.of upd_same) ((r1.append r2).mono n.ff))
    · cases hz
  · cases hz
theorem od_addL : OpD K g rCat addL := fun c F H x y z v w Q' e nc rx ry hz k => by
  unfold addL at hz
  split at hz
  · rename_i a b
    split at hz
    · rename_i h
      cases hz
      obtain ⟨p, xs, e1, h1, r1, _⟩ := rx
      obtain ⟨q, ys, e2, h2, r2, _⟩ := ry
      refine ⟨p, q, xs, ys, e1, e2, h1, h2, ll (by rw [r1.length, r2.length]; exact h), fun t ht => ?_⟩
      have n := New.fix (o := .lst (xs ++ ys)) e ht
      exact k _ _ _ n (.lst upd_same ((r1.append r2).mono n.ff))
    · cases hz
  · cases hz
def rAddG (K : PySem.W.Frag) : R2 := fun x y H Q => rI0 (fun i j => .int (i + j)) x y H Q ∨ (rAddS x y H Q ∨ (rCatA K x y H Q ∨ rCat x y H Q))
theorem or_add {X : Cx} : OpR X (binaryOp .Add) (rAddG X.K) := op_add.or (OpR.or (r := rAddS) op_add_str (op_catA.or op_cat))
theorem od_add : OpD K g (rAddG K) addD := od_or (f1 := addI) (f2 := fun x y => match addS x y with | some z => some z | none => match addT x y with | some z => some z | none => addL x y)
    (od_I0 (fun x y z h => by unfold addI at h; split at h; · cases h; exact ⟨_, _, rfl, rfl, rfl⟩
                              · cases h) fun F i j => .int _)
    (od_or (f1 := addS) (f2 := fun x y => match addT x y with | some z => some z | none => addL x y) od_addS (od_or (f1 := addT) (f2 := addL) od_addT od_addL (fun x y z h => by
      split at h
      · rename_i q; left; rw [q]; exact h
      · exact .inr h)) (fun x y z h => by
      split at h
      · rename_i q; left; rw [q]; exact h
      · exact .inr h)) (fun x y z h => by
      cases x <;> cases y <;> simp only [addD, addI, addS, addT, addL] at h ⊢ <;> first | exact .inl h | (right; rw [h]) | (right; exact h) | (cases h))
theorem od_sub : OpD K g (rI0 fun i j => .int (i - j)) subD := od_I0 (fun x y z h => by
  unfold subD at h; split at h
  · cases h; exact ⟨_, _, rfl, rfl, rfl⟩
  · cases h) fun F i j => .int _
def mulI : D → D → Option D | .int i, .int j => if (-(2 ^ 64) < i ∧ i < 2 ^ 64) ∨ (-(2 ^ 64) < j ∧ j < 2 ^ 64) then some (.int (i * j)) else none | _, _ => none
def mulL : D → D → Option D | .lst ds, .int k => if 0 ≤ k ∧ k ≤ 1000 ∧ ds.length * k.toNat ≤ LL then some (.lst (List.replicate k.toNat ds).flatten) else none | _, _ => none
theorem RepL.rep {F : Hp} {ds : List D} {xs : List V} (h : RepL K g F ds xs) : ∀ k : Nat, RepL K g F (List.replicate k ds).flatten (List.replicate k xs).flatten
  | 0 => .nil
  | k + 1 => by rw [List.replicate_succ, List.replicate_succ, List.flatten_cons, List.flatten_cons]; exact h.append (RepL.rep h k)
theorem od_mulL : OpD K g rRep mulL := fun c F H x y z v w Q' e nc rx ry hz k => by
  unfold mulL at hz
  split at hz
  · rename_i ds j
    split at hz
    · rename_i h
      cases hz
      obtain ⟨p, xs, e1, h1, r1, _⟩ := rx
      refine ⟨p, j, xs, e1, ry.int', h1, by omega, by omega, ll (by rw [r1.length]; exact h.2.2), fun t ht => ?_⟩
      have n := New.fix (o := .lst (List.replicate j.toNat xs).flatten) e ht
      exact k _ _ _ n (.lst upd_same ((r1.rep _).mono n.ff))
    · cases hz
  · cases hz
theorem or_mul {X : Cx} : OpR X (binaryOp .Mult) (fun x y H Q => rI CMul (fun i j => .int (i * j)) x y H Q ∨ rRep x y H Q) := op_mul.or op_rep
theorem od_mul : OpD K g (fun x y H Q => rI CMul (fun i j => .int (i * j)) x y H Q ∨ rRep x y H Q) mulD := od_or (f1 := mulI) (f2 := mulL) (od_I (fun x y z h => by
  unfold mulI at h; split at h
  · split at h
    · cases h; exact ⟨_, _, rfl, rfl, ‹_›, rfl⟩
    · cases h
  · cases h) fun F i j => .int _) od_mulL (fun x y z h => by
      cases x <;> cases y <;> simp only [mulD, mulI, mulL] at h ⊢ <;> first | exact .inl h | exact .inr h | (cases h))
theorem od_fdiv : OpD K g (rI CDiv fun i j => .int (i / j)) fdivD := od_I (fun x y z h => by
  unfold fdivD at h; split at h
  · split at h
    · cases h; exact ⟨_, _, rfl, rfl, ‹_›, rfl⟩
    · cases h
  · cases h) fun F i j => .int _
theorem od_mod : OpD K g (rI (fun _ j => 0 < j) fun i j => .int (i % j)) modD := od_I (fun x y z h => by
  unfold modD at h; split at h
  · split at h
    · cases h; exact ⟨_, _, rfl, rfl, ‹_›, rfl⟩
    · cases h
  · cases h) fun F i j => .int _
theorem od_pow : OpD K g (rI CPow fun i j => .int (i ^ j.toNat)) powD := od_I (fun x y z h => by
  unfold powD at h; split at h
  · split at h
    · cases h; exact ⟨_, _, rfl, rfl, ‹_›, rfl⟩
    · cases h
  · cases h) fun F i j => .int _
/-- a relation of two texts -/
def rSS (f : Str → Str → V) : R2 := fun x y H Q => ∃ i j, x = .str i ∧ y = .str j ∧ Q (f i j) H
theorem od_SS {f : Str → Str → V} {fd : Str → Str → D} {r : D → D → Option D} (h : ∀ x y z, r x y = some z → ∃ i j, x = .str i ∧ y = .str j ∧ z = fd i j) (hf : ∀ F i j, Rep K g F (fd i j) (f i j)) : OpD K g (rSS f) r := fun c F H x y z v w Q' e nc rx ry hz k => by
  obtain ⟨i, j, rfl, rfl, rfl⟩ := h x y z hz
  exact ⟨i, j, rx.str', ry.str', k _ H F (New.refl e) (hf F i j)⟩
abbrev rCmp (fi : Int → Int → V) (fs : Str → Str → V) : R2 := fun x y H Q => rI0 fi x y H Q ∨ rSS fs x y H Q
theorem od_cmp {fi : Int → Int → Bool} {fs : Str → Str → Bool} {f : D → D → Option D} (h : ∀ x y z, f x y = some z → (∃ i j, x = .int i ∧ y = .int j ∧ z = .bl (fi i j)) ∨ (∃ i j, x = .str i ∧ y = .str j ∧ z = .bl (fs i j))) :
    OpD K g (rCmp (fun i j => .bl (fi i j)) (fun i j => .bl (fs i j))) f := fun c F H x y z v w Q' e nc rx ry hz k => by
  rcases h x y z hz with ⟨i, j, rfl, rfl, rfl⟩ | ⟨i, j, rfl, rfl, rfl⟩
  · exact .inl ⟨i, j, rx.int', ry.int', k _ H F (New.refl e) (.bl _)⟩
  · exact .inr ⟨i, j, rx.str', ry.str', k _ H F (New.refl e) (.bl _)⟩
variable {X : Cx}
theorem or_lt : OpR X (compareOp .Lt) (rCmp (fun i j => .bl (decide (i < j))) (fun i j => .bl (sLt i j))) := op_lt.or op_lt_str
theorem or_le : OpR X (compareOp .LtE) (rCmp (fun i j => .bl (decide (i ≤ j))) (fun i j => .bl (!sLt j i))) := op_le.or op_le_str
theorem or_gt : OpR X (compareOp .Gt) (rCmp (fun i j => .bl (decide (j < i))) (fun i j => .bl (sLt j i))) := op_gt.or op_gt_str
theorem or_ge : OpR X (compareOp .GtE) (rCmp (fun i j => .bl (decide (j ≤ i))) (fun i j => .bl (!sLt i j))) := op_ge.or op_ge_str
theorem od_lt : OpD K g (rCmp (fun i j => .bl (decide (i < j))) (fun i j => .bl (sLt i j))) ltD := od_cmp (fi := fun i j => decide (i < j)) (fs := fun i j => sLt i j) (fun x y z h => by
  cases x <;> cases y <;> simp only [ltD] at h <;> first | (cases h; exact .inl ⟨_, _, rfl, rfl, rfl⟩) | (cases h; exact .inr ⟨_, _, rfl, rfl, rfl⟩) | cases h)
theorem od_le : OpD K g (rCmp (fun i j => .bl (decide (i ≤ j))) (fun i j => .bl (!sLt j i))) leD := od_cmp (fi := fun i j => decide (i ≤ j)) (fs := fun i j => !sLt j i) (fun x y z h => by
  cases x <;> cases y <;> simp only [leD] at h <;> first | (cases h; exact .inl ⟨_, _, rfl, rfl, rfl⟩) | (cases h; exact .inr ⟨_, _, rfl, rfl, rfl⟩) | cases h)
theorem od_gt : OpD K g (rCmp (fun i j => .bl (decide (j < i))) (fun i j => .bl (sLt j i))) gtD := od_cmp (fi := fun i j => decide (j < i)) (fs := fun i j => sLt j i) (fun x y z h => by
  cases x <;> cases y <;> simp only [gtD] at h <;> first | (cases h; exact .inl ⟨_, _, rfl, rfl, rfl⟩) | (cases h; exact .inr ⟨_, _, rfl, rfl, rfl⟩) | cases h)
theorem od_ge : OpD K g (rCmp (fun i j => .bl (decide (j ≤ i))) (fun i j => .bl (!sLt i j))) geD := od_cmp (fi := fun i j => decide (j ≤ i)) (fs := fun i j => !sLt i j) (fun x y z h => by
  cases x <;> cases y <;> simp only [geD] at h <;> first | (cases h; exact .inl ⟨_, _, rfl, rfl, rfl⟩) | (cases h; exact .inr ⟨_, _, rfl, rfl, rfl⟩) | cases h)

/-! ### == at any depth -/
mutual
def D.py : D → PyData
  | .non => .none | .bl b => .bool b | .int i => .int i | .str s => .str s
  | .tup ds => .tuple (pyL ds) | .lst ds => .list (pyL ds) | .dic _ => .none | .web _ _ => .none
def pyL : List D → List PyData
  | [] => []
  | d :: r => d.py :: pyL r
end
mutual
def D.okd : D → Nat → Bool
  | .non, _ => true | .bl _, _ => true | .int _, _ => true | .str s, _ => PyData.strOk s
  | .tup ds, n => decide (0 < n) && okdL ds (n - 1) | .lst ds, n => decide (0 < n) && okdL ds (n - 1) | .dic _, _ => false | .web _ _, _ => false
def okdL : List D → Nat → Bool
  | [], _ => true
  | d :: r, n => d.okd n && okdL r n
end
mutual
theorem okd_lay : ∀ (d : D) (n : Nat), d.okd n = true → d.py.canLay0 = true ∧ d.py.depth ≤ n
  | .non, _, _ => ⟨by simp [D.py, PyData.canLay0], by simp [D.py, PyData.depth]⟩
  | .bl _, _, _ => ⟨by simp [D.py, PyData.canLay0], by simp [D.py, PyData.depth]⟩
  | .int _, _, _ => ⟨by simp [D.py, PyData.canLay0], by simp [D.py, PyData.depth]⟩
  | .str s, _, h => ⟨by simpa [D.py, PyData.canLay0, D.okd] using h, by simp [D.py, PyData.depth]⟩
  | .tup ds, n, h => by
    simp only [D.okd, Bool.and_eq_true, decide_eq_true_eq] at h
    obtain ⟨h1, h2⟩ := okdL_lay ds _ h.2
    exact ⟨by simpa [D.py, PyData.canLay0] using h1, by simp only [D.py, PyData.depth]; omega⟩
  | .lst ds, n, h => by
    simp only [D.okd, Bool.and_eq_true, decide_eq_true_eq] at h
    obtain ⟨h1, h2⟩ := okdL_lay ds _ h.2
    exact ⟨by simpa [D.py, PyData.canLay0] using h1, by simp only [D.py, PyData.depth]; omega⟩
  | .dic _, _, h => by simp [D.okd] at h
  | .web _ _, _, h => by simp [D.okd] at h
theorem okdL_lay : ∀ (ds : List D) (n : Nat), okdL ds n = true → PyData.canLayAll0 (pyL ds) = true ∧ PyData.depthAll (pyL ds) ≤ n
  | [], _, _ => ⟨by simp [pyL, PyData.canLayAll0], by simp [pyL, PyData.depthAll]⟩
  | d :: r, n, h => by
    simp only [okdL, Bool.and_eq_true] at h
    obtain ⟨h1, h2⟩ := okd_lay d n h.1
    obtain ⟨h3, h4⟩ := okdL_lay r n h.2
    exact ⟨by simp only [pyL, PyData.canLayAll0, h1, h3, Bool.and_self], by simp only [pyL, PyData.depthAll]; omega⟩
end
mutual
theorem rep_dp {F H : Hp} (e : Ex F H) : ∀ (d : D) (n : Nat) (v : V), d.okd n = true → Rep K g F d v → Dp K H v d.py
  | .non, _, _, _, h => by cases h; simp only [D.py]; exact .non
  | .bl b, _, _, _, h => by cases h; simp only [D.py]; exact .bl b
  | .int i, _, _, _, h => by cases h; simp only [D.py]; exact .int i
  | .str s, _, _, _, h => by cases h; simp only [D.py]; exact .str s
  | .tup ds, n, _, o, h => by
    simp only [D.okd, Bool.and_eq_true] at o
    cases h with
    | tup h r => simp only [D.py]; exact .tup (Evl.ex_t e h) (repL_dp e ds _ _ o.2 r)
  | .lst ds, n, _, o, h => by
    simp only [D.okd, Bool.and_eq_true] at o
    cases h with
    | lst h r => simp only [D.py]; exact .lst (SqL.of (e _ _ h)) (repL_dp e ds _ _ o.2 r)
  | .dic _, _, _, o, _ => by simp [D.okd] at o
  | .web _ _, _, _, o, _ => by simp [D.okd] at o
theorem repL_dp {F H : Hp} (e : Ex F H) : ∀ (ds : List D) (n : Nat) (vs : List V), okdL ds n = true → RepL K g F ds vs → DpAll K H vs (pyL ds)
  | [], _, _, _, h => by cases h; simp only [pyL]; exact .nil
  | d :: r, n, _, o, h => by
    simp only [okdL, Bool.and_eq_true] at o
    cases h with
    | cons h1 h2 => simp only [pyL]; exact .cons (rep_dp e d n _ o.1 h1) (repL_dp e r n _ o.2 h2)
end
theorem repT_dp {c : Option Addr} {F H : Hp} (e : Ex F H) {d : D} {n : Nat} {v : V} (o : d.okd n = true) (h : RepT K g c F H d v) : Dp K H v d.py := by
  cases d with
  | lst ds =>
    obtain ⟨p, xs, rfl, h1, h2, _⟩ := h
    simp only [D.okd, Bool.and_eq_true] at o
    simp only [D.py]
    exact .lst (SqL.of h1) (repL_dp e ds _ _ o.2 h2)
  | dic _ => simp [D.okd] at o
  | _ => exact rep_dp e _ n _ o h
theorem okd_shaped {d : D} (o : d.okd 60 = true) : SeqAt.shaped d.py = true := by
  obtain ⟨h1, h2⟩ := okd_lay d 60 o
  unfold SeqAt.shaped
  rw [h1, decide_eq_true (Nat.le_trans h2 (by decide))]
  rfl
def scalD : D → D → Option Bool
  | .str a, .str b => some (decide (a = b))
  | .int a, .int b => some (decide (a = b))
  | .bl a, .bl b => some (decide (a = b))
  | .non, .non => some true
  | .non, .str _ => some false | .str _, .non => some false | .non, .int _ => some false | .int _, .non => some false | .non, .bl _ => some false | .bl _, .non => some false
  | .int _, .str _ => some false | .str _, .int _ => some false | .bl _, .str _ => some false | .str _, .bl _ => some false
  | _, _ => none
def deepEq (x y : D) : Option Bool := if x.okd 60 && y.okd 60 then some (PyData.eqv x.py y.py) else none
def eqB (x y : D) : Option Bool := match scalD x y with | some b => some b | none => deepEq x y
def eqD (x y : D) : Option D := (eqB x y).map .bl
def neD (x y : D) : Option D := (eqB x y).map fun b => .bl (!b)
theorem scalD_ok {c : Option Addr} {F H : Hp} {x y : D} {v w : V} {b : Bool} (h : scalD x y = some b) (rx : RepT K g c F H x v) (ry : RepT K g c F H y w) : scal v w = true ∧ decide (v = w) = b := by
  cases x <;> cases y <;> simp only [scalD] at h <;> first
    | (cases h
       first
         | rw [rx.str', ry.str'] | rw [rx.int', ry.int'] | rw [rx.bl', ry.bl'] | rw [rx.non', ry.non'] | rw [rx.non', ry.str'] | rw [rx.str', ry.non'] | rw [rx.non', ry.int'] | rw [rx.int', ry.non'] | rw [rx.non', ry.bl'] | rw [rx.bl', ry.non']
         | rw [rx.int', ry.str'] | rw [rx.str', ry.int'] | rw [rx.bl', ry.str'] | rw [rx.str', ry.bl']
       exact ⟨rfl, by simp⟩)
    | cases h
def rEqG (K : PySem.W.Frag) : R2 := fun x y H Q => rEq x y H Q ∨ rEqD K x y H Q
def rNeG (K : PySem.W.Frag) : R2 := fun x y H Q => rNe x y H Q ∨ rNeD K x y H Q
theorem or_eq (hu : X.A.units + 64 < cLine) : OpR X (compareOp .Eq) (rEqG X.K) := op_eq.or (op_eqD hu)
theorem or_ne (hu : X.A.units + 64 < cLine) : OpR X (compareOp .NotEq) (rNeG X.K) := op_ne.or (op_neD hu)
theorem od_eq : OpD K g (rEqG K) eqD := fun c F H x y z v w Q' e nc rx ry hz k => by
  unfold eqD eqB at hz
  split at hz
  · rename_i b q
    cases hz
    obtain ⟨s1, s2⟩ := scalD_ok q rx ry
    exact .inl ⟨s1, by rw [s2]; exact k _ H F (New.refl e) (.bl b)⟩
  · unfold deepEq at hz
    split at hz
    · rename_i o
      cases hz
      rw [Bool.and_eq_true] at o
      exact .inr ⟨_, _, repT_dp e o.1 rx, repT_dp e o.2 ry, okd_shaped o.1, okd_shaped o.2, k _ H F (New.refl e) (.bl _)⟩
    · cases hz
theorem od_ne : OpD K g (rNeG K) neD := fun c F H x y z v w Q' e nc rx ry hz k => by
  unfold neD eqB at hz
  split at hz
  · rename_i b q
    cases hz
    obtain ⟨s1, s2⟩ := scalD_ok q rx ry
    exact .inl ⟨s1, by rw [s2]; exact k _ H F (New.refl e) (.bl _)⟩
  · unfold deepEq at hz
    split at hz
    · rename_i o
      cases hz
      rw [Bool.and_eq_true] at o
      exact .inr ⟨_, _, repT_dp e o.1 rx, repT_dp e o.2 ry, okd_shaped o.1, okd_shaped o.2, k _ H F (New.refl e) (.bl _)⟩
    · cases hz

/-! ### is None -/
def D.isN : D → Bool | .non => true | _ => false
def isND (x y : D) : Option D := match y with | .non => some (.bl x.isN) | _ => none
def notND (x y : D) : Option D := match y with | .non => some (.bl (!x.isN)) | _ => none
theorem rep_non_iff {c : Option Addr} {F H : Hp} {x : D} {v : V} (r : RepT K g c F H x v) : decide (v = .non) = x.isN := by
  cases x with
  | non => rw [r.non']; rfl
  | bl b => rw [r.bl']; rfl
  | int b => rw [r.int']; rfl
  | str b => rw [r.str']; rfl
  | tup ds => obtain ⟨a, xs, rfl, _⟩ := r.tup'; rfl
  | lst ds => obtain ⟨a, xs, rfl, _⟩ := r; rfl
  | dic ds => obtain ⟨a, xs, rfl, _⟩ := r.dic'; rfl
  | web p t => obtain ⟨a, _, _, rfl, _⟩ := r.web'; rfl
theorem od_isN : OpD K g (fun x y H Q => y = .non ∧ Q (.bl (decide (x = .non))) H) isND := fun c F H x y z v w Q' e nc rx ry hz k => by
  unfold isND at hz
  split at hz
  · cases hz
    exact ⟨ry.non', by rw [rep_non_iff rx]; exact k _ H F (New.refl e) (.bl _)⟩
  · cases hz
theorem od_notN : OpD K g (fun x y H Q => y = .non ∧ Q (.bl (!decide (x = .non))) H) notND := fun c F H x y z v w Q' e nc rx ry hz k => by
  unfold notND at hz
  split at hz
  · cases hz
    refine ⟨ry.non', ?_⟩
    rw [rep_non_iff rx]
    exact k _ H F (New.refl e) (.bl _)
  · cases hz

/-! ### in -/
def D.flat : D → Bool | .non => true | .bl _ => true | .int _ => true | .str _ => true | _ => false
/-- == of flat data -/
def fEq : D → D → Bool
  | .non, .non => true | .bl a, .bl b => a == b | .bl a, .int b => (if a then 1 else 0) == b | .int a, .bl b => a == (if b then 1 else 0) | .int a, .int b => a == b | .str a, .str b => a == b | _, _ => false
def inL (x : D) (ds : List D) : Bool := ds.any fun y => fEq y x
def inB (x y : D) : Option Bool := match x, y with
  | .str a, .str b => (match a.cps.toList with | [q] => some (decide (q ∈ b.cps.toList)) | _ => none)
  | x, .lst ds => if x.flat && ds.all D.flat then some (inL x ds) else none
  | x, .tup ds => if x.flat && ds.all D.flat then some (inL x ds) else none
  | _, _ => none
def inD (x y : D) : Option D := (inB x y).map .bl
def notInD (x y : D) : Option D := (inB x y).map fun b => .bl (!b)
theorem rep_flat {F : Hp} {x : D} {v : V} (h : Rep K g F x v) (f : x.flat = true) : flatV v = true := by
  cases h <;> first | rfl | (simp [D.flat] at f)
theorem rep_fEq {F : Hp} {x y : D} {v w : V} (h : Rep K g F x v) (h' : Rep K g F y w) (f : x.flat = true) (f' : y.flat = true) : eqV v w = fEq x y := by
  cases h <;> first | (simp [D.flat] at f; done) | (cases h' <;> first | (simp [D.flat] at f'; done) | rfl)
theorem repL_flat {F : Hp} : ∀ {ds : List D} {vs : List V}, RepL K g F ds vs → ds.all D.flat = true → vs.all flatV = true
  | _, _, .nil, _ => rfl
  | _, _, .cons h t, f => by
    simp only [List.all_cons, Bool.and_eq_true] at f ⊢
    exact ⟨rep_flat h f.1, repL_flat t f.2⟩
theorem repL_in {F : Hp} {x : D} {v : V} (h : Rep K g F x v) (f : x.flat = true) : ∀ {ds : List D} {vs : List V}, RepL K g F ds vs → ds.all D.flat = true → inV v vs = inL x ds
  | _, _, .nil, _ => rfl
  | _, _, .cons h1 t, f' => by
    simp only [List.all_cons, Bool.and_eq_true] at f'
    have := repL_in h f t f'.2
    unfold inV inL at this ⊢
    rw [List.any_cons, List.any_cons, this, rep_fEq h1 h f'.1 f]
def rSign (neg : Bool) : R2 := fun x y H Q => ∃ (c : Nat) (z : Str), x = .str ⟨#[c]⟩ ∧ y = .str z ∧ Q (.bl (if neg then !decide (c ∈ z.cps.toList) else decide (c ∈ z.cps.toList))) H
def rInG (K : PySem.W.Frag) (neg : Bool) : R2 := fun x y H Q => rSign neg x y H Q ∨ rIn K neg x y H Q
theorem or_in : OpR X (compareOp .In) (rInG X.K false) := OpR.or (r := rSign false) op_in_sign op_in_seq
theorem or_notin : OpR X (compareOp .NotIn) (rInG X.K true) := OpR.or (r := rSign true) op_notIn_sign op_notIn_seq
theorem repT_flat {c : Option Addr} {F H : Hp} {x : D} {v : V} (f : x.flat = true) (h : RepT K g c F H x v) : Rep K g F x v := by
  cases x <;> first | exact h | (simp [D.flat] at f)
theorem od_inG {neg : Bool} : OpD K g (rInG K neg) (fun x y => (inB x y).map fun b => .bl (if neg then !b else b)) := fun c F H x y z v w Q' e nc rx ry hz k => by
  obtain ⟨b, hb, rfl⟩ := Option.map_eq_some_iff.mp hz
  clear hz
  have k' := k _ H F (New.refl e) (.bl _)
  unfold inB at hb
  split at hb
  · rename_i a b'
    split at hb
    · rename_i q eq
      cases hb
      refine .inl ⟨q, b', ?_, ry.str', k'⟩
      rw [rx.str']
      obtain ⟨⟨l⟩⟩ := a
      simp only at eq
      rw [eq]
    · cases hb
  · split at hb
    · rename_i f
      cases hb
      rw [Bool.and_eq_true] at f
      obtain ⟨p, xs, rfl, h1, h2, _⟩ := ry
      have r1 := repT_flat f.1 rx
      refine .inr ⟨p, xs, rfl, .inl (SqL.of h1), rep_flat r1 f.1, repL_flat h2 f.2, ?_⟩
      rw [repL_in r1 f.1 h2 f.2]
      exact k'
    · cases hb
  · split at hb
    · rename_i f
      cases hb
      rw [Bool.and_eq_true] at f
      obtain ⟨p, xs, rfl, h1, h2⟩ := ry.tup'
      have r1 := repT_flat f.1 rx
      refine .inr ⟨p, xs, rfl, .inr (Evl.ex_t e h1), rep_flat r1 f.1, repL_flat h2 f.2, ?_⟩
      rw [repL_in r1 f.1 h2 f.2]
      exact k'
    · cases hb
  · cases hb
theorem od_in : OpD K g (rInG K false) inD := od_inG
theorem od_notin : OpD K g (rInG K true) notInD := od_inG

/-! ### subscripts -/
def ixD : D → D → Option D
  | .lst ds, .int i => atI ds i
  | .tup ds, .int i => atI ds i
  | .str s, .int i => if s.length ≤ LL then (atI s.cps.toList i).map fun c => .str ⟨#[c]⟩ else none
  | _, _ => none
theorem repL_at {F : Hp} {ds : List D} {vs : List V} {i : Int} {d : D} (h : RepL K g F ds vs) (e : atI ds i = some d) : ∃ v, atI vs i = some v ∧ Rep K g F d v := by
  unfold atI at e ⊢
  rw [h.length]
  cases q : ixN ds.length i with
  | none => rw [q] at e; cases e
  | some j =>
    rw [q] at e
    exact h.get e
theorem od_ix : OpD K g (rIx K) ixD := fun c F H x y z v w Q' e nc rx ry hz k => by
  unfold ixD at hz
  split at hz
  · obtain ⟨p, xs, rfl, h1, h2, _⟩ := rx
    obtain ⟨u, h3, h4⟩ := repL_at h2 hz
    exact .inl ⟨p, xs, _, u, rfl, ry.int', SqL.of h1, h3, k _ H F (New.refl e) h4⟩
  · obtain ⟨p, xs, rfl, h1, h2⟩ := rx.tup'
    obtain ⟨u, h3, h4⟩ := repL_at h2 hz
    exact .inr (.inl ⟨p, xs, _, u, rfl, ry.int', Evl.ex_t e h1, h3, k _ H F (New.refl e) h4⟩)
  · split at hz
    · rename_i s i hl
      cases q : atI s.cps.toList i with
      | none => rw [q] at hz; cases hz
      | some ch =>
        rw [q] at hz
        cases hz
        exact .inr (.inr ⟨s, i, ch, rx.str', ry.int', ll hl, q, k _ H F (New.refl e) (.str _)⟩)
    · cases hz
  · cases hz
theorem ge_ix {a b : Expr} {da db : DE} {pos : Pos} (ha : GB g X a da) (hb : GB g X b db) (hs : PlainIx b := by exact fun _ _ => rfl) : GE g X (.Subscript a b pos) (dOp ixD da db) := PE.weak (pe_ix ix_seq ha hb hs) (op_weak od_ix)
end
end G
namespace G
open PySem L2

structure DEnds where
  nx : Env' → Nat → Prop
  rt : D → Nat → Prop
  bk : Env' → Nat → Prop := fun _ _ => False
  ct : Env' → Nat → Prop := fun _ _ => False
abbrev DS := Env' → Nat → DEnds → Prop
/-- the addresses of lists of one's own -/
def Own (env : Env') (σ : St) (a : Addr) : Prop := ∃ (i : Nat) (s : Sl), env[i]? = some s ∧ a ∈ s.adr σ[i]?
theorem own_ow {env : Env'} {σ : St} {i : Nat} {d : D} {a : Addr} (h : env[i]? = some (.ow d)) (hs : σ[i]? = some (some (.ref a))) : Own env σ a := ⟨i, _, h, by rw [hs]; simp [Sl.adr]⟩
structure Evo (c : Option Addr) (O : Addr → Prop) (F H : Hp) (O' : Addr → Prop) (F' H' : Hp) : Prop where
  ff : Ex F F'
  fh : Ex F' H'
  hh : ∀ a o, H a = some o → c ≠ some a → ¬ O a → H' a = some o
  new : ∀ a o, F' a = some o → F a = some o ∨ H a = none ∨ O a
  nc : ∀ a, c = some a → F' a = none
  own : ∀ a, O' a → c ≠ some a ∧ (O a ∨ H a = none)
section
variable {K : PySem.W.Frag} {g : Gp} {c : Option Addr} {F F' F1 F2 H H' H1 H2 : Hp} {env env' : Env'} {m m' : Nat} {σ σ' : St} {O O1 O2 : Addr → Prop}
theorem Evo.trans (a : Evo c O F H O1 F1 H1) (b : Evo c O1 F1 H1 O2 F2 H2) : Evo c O F H O2 F2 H2 where
  ff := a.ff.trans b.ff
  fh := b.fh
  hh := fun x o h n no => b.hh x o (a.hh x o h n no) n fun q => (a.own x q).2.elim no fun z => by rw [h] at z; cases z
  nc := b.nc
  new := fun x o h => by
    rcases b.new x o h with q | q | q
    · exact a.new x o q
    · cases z : H x with
      | none => exact .inr (.inl rfl)
      | some u =>
        by_cases n : c = some x
        · rw [b.nc x n] at h; cases h
        · by_cases y : O x
          · exact .inr (.inr y)
          · rw [a.hh x u z n y] at q; cases q
    · rcases (a.own x q).2 with z | z
      · exact .inr (.inr z)
      · exact .inr (.inl z)
  own := fun x q => by
    obtain ⟨n, z⟩ := b.own x q
    refine ⟨n, ?_⟩
    rcases z with z | z
    · exact (a.own x z).2
    · cases y : H x with
      | none => exact .inr rfl
      | some u =>
        by_cases w : O x
        · exact .inl w
        · rw [a.hh x u y n w] at z; cases z
theorem Evo.none (a : Evo c O F H O1 F1 H1) : Evo c O F H (fun _ => False) F1 H1 := ⟨a.ff, a.fh, a.hh, a.new, a.nc, fun _ h => h.elim⟩
theorem Evo.sub (a : Evo c O F H O1 F1 H1) (h : ∀ x, O2 x → O1 x) : Evo c O F H O2 F1 H1 := ⟨a.ff, a.fh, a.hh, a.new, a.nc, fun x q => a.own x (h x q)⟩
theorem Rel.ownc (r : Rel K g c F env m σ H) : ∀ a, Own env σ a → c ≠ some a := fun a ⟨i, s, e1, e2⟩ => ((r.slot i s e1).at e2).2.1
theorem Rel.ownH (r : Rel K g c F env m σ H) {a : Addr} (h : Own env σ a) : F a = .none ∧ ∃ xs, H a = some xs := by
  obtain ⟨i, s, e1, e2⟩ := h
  have := (r.slot i s e1).at e2
  exact ⟨this.1, this.2.2⟩
theorem Rel.evo (r : Rel K g c F env m σ H) (f : Fresh c F H F' H') : Evo c (Own env σ) F H (Own env σ) F' H' :=
  ⟨f.ff, f.fh, fun a o h n _ => f.hh a o h n, fun a o h => (f.new a o h).imp id .inl, f.nc, fun a h => ⟨r.ownc a h, .inl h⟩⟩
/-- what is wanted behind a statement -/
structure Outs (K : PySem.W.Frag) (g : Gp) (c : Option Addr) (O : Addr → Prop) (F H : Hp) (E : DEnds) (D : Ends) : Prop where
  nx : ∀ σ' H' F' env' m', Rel K g c F' env' m' σ' H' → Evo c O F H (Own env' σ') F' H' → E.nx env' m' → D.nx σ' H'
  bk : ∀ σ' H' F' env' m', Rel K g c F' env' m' σ' H' → Evo c O F H (Own env' σ') F' H' → E.bk env' m' → D.bk σ' H'
  ct : ∀ σ' H' F' env' m', Rel K g c F' env' m' σ' H' → Evo c O F H (Own env' σ') F' H' → E.ct env' m' → D.ct σ' H'
  rt : ∀ v H' F' m' x, Ck g c m' F' H' → Evo c O F H (fun _ => False) F' H' → Rep K g F' x v → E.rt x m' → D.rt v H'
theorem Outs.shift {E : DEnds} {D : Ends} (o : Outs K g c O F H E D) (e : Evo c O F H O1 F1 H1) : Outs K g c O1 F1 H1 E D :=
  ⟨fun σ' H' F' env' m' r v => o.nx σ' H' F' env' m' r (e.trans v), fun σ' H' F' env' m' r v => o.bk σ' H' F' env' m' r (e.trans v), fun σ' H' F' env' m' r v => o.ct σ' H' F' env' m' r (e.trans v), fun v H' F' m' x k u => o.rt v H' F' m' x k (e.trans u)⟩
/-- another next -/
theorem Outs.next {E : DEnds} {D : Ends} {n : Env' → Nat → Prop} {N : St → Hp → Prop} (o : Outs K g c O F H E D) (h : ∀ σ' H' F' env' m', Rel K g c F' env' m' σ' H' → Evo c O F H (Own env' σ') F' H' → n env' m' → N σ' H') : Outs K g c O F H { E with nx := n } { D with nx := N } := ⟨h, o.bk, o.ct, o.rt⟩
end
def tSD (K : PySem.W.Frag) (g : Gp) (s : DS) : TS := fun D σ H => ∃ c F env m E, Rel K g c F env m σ H ∧ s env m E ∧ Outs K g c (Own env σ) F H E D
def GS (g : Gp) (X : Cx) (st : Stmt) (s : DS) : Prop := PS X st (tSD X.K g s)
def GSs (g : Gp) (X : Cx) (sts : List Stmt) (s : DS) : Prop := PSs X sts (tSD X.K g s)

theorem sl_no {d : D} : ∀ o, (Sl.val d).adr o = [] := fun _ => rfl
theorem sl_no0 : ∀ o, Sl.no.adr o = [] := fun _ => rfl
/-! ### slots set -/
section
variable {K : PySem.W.Frag} {g : Gp} {c : Option Addr} {F F' H H' : Hp} {env : Env'} {m : Nat} {σ : St} {v : V}
theorem own_set1 {i : Nat} {s : Sl} {o : Option V} {a : Addr} (l : env.length = σ.length) (h : Own (env.set i s) (σ.set i o) a) : a ∈ s.adr (some o) ∨ Own env σ a := by
  obtain ⟨j, s', e1, e2⟩ := h
  by_cases q : i = j
  · subst q
    by_cases z : i < env.length
    · rw [List.getElem?_set_self z] at e1; cases e1
      rw [List.getElem?_set_self (by omega)] at e2
      exact .inl e2
    · rw [List.set_eq_of_length_le (by omega)] at e1; exact absurd (List.getElem?_eq_some_iff.mp e1).1 (by omega)
  · rw [List.getElem?_set_ne q] at e1 e2
    exact .inr ⟨j, s', e1, e2⟩
theorem own_set {i : Nat} {s : Sl} {o : Option V} {a : Addr} (l : env.length = σ.length) (hs : ∀ o, s.adr o = []) (h : Own (env.set i s) (σ.set i o) a) : Own env σ a := by
  rcases own_set1 l h with z | z
  · rw [hs] at z; simp at z
  · exact z
/-- a slot set whose addresses are nobody's -/
theorem Rel.setS {i : Nat} {s : Sl} {o : Option V} (r : Rel K g c F env m σ H) (no : ∀ a ∈ s.adr (some o), ¬ Own env σ a) (h : SlR K g c F H s (some o)) : Rel K g c F (env.set i s) m (σ.set i o) H where
  sub := r.sub
  len := by rw [List.length_set, List.length_set, r.len]
  ck := r.ck
  slot := fun j s' e => by
    by_cases q : i = j
    · subst q
      by_cases z : i < env.length
      · rw [List.getElem?_set_self z] at e; cases e
        rw [List.getElem?_set_self (by rw [← r.len]; exact z)]; exact h
      · rw [List.set_eq_of_length_le (by omega)] at e; exact absurd (List.getElem?_eq_some_iff.mp e).1 (by omega)
    · rw [List.getElem?_set_ne q] at e ⊢
      exact r.slot j s' e
  sep := fun j k sj sk a e1 e2 e3 e4 => by
    have me : ∀ {s' : Sl}, (env.set i s)[i]? = some s' → a ∈ s'.adr (σ.set i o)[i]? → a ∈ s.adr (some o) := fun {s'} e e' => by
      by_cases z : i < env.length
      · rw [List.getElem?_set_self z] at e; cases e
        rw [List.getElem?_set_self (by rw [← r.len]; exact z)] at e'; exact e'
      · rw [List.set_eq_of_length_le (by omega)] at e; exact absurd (List.getElem?_eq_some_iff.mp e).1 (by omega)
    by_cases x : i = j
    · by_cases y : i = k
      · omega
      · rw [List.getElem?_set_ne y] at e2 e4
        subst x
        exact absurd ⟨k, sk, e2, e4⟩ (no a (me e1 e3))
    · rw [List.getElem?_set_ne x] at e1 e3
      by_cases y : i = k
      · subst y
        exact absurd ⟨j, sj, e1, e3⟩ (no a (me e2 e4))
      · rw [List.getElem?_set_ne y] at e2 e4
        exact r.sep j k sj sk a e1 e2 e3 e4
theorem Rel.set {i : Nat} {s : Sl} {o : Option V} (r : Rel K g c F env m σ H) (hs : ∀ o, s.adr o = []) (h : SlR K g c F H s (some o)) : Rel K g c F (env.set i s) m (σ.set i o) H :=
  r.setS (fun a ha => by rw [hs] at ha; simp at ha) h
theorem Rel.setV {i : Nat} {d : D} (r : Rel K g c F env m σ H) (h : Rep K g F d v) : Rel K g c F (env.set i (.val d)) m (σ.set i (some v)) H := r.set sl_no ⟨v, rfl, h⟩
theorem Rel.setNo {i : Nat} {o : Option V} (r : Rel K g c F env m σ H) : Rel K g c F (env.set i .no) m (σ.set i o) H := r.set sl_no0 trivial
theorem Rel.setOw {i : Nat} {ds : D} {p : Addr} {xs : HO} (r : Rel K g c F env m σ H) (nf : F p = none) (hp : H p = some xs) (rl : ObR K g F ds xs) (nc : c ≠ some p) (no : ¬ Own env σ p) : Rel K g c F (env.set i (.ow ds)) m (σ.set i (some (.ref p))) H :=
  r.setS (fun a ha => by rw [show (Sl.ow ds).adr (some (some (.ref p))) = [p] from rfl, List.mem_singleton] at ha; subst ha; exact no) ⟨p, xs, rfl, nf, hp, rl, nc⟩
theorem Rel.setO {i : Nat} {ds : List D} {p : Addr} {xs : List V} (r : Rel K g c F env m σ H) (nf : F p = none) (hp : H p = some (.lst xs)) (rl : RepL K g F ds xs) (nc : c ≠ some p) (no : ¬ Own env σ p) : Rel K g c F (env.set i (.own ds)) m (σ.set i (some (.ref p))) H :=
  r.setOw nf hp ⟨xs, rfl, rl⟩ nc no
theorem own_setO {i : Nat} {ds : D} {p a : Addr} (l : env.length = σ.length) (h : Own (env.set i (.ow ds)) (σ.set i (some (.ref p))) a) : a = p ∨ Own env σ a := (own_set1 l h).imp (fun z => by simpa [Sl.adr] using z) id
end

/-! ### simple statements -/
section
variable {g : Gp} {X : Cx} {st : Stmt} {sts : List Stmt} {e : Expr} {d : DE} {dl : DL} {s s1 s2 : DS} {t : DT} {pos : Pos}
def dSeq (s1 s2 : DS) : DS := fun env m E => s1 env m { E with nx := fun env' m' => s2 env' m' E }
def dNext : DS := fun env m E => E.nx env m
theorem gss_nil : GSs g X [] dNext := PSs.weak pss_nil fun D σ H ⟨c, F, env, m, E, r, h, o⟩ => o.nx σ H F env m r (r.evo (Fresh.refl r.sub r.ck)) h
theorem gss_cons (h1 : GS g X st s1) (h2 : GSs g X sts s2) : GSs g X (st :: sts) (dSeq s1 s2) := PSs.weak (pss_cons h1 h2) fun D σ H ⟨c, F, env, m, E, r, h, o⟩ =>
  ⟨c, F, env, m, _, r, h, o.next fun σ' H' F' env' m' r' v q => ⟨c, F', env', m', E, r', q, o.shift v⟩⟩
theorem gss_one (h1 : GS g X st s1) : GSs g X [st] s1 := pss_one h1
def dNever : DS := fun _ _ _ => False
theorem gs_never : GS g X st dNever := PS.weak ps_never fun D σ H ⟨_, _, _, _, _, _, h, _⟩ => h
theorem gss_never : GSs g X sts dNever := PSs.weak pss_never fun D σ H ⟨_, _, _, _, _, _, h, _⟩ => h
theorem gs_pass : GS g X (.Pass pos) dNext := PS.weak ps_pass fun D σ H ⟨c, F, env, m, E, r, h, o⟩ => o.nx σ H F env m r (r.evo (Fresh.refl r.sub r.ck)) h
def dBreak : DS := fun env m E => E.bk env m
def dCont : DS := fun env m E => E.ct env m
theorem gs_break : GS g X (.Break pos) dBreak := PS.weak ps_break fun D σ H ⟨c, F, env, m, E, r, h, o⟩ => o.bk σ H F env m r (r.evo (Fresh.refl r.sub r.ck)) h
theorem gs_cont : GS g X (.Continue pos) dCont := PS.weak ps_continue fun D σ H ⟨c, F, env, m, E, r, h, o⟩ => o.ct σ H F env m r (r.evo (Fresh.refl r.sub r.ck)) h
def dDrop (d : DE) : DS := fun env m E => d env m fun _ m1 => E.nx env m1
theorem gs_expr (he : GE g X e d) (hs : swapsWith e none pos.line X.env = pure false := by rfl) : GS g X (.Expr e pos) (dDrop d) := PS.weak (ps_expr he hs) fun D σ H ⟨c, F, env, m, E, r, h, o⟩ =>
  ⟨c, F, env, m, _, r, h, fun v H' F' m' x r' f rp q => o.nx σ H' F' env m' r' (r.evo f) q⟩
def dRet (d : DE) : DS := fun env m E => d env m E.rt
theorem gs_ret (he : GE g X e d) : GS g X (.Return (some e) pos) (dRet d) := PS.weak (ps_ret he) fun D σ H ⟨c, F, env, m, E, r, h, o⟩ =>
  ⟨c, F, env, m, _, r, h, fun v H' F' m' x r' f rp q => o.rt v H' F' m' x r'.ck (r.evo f).none rp q⟩
def dRetN : DS := fun _ m E => E.rt .non m
theorem gs_retN : GS g X (.Return none pos) dRetN := PS.weak ps_retN fun D σ H ⟨c, F, env, m, E, r, h, o⟩ => o.rt .non H F m .non r.ck (r.evo (Fresh.refl r.sub r.ck)).none .non h
/-- return x, x a list of one's own -/
def dRetO (i : Nat) : DS := fun env m E => ∃ ds, env[i]? = some (.own ds) ∧ E.rt (.lst ds) m
theorem gs_retO (i : Nat) {x : Str} {p1 : Pos} (hN : X.N[i]? = some x := by rfl) (hv : Vis X.env.scope x := by first | exact Or.inl rfl | exact Or.inr (Or.inl rfl) | exact Or.inr (Or.inr rfl)) (hd : (x == ("__debug__" : Str)) = false := by decide)
    (hcd : (x == ("__classdict__" : Str)) = false := by decide) : GS g X (.Return (some (.Name x p1)) pos) (dRetO i) := PS.weak (ps_ret (pe_var hN hv hd hcd)) fun D σ H ⟨c, F, env, m, E, r, ⟨ds, e1, q⟩, o⟩ => by
  obtain ⟨p, xs, e2, h1, h2, h3, h4⟩ := (r.slot i _ e1).own'
  have hc : ∀ a, c = some a → a ≠ p := fun a h z => h4 (z ▸ h)
  refine ⟨.ref p, e2, o.rt _ H (upd F p (.lst xs)) m (.lst ds) (fun a h => ⟨by rw [upd_ne (hc a h)]; exact (r.ck a h).1, (r.ck a h).2⟩) ?_ (.lst upd_same (h3.mono (Evl.Ex.new h1))) q⟩
  refine ⟨Evl.Ex.new h1, fun a u z => ?_, fun a u h _ _ => h, fun a u z => ?_, fun a h => by rw [upd_ne (hc a h)]; exact r.nc a h, fun _ z => z.elim⟩
  · by_cases y : a = p
    · subst y; rw [upd_same] at z; rw [← z]; exact h2
    · rw [upd_ne y] at z; exact r.sub a u z
  · by_cases y : a = p
    · subst y; exact .inr (.inr (own_ow e1 e2))
    · rw [upd_ne y] at z; exact .inl z
def dIf (t : DT) (s1 s2 : DS) : DS := fun env m E => t env m fun b m1 => if b = true then s1 env m1 E else s2 env m1 E
theorem gs_if {cc : Expr} {a b : List Stmt} (hc : GT g X cc t) (ha : GSs g X a s1) (hb : GSs g X b s2) : GS g X (.If cc a b pos) (dIf t s1 s2) := PS.weak (ps_if hc ha hb) fun D σ H ⟨c, F, env, m, E, r, h, o⟩ =>
  ⟨c, F, env, m, _, r, h, fun x H1 F1 m1 r1 f1 q1 => by
    cases x with
    | true => exact ⟨c, F1, env, m1, E, r1, q1, o.shift (r.evo f1)⟩
    | false => exact ⟨c, F1, env, m1, E, r1, q1, o.shift (r.evo f1)⟩⟩
/-- x = e -/
def dAsg (i : Nat) (d : DE) : DS := fun env m E => d env m fun x m1 => E.nx (env.set i (.val x)) m1
def dAsgN (i : Nat) (d : DL) : DS := fun env m E => d env m fun ds m1 => E.nx (env.set i (.own ds)) m1
theorem evo_setV {K : PySem.W.Frag} {c : Option Addr} {F H F' H' : Hp} {env : Env'} {m : Nat} {σ : St} {i : Nat} {x : D} {v : V} (r : Rel K g c F env m σ H) (f : Fresh c F H F' H') : Evo c (Own env σ) F H (Own (env.set i (.val x)) (σ.set i (some v))) F' H' :=
  (r.evo f).sub fun a h => own_set r.len sl_no h
theorem asg_weak {t : TE} {i : Nat} (w : ∀ σ H Q, tD X.K g d σ H Q → t σ H Q) : ∀ D σ H, tSD X.K g (dAsg i d) D σ H → tAsg t (gName i) D σ H := fun D σ H ⟨c, F, env, m, E, r, h, o⟩ =>
  w σ H _ ⟨c, F, env, m, _, r, h, fun v H' F' m' x r' f rp q => o.nx _ H' F' _ m' (r'.setV rp) (evo_setV r f) q⟩
theorem asgN_weak {t : TE} {i : Nat} (w : ∀ σ H Q, tN X.K g dl σ H Q → t σ H Q) : ∀ D σ H, tSD X.K g (dAsgN i dl) D σ H → tAsg t (gName i) D σ H := fun D σ H ⟨c, F, env, m, E, r, h, o⟩ =>
  w σ H _ ⟨c, F, env, m, _, r, h, fun p H' F' m' ds xs r' f h0 hp hc h1 h2 q => by
    have no : ¬ Own env σ p := fun z => by obtain ⟨_, _, y⟩ := r.ownH z; rw [h0] at y; cases y
    refine o.nx _ H' F' _ m' (r'.setO hp h1 h2 hc no) ?_ q
    have v := r.evo f
    refine ⟨v.ff, v.fh, v.hh, v.new, v.nc, fun a z => ?_⟩
    rcases own_setO r.len z with rfl | y
    · exact ⟨hc, .inr h0⟩
    · exact v.own a y⟩
theorem gs_set {i : Nat} {x : Str} {pos' : Pos} (hN : X.N.Nodup) (hi : X.N[i]? = some x) (hx : Loc X.env.scope x) (he : GE g X e d) (hs : swapsWith e (some (.Name x pos')) pos.line X.env = pure false := by rfl)
    (hf : X.fn x = true ∨ X.env.scope.names.lookup x = some .local := by first | exact .inl rfl | exact .inr rfl | assumption) : GS g X (.Assign [.Name x pos'] e pos) (dAsg i d) := PS.weak (ps_set hN hi hx he hs hf) (asg_weak fun _ _ _ h => h)
theorem gs_setN {i : Nat} {x : Str} {pos' : Pos} (hN : X.N.Nodup) (hi : X.N[i]? = some x) (hx : Loc X.env.scope x) (he : GN g X e dl) (hs : swapsWith e (some (.Name x pos')) pos.line X.env = pure false := by rfl)
    (hf : X.fn x = true ∨ X.env.scope.names.lookup x = some .local := by first | exact .inl rfl | exact .inr rfl | assumption) : GS g X (.Assign [.Name x pos'] e pos) (dAsgN i dl) := PS.weak (ps_set hN hi hx he hs hf) (asgN_weak fun _ _ _ h => h)

/-! ### targets -/
/-- d goes to the target: the slots js alone change -/
structure GG (g : Gp) (X : Cx) (tg : Expr) (T : TG) (f : D → Env' → Option Env') (js : List Nat) : Prop where
  pg : PG X tg T
  ok : ∀ (c : Option Addr) (F : Hp) (env : Env') (m : Nat) (σ : St) (H : Hp) (d : D) (v : V) (env2 : Env') (Q : St → Hp → Prop), Rel X.K g c F env m σ H → Rep X.K g F d v → f d env = some env2 →
    (∀ σ2, Rel X.K g c F env2 m σ2 H → (∀ a, Own env2 σ2 a → Own env σ a) → σ2.length = σ.length → (∀ i, i ∉ js → σ2[i]? = σ[i]?) → Q σ2 H) → T v σ H Q
def tgN (j : Nat) : D → Env' → Option Env' := fun d env => some (env.set j (.val d))
theorem gg_name {j : Nat} {x : Str} (hN : X.N.Nodup) (hi : X.N[j]? = some x) (hx : Loc X.env.scope x) (hf : X.fn x = true ∨ X.env.scope.names.lookup x = some .local := by first | exact .inl rfl | exact .inr rfl | assumption) : GG g X (.Name x pos) (gName j) (tgN j) [j] :=
  ⟨pg_name hN hi hx hf, fun c F env m σ H d v env2 Q r rp e k => by
    cases e
    exact k _ (r.setV rp) (fun a h => own_set r.len sl_no h) (List.length_set ..) fun i hi => List.getElem?_set_ne (fun z => hi (by simp [z]))⟩
/-- several targets -/
structure GGs (g : Gp) (X : Cx) (tgs : List Expr) (T : TGs) (f : List D → Env' → Option Env') (js : List Nat) : Prop where
  pg : PGs X tgs T
  ok : ∀ (c : Option Addr) (F : Hp) (env : Env') (m : Nat) (σ : St) (H : Hp) (ds : List D) (vs : List V) (env2 : Env') (Q : St → Hp → Prop), Rel X.K g c F env m σ H → RepL X.K g F ds vs → f ds env = some env2 →
    (∀ σ2, Rel X.K g c F env2 m σ2 H → (∀ a, Own env2 σ2 a → Own env σ a) → σ2.length = σ.length → (∀ i, i ∉ js → σ2[i]? = σ[i]?) → Q σ2 H) → T vs σ H Q
def tgNil : List D → Env' → Option Env' := fun ds env => match ds with | [] => some env | _ => none
def tgCons (f : D → Env' → Option Env') (fs : List D → Env' → Option Env') : List D → Env' → Option Env' := fun ds env => match ds with | d :: r => (f d env).bind (fs r) | [] => none
theorem ggs_nil : GGs g X [] gNil tgNil [] := ⟨pgs_nil, fun c F env m σ H ds vs env2 Q r rp e k => by
  cases ds with
  | nil => cases rp; cases e; exact ⟨rfl, k σ r (fun _ h => h) rfl fun _ _ => rfl⟩
  | cons _ _ => cases e⟩
theorem ggs_cons {tg : Expr} {tgs : List Expr} {T : TG} {Gs : TGs} {f : D → Env' → Option Env'} {fs : List D → Env' → Option Env'} {js ks : List Nat} (h1 : GG g X tg T f js) (h2 : GGs g X tgs Gs fs ks)
    (hs : (assignEach (tg :: tgs) X.env).map (·.2) = assign tg X.env :: (assignEach tgs X.env).map (·.2) := by rfl) : GGs g X (tg :: tgs) (gCons T Gs) (tgCons f fs) (js ++ ks) := ⟨pgs_cons h1.pg h2.pg hs, fun c F env m σ H ds vs env2 Q r rp e k => by
  cases ds with
  | nil => cases e
  | cons d ds =>
    cases rp with
    | cons rp1 rp2 =>
      obtain ⟨env1, e1, e2⟩ := Option.bind_eq_some_iff.mp (show (f d env).bind (fs ds) = some env2 from e)
      refine ⟨_, _, rfl, h1.ok c F env m σ H d _ env1 _ r rp1 e1 fun σ2 r2 o2 l2 a2 => h2.ok c F env1 m σ2 H ds _ env2 Q r2 rp2 e2 fun σ3 r3 o3 l3 a3 => k σ3 r3 (fun a h => o2 a (o3 a h)) (l3.trans l2) fun i hi => ?_⟩
      rw [List.mem_append] at hi
      exact (a3 i fun z => hi (.inr z)).trans (a2 i fun z => hi (.inl z))⟩
def tgT (fs : List D → Env' → Option Env') (n : Nat) : D → Env' → Option Env' := fun d env => match d with | .tup ds => if ds.length = n then fs ds env else none | _ => none
theorem gg_tup {tgs : List Expr} {Gs : TGs} {fs : List D → Env' → Option Env'} {js : List Nat} {k n : Nat} (hc : X.calm = true) (h : GGs g X tgs Gs fs js) (hn : (assignEach tgs X.env).length = n := by rfl) (hst : (assignEach tgs X.env).findIdx? (·.1) = none := by rfl) :
    GG g X (.Tuple tgs k pos) (gTup X.K n Gs) (tgT fs n) js := ⟨pg_tup hc h.pg hn hst, fun c F env m σ H d v env2 Q r rp e kk => by
  cases d with
  | tup ds =>
    simp only [tgT] at e
    split at e
    · rename_i hl
      cases rp with
      | tup q rl => exact ⟨_, _, rfl, Evl.ex_t r.sub q, by rw [rl.length]; exact hl, h.ok c F env m σ H ds _ env2 Q r rl e kk⟩
    · cases e
  | _ => cases e⟩
/-- target = e -/
def dAsgT (f : D → Env' → Option Env') (d : DE) : DS := fun env m E => d env m fun x m1 => ∃ env2, f x env = some env2 ∧ E.nx env2 m1
theorem gs_asg {tg : Expr} {T : TG} {f : D → Env' → Option Env'} {js : List Nat} (he : GE g X e d) (hg : GG g X tg T f js) (hs : swapsWithSole [tg] e pos.line X.env = pure false := by rfl) (hw : swappedStores [tg] e X.env = pure none := by rfl)
    (h1 : (assignEach [tg] X.env).map (·.2) = [assign tg X.env] := by rfl) : GS g X (.Assign [tg] e pos) (dAsgT f d) := PS.weak (ps_asg he hg.pg hs hw h1) fun D σ H ⟨c, F, env, m, E, r, h, o⟩ =>
  ⟨c, F, env, m, _, r, h, fun v H' F' m' x r' fr rp ⟨env2, e2, q⟩ => hg.ok c F' env m' σ H' x v env2 _ r' rp e2 fun σ2 r2 o2 _ _ => o.nx σ2 H' F' env2 m' r2 ((r.evo fr).sub o2) q⟩
/-- a, b = x, y (plain locals) -/
def dPar (i j : Nat) (d : DL) : DS := fun env m E => d env m fun ds m1 => ∃ x y, ds = [x, y] ∧ E.nx ((env.set i (.val x)).set j (.val y)) m1
theorem gs_par {i j : Nat} {x y : Str} {a b : Expr} {px py pt : Pos} {kt k2 pt2} (hc : X.calm = true) (hN : X.N.Nodup) (hi : X.N[i]? = some x) (hj : X.N[j]? = some y) (hij : i ≠ j)
    (hx : X.env.scope.names.lookup x = some .local) (hy : X.env.scope.names.lookup y = some .local) (ha : GAl g X [a, b] dl)
    (hw : swappedStores [.Tuple [.Name x px, .Name y py] kt pt] (.Tuple [a, b] k2 pt2) X.env = pure (some [x, y]))
    (hs : swapsWithSole [.Tuple [.Name x px, .Name y py] kt pt] (.Tuple [a, b] k2 pt2) pos.line X.env = pure false := by rfl) :
    GS g X (.Assign [.Tuple [.Name x px, .Name y py] kt pt] (.Tuple [a, b] k2 pt2) pos) (dPar i j dl) := PS.weak (ps_par hc hN hi hj hij hx hy ha hw hs) fun D σ H ⟨c, F, env, m, E, r, h, o⟩ =>
  ⟨c, F, env, m, _, r, h, fun vs H' F' m' ds r' f rp ⟨d1, d2, e1, q⟩ => by
    subst e1
    cases rp with
    | cons p1 t1 =>
      cases t1 with
      | cons p2 t2 =>
        cases t2
        refine ⟨_, _, rfl, o.nx _ H' F' _ m' ((r'.setV p1).setV p2) ((r.evo f).sub fun a h => ?_) q⟩
        exact own_set r.len sl_no (own_set (by rw [List.length_set, List.length_set, r.len]) sl_no h)⟩
end
end G
namespace G
open PySem L2

/-! ### what is walked: a list, a tuple, a text; alone, numbered, two of them side by side -/
inductive Src where
  | lst (a : Addr) | tup (a : Addr) | txt (x : Str)
def chars (x : Str) : List V := x.cps.toList.map fun c => V.str ⟨#[c]⟩
def Src.val : Src → V
  | .lst a => .ref a
  | .tup a => .ref a
  | .txt x => .str x
def Src.ok (K : PySem.W.Frag) (H : Hp) : Src → List V → Prop
  | .lst a, xs => SqL K H a xs
  | .tup a, xs => SqT K H a xs
  | .txt x, xs => xs = chars x
def Src.st (it : Addr) : Src → Nat → Heap → Prop
  | .lst a, i, h => h.IsListIter it a i
  | .tup a, i, h => h.IsTupleIter it a i
  | .txt x, i, h => ∃ t, h.IsStrIter it (strIterType x) x t i
theorem chars_get {x : Str} {i c : Nat} (h : x.cps[i]? = some c) : (chars x)[i]? = some (.str ⟨#[c]⟩) := by
  unfold chars
  rw [List.getElem?_map, Array.getElem?_toList, h]
  rfl
theorem chars_len (x : Str) : (chars x).length = x.cps.size := by unfold chars; rw [List.length_map, Array.length_toList]
section
variable {X : Cx} {pins : List (Addr × Obj)} {σ : St} {H : Hp} {s : Shared}
theorem Src.inj (I : Inv X pins σ H s) {S : Src} {xs ys : List V} (h : S.ok X.K H xs) (h' : S.ok X.K H ys) : xs = ys := by
  cases S with
  | lst a => exact I.list_inj h h'
  | tup a => exact I.tuple_inj h h'
  | txt x => exact Eq.trans h (Eq.symm h')
/-- a thing of the heap is none of the iterator's own objects -/
theorem sq_apart {P : Prop} (I : Inv X pins σ H s) {a b : Addr} (h : (∃ u, Rd H a u) ∨ ∃ o, X.K.lookup a = some o) (f : FpOk X pins H b) : a ≠ b := by
  intro e
  subst e
  obtain ⟨f0, _, _, f3, _⟩ := f
  rcases h with ⟨u, h⟩ | ⟨o, h⟩
  · rcases h with h | ⟨_, h⟩
    · rw [f0] at h; cases h
    · rw [f0] at h; cases h
  · have hb := I.ok.mod.kin a o h
    rcases f3 with q | q
    · exact I.ok.noex a o hb q
    · have := Heap.lt_size ((I.ok.bs a o hb).1)
      exact absurd this (Nat.not_lt.mpr q)
theorem sqL_there {K : PySem.W.Frag} {a : Addr} {xs : List V} (h : SqL K H a xs) : (∃ u, Rd H a u) ∨ ∃ o, K.lookup a = some o := by
  rcases h with h | ⟨o, _, _, h, _⟩
  · exact .inl ⟨_, h⟩
  · exact .inr ⟨o, h⟩
theorem sqT_there {K : PySem.W.Frag} {a : Addr} {xs : List V} (h : SqT K H a xs) : (∃ u, Rd H a u) ∨ ∃ o, K.lookup a = some o := by
  rcases h with h | ⟨o, _, _, h, _⟩
  · exact .inl ⟨_, h⟩
  · exact .inr ⟨o, h⟩
/-- what such an iterator draws, told where it stands -/
theorem Src.draws (I : Inv X pins σ H s) {A : Around} (hh : A.handled = none) {S : Src} {xs : List V} (ok : S.ok X.K H xs) {it : Addr} {i : Nat} (st : S.st it i s.heap) (f : FpOk X pins H it) :
    ∃ (fp : List Addr) (P : Nat → Value → Prop) (T : Nat → Heap → Prop), Draws X.prog X.w A it fp xs.length P T ∧ T i s.heap ∧ (∀ j h, T j h → S.st it j h) ∧ (∀ j u, P j u → ∃ v, xs[j]? = some v ∧ RelV v u) ∧ it ∈ fp ∧ ∀ b ∈ fp, b = it ∨ ∀ c, FpOk X pins H c → b ≠ c := by
  cases S with
  | lst a =>
    obtain ⟨its, rv, pl, _⟩ := I.list ok
    have na : a ≠ it := sq_apart (P := True) I (sqL_there ok) f
    have DD := Draws.list (prog := X.prog) (w := X.w) hh it a na its.toArray
    rw [List.size_toArray, ← rv.length] at DD
    refine ⟨[it, a], _, _, DD, ⟨st, pl.isList⟩, fun j h q => q.1, fun j u q => ?_, by simp, fun b hb => ?_⟩
    · have q' : its[j]? = some u := by simpa using q
      have hj : j < xs.length := by rw [rv.length]; exact (List.getElem?_eq_some_iff.mp q').1
      have e : xs[j]? = some xs[j] := List.getElem?_eq_getElem hj
      obtain ⟨u', h1, h2⟩ := rv.get e
      rw [q'] at h1
      cases h1
      exact ⟨_, e, h2⟩
    · rcases List.mem_cons.mp hb with e | e
      · exact .inl e
      · have e : b = a := by simpa using e
        subst e
        exact .inr fun c fc => sq_apart (P := True) I (sqL_there ok) fc
  | tup a =>
    obtain ⟨its, rv, pl, _⟩ := I.tuple ok
    have na : a ≠ it := sq_apart (P := True) I (sqT_there ok) f
    have DD := Draws.tuple (prog := X.prog) (w := X.w) hh it a na its.toArray
    rw [List.size_toArray, ← rv.length] at DD
    refine ⟨[it, a], _, _, DD, ⟨st, pl⟩, fun j h q => q.1, fun j u q => ?_, by simp, fun b hb => ?_⟩
    · have q' : its[j]? = some u := by simpa using q
      have hj : j < xs.length := by rw [rv.length]; exact (List.getElem?_eq_some_iff.mp q').1
      have e : xs[j]? = some xs[j] := List.getElem?_eq_getElem hj
      obtain ⟨u', h1, h2⟩ := rv.get e
      rw [q'] at h1
      cases h1
      exact ⟨_, e, h2⟩
    · rcases List.mem_cons.mp hb with e | e
      · exact .inl e
      · have e : b = a := by simpa using e
        subst e
        exact .inr fun c fc => sq_apart (P := True) I (sqT_there ok) fc
  | txt x =>
    have ok' : xs = chars x := ok
    subst ok'
    obtain ⟨t, st⟩ := st
    refine ⟨[it], _, _, chars_len x ▸ Draws.text hh it x t, st, fun j h q => ⟨t, q⟩, fun j u q => ?_, by simp, fun b hb => .inl (by simpa using hb)⟩
    obtain ⟨ch, u', h1, rfl⟩ := q
    exact ⟨_, chars_get h1, ⟨u', rfl⟩⟩
theorem Src.stay {S : Src} {it : Addr} {i : Nat} {h h' : Heap} (st : S.st it i h) (k : ∀ o, h.get? it = some o → h'.get? it = some o) : S.st it i h' := by
  cases S with
  | lst a => exact Heap.IsListIter.at st k
  | tup a => exact Heap.IsTupleIter.at st k
  | txt x => obtain ⟨t, o, ho, r⟩ := st; exact ⟨t, o, k o ho, r⟩
theorem Src.obj {S : Src} {it : Addr} {i : Nat} {h : Heap} (st : S.st it i h) : ∃ o, h.get? it = some o ∧ ∀ v, o.data ≠ .cell v := by
  cases S with
  | lst a => obtain ⟨o, e, _, d⟩ := st; exact ⟨o, e, fun v q => by rw [d] at q; cases q⟩
  | tup a => obtain ⟨o, e, _, d⟩ := st; exact ⟨o, e, fun v q => by rw [d] at q; cases q⟩
  | txt x => obtain ⟨t, o, e, _, d⟩ := st; exact ⟨o, e, fun v q => by rw [d] at q; cases q⟩
end
/-- how iter(v) begins, for a source -/
theorem Src.begins {X : Cx} {pins : List (Addr × Obj)} {σ : St} {H : Hp} {s : Shared} (I : Inv X pins σ H s) {S : Src} {xs : List V} (ok : S.ok X.K H xs) {u : Value} (r : RelV S.val u) :
    ∃ (o : Obj) (T : Heap → Prop), Begins u o T ∧ T s.heap ∧ ∀ (it : Addr) (h : Heap), h.get? it = some o → S.st it 0 h := by
  cases S with
  | lst a =>
    obtain ⟨its, rv, pl, _⟩ := I.list ok
    cases r
    exact ⟨_, _, begins_list a its.toArray, pl.isList, fun it h e => ⟨_, e, rfl, rfl⟩⟩
  | tup a =>
    obtain ⟨its, rv, pl, _⟩ := I.tuple ok
    cases r
    exact ⟨_, _, begins_tuple a its.toArray, pl, fun it h e => ⟨_, e, rfl, rfl⟩⟩
  | txt x =>
    obtain ⟨t, rfl⟩ := r
    exact ⟨_, _, begins_text x t, trivial, fun it h e => ⟨t, _, e, rfl, rfl⟩⟩

/-! ### zip of two sources -/
def ItZ (K : PySem.W.Frag) (S1 S2 : Src) : It :=
  ⟨fun i H => ∃ (xs ys : List V) (x y : V), S1.ok K H xs ∧ S2.ok K H ys ∧ xs[i]? = some x ∧ ys[i]? = some y,
   fun i H v H' => ∃ T x y, v = .ref T ∧ H T = none ∧ H' = upd H T (.tup [x, y]) ∧ (∀ xs, S1.ok K H xs → xs[i]? = some x) ∧ ∀ ys, S2.ok K H ys → ys[i]? = some y,
   fun i H => ∃ xs ys : List V, S1.ok K H xs ∧ S2.ok K H ys ∧ i = min xs.length ys.length⟩
def ZSt (S1 S2 : Src) (z TI TO i1 i2 : Addr) (i : Nat) (h : Heap) : Prop := IsZip h z TI TO .none ∧ IsTupOf2 h TI (.ref i1) (.ref i2) ∧ (∃ x y, IsTupOf2 h TO x y) ∧ S1.st i1 i h ∧ S2.st i2 i h
structure ZAp (z TI TO i1 i2 : Addr) : Prop where
  a : TI ≠ z
  b : TO ≠ z
  c : TI ≠ TO
  d : TI ≠ i1
  e : TI ≠ i2
  f : z ≠ i1
  g : z ≠ i2
  h : TO ≠ i1
  i : TO ≠ i2
  j : i1 ≠ i2
theorem zsep {X : Cx} {pins : List (Addr × Obj)} {H : Hp} {z TI TO i1 i2 : Addr} {fp1 fp2 : List Addr} (A : ZAp z TI TO i1 i2) (m1 : i1 ∈ fp1) (m2 : i2 ∈ fp2) (h1 : ∀ b ∈ fp1, b = i1 ∨ ∀ c, FpOk X pins H c → b ≠ c) (h2 : ∀ b ∈ fp2, b = i2 ∨ ∀ c, FpOk X pins H c → b ≠ c)
    (fz : FpOk X pins H z) (fT : FpOk X pins H TO) (f1 : FpOk X pins H i1) (f2 : FpOk X pins H i2) : ZipSep2 z TI TO i1 i2 fp1 fp2 :=
  { TIz := A.a, TOz := A.b, TITO := A.c, TIi1 := A.d, mem1 := m1, TIi2 := A.e, mem2 := m2,
    zf1 := fun q => (h1 z q).elim (fun e => A.f e) fun k => k z fz rfl, Tf1 := fun q => (h1 TO q).elim (fun e => A.h e) fun k => k TO fT rfl,
    zf2 := fun q => (h2 z q).elim (fun e => A.g e) fun k => k z fz rfl, Tf2 := fun q => (h2 TO q).elim (fun e => A.i e) fun k => k TO fT rfl,
    sep1_2 := fun q => (h2 i1 q).elim (fun e => A.j e) fun k => k i1 f1 rfl, sep2_1 := fun q => (h1 i2 q).elim (fun e => A.j e.symm) fun k => k i2 f2 rfl }
theorem turnZ {P : Program} {w : World} {K : PySem.W.Frag} {elts : List Expr} {kk : Nat} {tpos : Pos} {S1 S2 : Src} {z TI TO i1 i2 : Addr} (A : ZAp z TI TO i1 i2) :
    Turn P w K (.Tuple elts kk tpos) (ItZ K S1 S2) [z, TI, TO, i1, i2] z (ZSt S1 S2 z TI TO i1 i2) where
  mem := by simp
  obj := fun i h st c hc => by
    obtain ⟨hz, hTI, ⟨x, y, hTO⟩, s1, s2⟩ := st
    simp only [List.mem_cons, List.not_mem_nil, or_false] at hc
    rcases hc with rfl | rfl | rfl | rfl | rfl
    · exact ⟨_, hz, fun v q => nomatch q⟩
    · exact ⟨_, hTI, fun v q => nomatch q⟩
    · exact ⟨_, hTO, fun v q => nomatch q⟩
    · exact (Src.obj s1)
    · exact (Src.obj s2)
  keep := fun i h h' st k => by
    obtain ⟨hz, hTI, ⟨x, y, hTO⟩, s1, s2⟩ := st
    exact ⟨k z (by simp) _ hz, k TI (by simp) _ hTI, ⟨x, y, k TO (by simp) _ hTO⟩, Src.stay s1 (k i1 (by simp)), Src.stay s2 (k i2 (by simp))⟩
  item := by
    intro X hP hw hK hc i pins s σ H E I hf st hg
    subst hP hw hK
    obtain ⟨hz, hTI, ⟨x0, y0, hTO⟩, s1, s2⟩ := st
    obtain ⟨xs, ys, x, y, ok1, ok2, hx, hy⟩ := hg
    have hd : X.A.in1.handled = none := I.ok.hd hc
    obtain ⟨fp1, P1, T1, D1, t1, c1, r1, m1, a1⟩ := Src.draws I hd ok1 s1 (hf i1 (by simp))
    obtain ⟨fp2, P2, T2, D2, t2, c2, r2, m2, a2⟩ := Src.draws I hd ok2 s2 (hf i2 (by simp))
    have W := GoesN.zip2 (A := X.A) (elts := elts) (x1 := kk) (pos := tpos) (zsep A m1 m2 a1 a2 (hf z (by simp)) (hf TO (by simp)) (hf i1 (by simp)) (hf i2 (by simp))) D1 D2
    have l1 := (List.getElem?_eq_some_iff.mp hx).1
    have l2 := (List.getElem?_eq_some_iff.mp hy).1
    refine W.goes i s (fun u s2 => ∃ x H', Inv X pins σ H' s2 ∧ RelV x u ∧ (ItZ X.K S1 S2).yld i H x H' ∧ ZSt S1 S2 z TI TO i1 i2 (i + 1) s2.heap ∧ ∀ b ∈ [z, TI, TO, i1, i2], H' b = none) E (by omega) ⟨hz, hTI, ⟨x0, y0, hTO⟩, t1, t2⟩ fun v h' tk hY st' hk htk => ?_
    obtain ⟨T, u1, u2, rfl, hT, p1, p2, isT⟩ := hY
    obtain ⟨v1, e1, q1⟩ := r1 i u1 p1
    obtain ⟨v2, e2, q2⟩ := r2 i u2 p2
    rw [hx] at e1
    rw [hy] at e2
    cases e1
    cases e2
    have hn : H T = none := I.hok.fresh hT
    have new : ObjOk X.prog X.w (upd H T (.tup [x, y])) h' T (.tup [x, y]) := ⟨by show 2 ≤ sizeLine; decide, [u1, u2], .cons q1 (.cons q2 .nil), isT⟩
    have I1 := I.turnedNew (t' := tk) (h' := h') (ch := [z, TI, TO, i1, i2]) (fun b o hb e => hk b o (fun q => hb (by
      simp only [List.mem_cons, List.not_mem_nil, or_false] at q ⊢
      rcases q with q | q | q | q <;> simp [q])) e) hf hT new
    refine ⟨.ref T, _, I1, rfl, ⟨T, x, y, rfl, hn, rfl, fun l hl => by rw [Src.inj I hl ok1]; exact hx, fun l hl => by rw [Src.inj I hl ok2]; exact hy⟩, ?_, fun b hb => ?_⟩
    · obtain ⟨hz', hTI', hTO', t1', t2'⟩ := st'
      exact ⟨hz', hTI', hTO', c1 _ _ t1', c2 _ _ t2'⟩
    · have hb0 := (hf b hb).1
      have hne : b ≠ T := fun e => by
        subst e
        have : ∃ o, s.heap.get? b = some o := by
          simp only [List.mem_cons, List.not_mem_nil, or_false] at hb
          rcases hb with rfl | rfl | rfl | rfl | rfl
          · exact ⟨_, hz⟩
          · exact ⟨_, hTI⟩
          · exact ⟨_, hTO⟩
          · obtain ⟨o, e, _⟩ := (Src.obj s1); exact ⟨o, e⟩
          · obtain ⟨o, e, _⟩ := (Src.obj s2); exact ⟨o, e⟩
        obtain ⟨o, e⟩ := this
        exact absurd (Heap.lt_size e) (Nat.not_lt.mpr hT)
      rw [upd_ne hne]
      exact hb0
  done := by
    intro X hP hw hK hc i pins s σ H E I hf st hg
    subst hP hw hK
    obtain ⟨hz, hTI, ⟨x0, y0, hTO⟩, s1, s2⟩ := st
    obtain ⟨xs, ys, ok1, ok2, hi⟩ := hg
    have hd : X.A.in1.handled = none := I.ok.hd hc
    obtain ⟨fp1, P1, T1, D1, t1, c1, r1, m1, a1⟩ := Src.draws I hd ok1 s1 (hf i1 (by simp))
    obtain ⟨fp2, P2, T2, D2, t2, c2, r2, m2, a2⟩ := Src.draws I hd ok2 s2 (hf i2 (by simp))
    have W := GoesN.zip2 (A := X.A) (elts := elts) (x1 := kk) (pos := tpos) (zsep A m1 m2 a1 a2 (hf z (by simp)) (hf TO (by simp)) (hf i1 (by simp)) (hf i2 (by simp))) D1 D2
    refine W.stops s (fun s1 => Inv X pins σ H s1) E (by rw [← hi]; exact ⟨hz, hTI, ⟨x0, y0, hTO⟩, t1, t2⟩) fun h' tk hk htk => ?_
    exact I.turnedL (t' := tk) (ch := [z, TI, TO, i1, i2]) (fun b o hb e => hk b o (fun q => hb (by
      simp only [List.mem_cons, List.not_mem_nil, or_false] at q ⊢
      rcases q with q | q | q | q <;> simp [q])) e) hf
  self := fun A' i s Q E st h => wpAny_pyIter_zip st.1 h
def iZipG (K : PySem.W.Frag) (ta : TA) : TI := fun σ H R => ta σ H fun vs H1 => ∃ S1 S2 xs ys, vs = [S1.val, S2.val] ∧ S1.ok K H1 xs ∧ S2.ok K H1 ys ∧ R (ItZ K S1 S2) H1
theorem pi_zipG {X : Cx} {e e2 : Expr} {ta : TA} {p pos tpos : Pos} {elts : List Expr} {kk : Nat} (hg : Gl X "zip") (hm : X.mg "zip" = none) (ha : PA X [e, e2] ta)
    (hs : starEach [e, e2] X.env = (false, eval e X.env) :: starEach [e2] X.env := by rfl) (hpl : (backTo pos (starEach [e2] X.env)).any (·.1) = false := by rfl) :
    PI X (.Tuple elts kk tpos) (.Call (.Name "zip" p) [e, e2] [] pos) (iZipG X.K ta) := by
  refine ⟨fun pins s σ H R I h => ?_⟩
  refine PyProof.Rows.Call_ (ld_blt I hg hm PyProof.Rows.boot_zip (PyProof.Rows.callWith_type1 (thn (ha.run pos pins s σ H _ I h) fun us s1 ⟨vs, H1, I1, r1, q1⟩ => ?_) hs hpl))
  obtain ⟨S1, S2, xs, ys, ex, ok1, ok2, q⟩ := q1
  subst ex
  obtain ⟨u1, u2, rfl, ru1, ru2⟩ := r1.two
  obtain ⟨o1, T1, B1, t1, k1⟩ := Src.begins I1 ok1 ru1
  obtain ⟨o2, T2, B2, t2, k2⟩ := Src.begins I1 ok2 ru2
  refine zip_begins2 B1 B2 t1 t2 fun h' hz hTI hTO g1 g2 hsz hk => wpAny_pyIter_zip hz ?_
  have I2 : Inv X pins σ H1 { s1 with heap := h' } := I1.kept (t' := s1.toks) hk
  refine ⟨s1.heap.objs.size + 4, [s1.heap.objs.size + 4, s1.heap.objs.size + 2, s1.heap.objs.size + 3, s1.heap.objs.size, s1.heap.objs.size + 1], _, _, H1, rfl, I2, turnZ (S1 := S1) (S2 := S2) ?_, ⟨hz, hTI, ⟨_, _, hTO⟩, k1 _ _ g1, k2 _ _ g2⟩, fun b hb => ?_, q⟩
  · generalize s1.heap.objs.size = N
    exact ⟨show (N + 2 : Nat) ≠ N + 4 by omega, show (N + 3 : Nat) ≠ N + 4 by omega, show (N + 2 : Nat) ≠ N + 3 by omega, show (N + 2 : Nat) ≠ N by omega, show (N + 2 : Nat) ≠ N + 1 by omega, show (N + 4 : Nat) ≠ N by omega, show (N + 4 : Nat) ≠ N + 1 by omega, show (N + 3 : Nat) ≠ N by omega, show (N + 3 : Nat) ≠ N + 1 by omega, show (N : Nat) ≠ N + 1 by omega⟩
  · have hle : s1.heap.objs.size ≤ b := by
      simp only [List.mem_cons, List.not_mem_nil, or_false] at hb
      rcases hb with rfl | rfl | rfl | rfl | rfl
      · exact Nat.le_add_right _ _
      · exact Nat.le_add_right _ _
      · exact Nat.le_add_right _ _
      · exact Nat.le_refl _
      · exact Nat.le_add_right _ _
    exact I1.fpOk hle (I1.hok.fresh hle)

/-! ### enumerate of a source -/
set_option maxHeartbeats 1000000 in
theorem meets_enum1 {v : Value} {o : Obj} {T : Heap → Prop} (B : Begins v o T) :
    Meets (Builtin.«enumerate.__new__» ⟨[.type "enumerate", v], []⟩) (fun _ R s => T s.heap ∧
      R (.ok (.ret (.ref (s.heap.push o).objs.size))) { s with heap := (s.heap.push o).push { cls := .type "enumerate", data := .fields #[.none, .bool false, .ref s.heap.objs.size, rawInt 0, .none, .none] } }) :=
  .of_wp fun prog w A R s h => by
    obtain ⟨hp, gg, dd, tk, os⟩ := s
    obtain ⟨h1, h⟩ := h
    have hsub := sub_enumerate
    have q1 : ∀ {A' : Around} {E : Value → Shared → Prop} {Q : Value → Shared → Prop}, Q (.ref hp.objs.size) ⟨hp.push o, gg, dd, tk, os⟩ → wpAny (model prog w) A' (pyIter v) Q E ⟨hp, gg, dd, tk, os⟩ :=
      fun q => B.iter prog w _ _ ⟨hp, gg, dd, tk, os⟩ _ h1 q
    wp_walk using q1
    refine wpAny_stack_any fun st => wpAny_pure ?_
    split
    · rename_i cc _ _ _ _ _
      cases (cc == Value.type "enumerate") <;> (wp_walk using q1; exact ⟨_, rfl, h⟩)
    · wp_walk using q1
      exact ⟨_, rfl, h⟩
theorem enum1_begins {prog : Program} {w : World} {A : Around} {E : Value → Shared → Prop} {s : Shared} {v : Value} {o : Obj} {T : Heap → Prop} {Q : Value → Shared → Prop} (B : Begins v o T) (h1 : T s.heap)
    (h : ∀ h', IsEnum h' (s.heap.objs.size + 1) s.heap.objs.size 0 .none → h'.get? s.heap.objs.size = some o → h'.objs.size = s.heap.objs.size + 2 →
      (∀ b o, s.heap.get? b = some o → h'.get? b = some o) → Q (.ref (s.heap.objs.size + 1)) { s with heap := h' }) :
    wpAny (model prog w) A (call (.type "enumerate") [v]) Q E s := by
  refine callType_new F.called_enumerate (by decide) (F.typeCall_enumerate_1 _) (F.newCall_enumerate_1 _) (fun obj => F.args_object_init_2 obj _) F.entry_enumerate_new (meets_enum1 B) ⟨h1, ?_⟩
  have hz : (s.heap.push o).objs.size = s.heap.objs.size + 1 := Heap.size_push ..
  show _ ∧ _
  rw [hz]
  have he : IsEnum ((s.heap.push o).push { cls := .type "enumerate", data := .fields #[.none, .bool false, .ref s.heap.objs.size, rawInt 0, .none, .none] }) (s.heap.objs.size + 1) s.heap.objs.size 0 .none := by
    have := Heap.get?_push_size (s.heap.push o) (o := { cls := .type "enumerate", data := .fields #[.none, .bool false, .ref s.heap.objs.size, rawInt 0, .none, .none] }) rfl
    rw [hz] at this
    exact this
  exact ⟨⟨_, he, rfl⟩, h _ he (Heap.get?_push_of_some _ (Heap.get?_push_size _ B.free)) (by rw [Heap.size_push, hz]) fun b o x => Heap.get?_push_of_some _ (Heap.get?_push_of_some _ x)⟩
def ItE (K : PySem.W.Frag) (S : Src) : It :=
  ⟨fun i H => ∃ (xs : List V) (x : V), S.ok K H xs ∧ xs[i]? = some x,
   fun i H v H' => ∃ T x, v = .ref T ∧ H T = none ∧ H' = upd H T (.tup [.int (i : Nat), x]) ∧ ∀ xs, S.ok K H xs → xs[i]? = some x,
   fun i H => ∃ xs : List V, S.ok K H xs ∧ i = xs.length⟩
def ESt (S : Src) (e it : Addr) (i : Nat) (h : Heap) : Prop := (∃ old, IsEnum h e it (0 + (i : Int)) old) ∧ S.st it i h
theorem turnE {P : Program} {w : World} {K : PySem.W.Frag} {elts : List Expr} {kk : Nat} {tpos : Pos} {S : Src} {e it : Addr} (hne : e ≠ it) :
    Turn P w K (.Tuple elts kk tpos) (ItE K S) [e, it] e (ESt S e it) where
  mem := by simp
  obj := fun i h st c hc => by
    obtain ⟨⟨old, he⟩, s1⟩ := st
    simp only [List.mem_cons, List.not_mem_nil, or_false] at hc
    rcases hc with rfl | rfl
    · exact ⟨_, he, fun v q => nomatch q⟩
    · exact (Src.obj s1)
  keep := fun i h h' st k => by
    obtain ⟨⟨old, he⟩, s1⟩ := st
    exact ⟨⟨old, k e (by simp) _ he⟩, Src.stay s1 (k it (by simp))⟩
  item := by
    intro X hP hw hK hc i pins s σ H E I hf st hg
    subst hP hw hK
    obtain ⟨⟨old, he⟩, s1⟩ := st
    obtain ⟨xs, x, ok1, hx⟩ := hg
    have hd : X.A.in1.handled = none := I.ok.hd hc
    obtain ⟨fp1, P1, T1, D1, t1, c1, r1, m1, a1⟩ := Src.draws I hd ok1 s1 (hf it (by simp))
    have nef : e ∉ fp1 := fun q => (a1 e q).elim (fun z => hne z) fun k => k e (hf e (by simp)) rfl
    have W := GoesN.enumFrom (A := X.A) (elts := elts) (x1 := kk) (pos := tpos) 0 D1 e hne nef m1
    have l1 := (List.getElem?_eq_some_iff.mp hx).1
    refine W.goes i s (fun u s2 => ∃ x H', Inv X pins σ H' s2 ∧ RelV x u ∧ (ItE X.K S).yld i H x H' ∧ ESt S e it (i + 1) s2.heap ∧ ∀ b ∈ [e, it], H' b = none) E l1 ⟨⟨old, he⟩, t1⟩ fun v h' tk hY st' hk htk => ?_
    obtain ⟨T, t, u1, rfl, hT, p1, isT⟩ := hY
    obtain ⟨v1, e1, q1⟩ := r1 i u1 p1
    rw [hx] at e1
    cases e1
    have hn : H T = none := I.hok.fresh hT
    have new : ObjOk X.prog X.w (upd H T (.tup [.int (i : Nat), x])) h' T (.tup [.int (i : Nat), x]) := ⟨by show 2 ≤ sizeLine; decide, [.int (0 + (i : Int)) t, u1], .cons ⟨t, by rw [Int.zero_add]⟩ (.cons q1 .nil), isT⟩
    have I1 := I.turnedNew (t' := tk) (h' := h') (ch := [e, it]) (fun b o hb q => hk b o hb q) hf hT new
    refine ⟨.ref T, _, I1, rfl, ⟨T, x, rfl, hn, rfl, fun l hl => by rw [Src.inj I hl ok1]; exact hx⟩, ?_, fun b hb => ?_⟩
    · obtain ⟨he', t1'⟩ := st'
      exact ⟨he', c1 _ _ t1'⟩
    · have hb0 := (hf b hb).1
      have hne : b ≠ T := fun z => by
        subst z
        have : ∃ o, s.heap.get? b = some o := by
          simp only [List.mem_cons, List.not_mem_nil, or_false] at hb
          rcases hb with rfl | rfl
          · exact ⟨_, he⟩
          · obtain ⟨o, z, _⟩ := (Src.obj s1); exact ⟨o, z⟩
        obtain ⟨o, z⟩ := this
        exact absurd (Heap.lt_size z) (Nat.not_lt.mpr hT)
      rw [upd_ne hne]
      exact hb0
  done := by
    intro X hP hw hK hc i pins s σ H E I hf st hg
    subst hP hw hK
    obtain ⟨⟨old, he⟩, s1⟩ := st
    obtain ⟨xs, ok1, hi⟩ := hg
    have hd : X.A.in1.handled = none := I.ok.hd hc
    obtain ⟨fp1, P1, T1, D1, t1, c1, r1, m1, a1⟩ := Src.draws I hd ok1 s1 (hf it (by simp))
    have nef : e ∉ fp1 := fun q => (a1 e q).elim (fun z => hne z) fun k => k e (hf e (by simp)) rfl
    have W := GoesN.enumFrom (A := X.A) (elts := elts) (x1 := kk) (pos := tpos) 0 D1 e hne nef m1
    refine W.stops s (fun s1 => Inv X pins σ H s1) E (by rw [← hi]; exact ⟨⟨old, he⟩, t1⟩) fun h' tk hk htk => ?_
    exact I.turnedL (t' := tk) (ch := [e, it]) (fun b o hb q => hk b o hb q) hf
  self := fun A' i s Q E st h => let ⟨⟨_, he⟩, _⟩ := st; wpAny_pyIter_enum he h
def iEnumG (K : PySem.W.Frag) (ta : TA) : TI := fun σ H R => ta σ H fun vs H1 => ∃ S xs, vs = [S.val] ∧ S.ok K H1 xs ∧ R (ItE K S) H1
theorem pi_enumG {X : Cx} {e : Expr} {ta : TA} {p pos tpos : Pos} {elts : List Expr} {kk : Nat} (hg : Gl X "enumerate") (hm : X.mg "enumerate" = none) (ha : PA X [e] ta) (hs : starEach [e] X.env = [(false, eval e X.env)] := by rfl) :
    PI X (.Tuple elts kk tpos) (.Call (.Name "enumerate" p) [e] [] pos) (iEnumG X.K ta) := by
  refine ⟨fun pins s σ H R I h => ?_⟩
  refine PyProof.Rows.Call_ (ld_blt I hg hm PyProof.Rows.boot_enumerate (PyProof.Rows.callWith_type1 (thn (ha.run pos pins s σ H _ I h) fun us s1 ⟨vs, H1, I1, r1, q1⟩ => ?_) hs rfl))
  obtain ⟨S, xs, ex, ok1, q⟩ := q1
  subst ex
  obtain ⟨u1, rfl, ru1⟩ := r1.one
  obtain ⟨o1, T1, B1, t1, k1⟩ := Src.begins I1 ok1 ru1
  refine enum1_begins B1 t1 fun h' he g1 hsz hk => wpAny_pyIter_enum he ?_
  have I2 : Inv X pins σ H1 { s1 with heap := h' } := I1.kept (t' := s1.toks) hk
  refine ⟨s1.heap.objs.size + 1, [s1.heap.objs.size + 1, s1.heap.objs.size], _, _, H1, rfl, I2, turnE (S := S) (Nat.succ_ne_self _), ⟨⟨.none, he⟩, k1 _ _ g1⟩, fun b hb => ?_, q⟩
  have hle : s1.heap.objs.size ≤ b := by
    simp only [List.mem_cons, List.not_mem_nil, or_false] at hb
    rcases hb with rfl | rfl
    · exact Nat.le_add_right _ _
    · exact Nat.le_refl _
  exact I1.fpOk hle (I1.hok.fresh hle)

/-! ### a source alone -/
def Src.J (K : PySem.W.Frag) : Src → It
  | .lst a => Itl K a
  | .tup a => Itt K a
  | .txt x => Its x
def iSrc (K : PySem.W.Frag) (te : TE) : TI := fun σ H R => te σ H fun v H1 => ∃ S xs, v = Src.val S ∧ S.ok K H1 xs ∧ R (S.J K) H1
theorem pi_src {X : Cx} {tg l : Expr} {tl : TE} (hl : PE X l tl) : PI X tg l (iSrc X.K tl) := by
  refine ⟨fun pins s σ H R I h => ?_⟩
  refine thn (hl.run pins s σ H _ I h) fun v s1 ⟨x, H1, I1, r1, S, xs, ex, ok, q⟩ => ?_
  subst ex
  cases S with
  | txt x =>
    obtain ⟨t, rfl⟩ := r1
    cases ha : x.cps.all (· < 128)
    · refine wpAny_pyIter_wide ha ?_
      exact pi_one (tk := s1.toks) I1 _ (turn_str _ x t "str_iterator" (.inr rfl)) ⟨_, Heap.get?_push_size _ rfl, rfl, rfl⟩ q
    · refine wpAny_pyIter_ascii ha ?_
      exact pi_one (tk := s1.toks) I1 _ (turn_str _ x t "str_ascii_iterator" (.inl rfl)) ⟨_, Heap.get?_push_size _ rfl, rfl, rfl⟩ q
  | lst a =>
    cases r1
    obtain ⟨its, rv, p, hz⟩ := I1.list ok
    refine wpAny_pyIter_list p.isList ?_
    exact pi_one (tk := s1.toks) I1 _ (turn_list a _) ⟨_, Heap.get?_push_size _ rfl, rfl, rfl⟩ q
  | tup a =>
    cases r1
    obtain ⟨its, rv, p, hz⟩ := I1.tuple ok
    refine wpAny_pyIter_tuple (show s1.heap.IsTuple a its.toArray from p) ?_
    exact pi_one (tk := s1.toks) I1 _ (turn_tuple a _) ⟨_, Heap.get?_push_size _ rfl, rfl, rfl⟩ q
end G
namespace G
open PySem L2

/-! ### what is walked, by data -/
def charsD (x : Str) : List D := x.cps.toList.map fun c => D.str ⟨#[c]⟩
def srcD : D → Option (List D)
  | .lst ds => some ds
  | .tup ds => some ds
  | .str s => some (charsD s)
  | _ => none
def enumD (ds : List D) : List D := ds.zipIdx.map fun p => .tup [.int (p.2 : Nat), p.1]
def zipD (as bs : List D) : List D := List.zipWith (fun a b => .tup [a, b]) as bs
def rangeD (a b : Int) : List D := (List.range (b - a).toNat).map fun i => .int (a + (i : Nat))
def WalkD (K : PySem.W.Frag) (g : Gp) (F : Hp) (lk : List (Addr × HO)) (J : It) (its : List D) : Prop := ∀ (i : Nat) (F2 H2 : Hp), Ex F F2 → Ex F2 H2 → (∀ p ∈ lk, H2 p.1 = some p.2) →
  (∀ d, its[i]? = some d → J.go i H2 ∧ ∀ x H3, J.yld i H2 x H3 → ∃ F3, New F2 H2 F3 H3 ∧ Rep K g F3 d x) ∧ (i = its.length → J.stop i H2)
def tI (K : PySem.W.Frag) (g : Gp) (bor : Bool) (di : DL) : TI := fun σ H R => ∃ c F env m Q, Rel K g c F env m σ H ∧ di env m Q ∧
  ∀ J H' F' m' its lk, Rel K g c F' env m' σ H' → Fresh c F H F' H' → (bor = false → lk = []) → (∀ p ∈ lk, H' p.1 = some p.2 ∧ c ≠ some p.1) → WalkD K g F' lk J its → Q its m' → R J H'
def GI (bor : Bool) (g : Gp) (X : Cx) (tg iter : Expr) (di : DL) : Prop := PI X tg iter (tI X.K g bor di)
theorem PI.weak {X : Cx} {tg e : Expr} {t t' : TI} (h : PI X tg e t) (w : ∀ σ H Q, t' σ H Q → t σ H Q) : PI X tg e t' := ⟨fun pins s σ H Q I q => h.run pins s σ H Q I (w σ H Q q)⟩
section
variable {g : Gp} {X : Cx} {tg e e2 : Expr} {d da db : DE} {dl di : DL} {pos p : Pos}
theorem gi_bor (h : GI false g X tg e di) : GI true g X tg e di := PI.weak h fun σ H R ⟨c, F, env, m, Q, r, hd, k⟩ => ⟨c, F, env, m, Q, r, hd, fun J H' F' m' its lk r' f hl hk w q => k J H' F' m' its lk r' f (fun z => nomatch z) hk w q⟩
/-- a source: its items as they are represented -/
def SrcR (K : PySem.W.Frag) (g : Gp) (F : Hp) (lk : List (Addr × HO)) (S : Src) (ds : List D) : Prop := ∃ xs, RepL K g F ds xs ∧ ∀ F2 H2, Ex F F2 → Ex F2 H2 → (∀ p ∈ lk, H2 p.1 = some p.2) → S.ok K H2 xs
theorem chars_rep {K : PySem.W.Frag} {F : Hp} (x : Str) : RepL K g F (charsD x) (chars x) := by
  unfold charsD chars
  induction x.cps.toList with
  | nil => exact .nil
  | cons c r ih => exact .cons (.str _) ih
theorem src_rep {K : PySem.W.Frag} {F : Hp} {x : D} {v : V} {ds : List D} (h : Rep K g F x v) (e : srcD x = some ds) : ∃ S, v = Src.val S ∧ SrcR K g F [] S ds := by
  cases h with
  | str s => cases e; exact ⟨.txt s, rfl, _, chars_rep s, fun _ _ _ _ _ => rfl⟩
  | lst h r => cases e; exact ⟨.lst _, rfl, _, r, fun F2 H2 e1 e2 _ => SqL.of (e2 _ _ (e1 _ _ h))⟩
  | tup h r => cases e; exact ⟨.tup _, rfl, _, r, fun F2 H2 e1 e2 _ => Evl.ex_t e2 (Evl.ex_t e1 h)⟩
  | _ => cases e
theorem src_repT {K : PySem.W.Frag} {c : Option Addr} {F H : Hp} {x : D} {v : V} {ds : List D} (h : RepT K g c F H x v) (e : srcD x = some ds) : ∃ S lk, v = Src.val S ∧ SrcR K g F lk S ds ∧ ∀ p ∈ lk, H p.1 = some p.2 ∧ c ≠ some p.1 := by
  cases x with
  | lst es =>
    cases e
    obtain ⟨p, xs, rfl, h1, h2, h3⟩ := h
    exact ⟨.lst p, [(p, .lst xs)], rfl, ⟨xs, h2, fun F2 H2 e1 e2 k => SqL.of (k (p, .lst xs) (by simp))⟩, fun q hq => by simp only [List.mem_singleton] at hq; subst hq; exact ⟨h1, h3⟩⟩
  | dic kds => cases e
  | _ =>
    obtain ⟨S, e1, e2⟩ := src_rep (show Rep K g F _ v from h) e
    exact ⟨S, [], e1, e2, fun _ q => by cases q⟩
theorem SrcR.more {K : PySem.W.Frag} {F F' : Hp} {lk lk' : List (Addr × HO)} {S : Src} {ds : List D} (h : SrcR K g F lk S ds) (e : Ex F F') (s : ∀ p ∈ lk, p ∈ lk') : SrcR K g F' lk' S ds := by
  obtain ⟨xs, r, k⟩ := h
  exact ⟨xs, r.mono e, fun F2 H2 e1 e2 q => k F2 H2 (e.trans e1) e2 fun p hp => q p (s p hp)⟩
theorem walk_src {K : PySem.W.Frag} {F : Hp} {lk : List (Addr × HO)} {S : Src} {ds : List D} (h : SrcR K g F lk S ds) : WalkD K g F lk (S.J K) ds := by
  obtain ⟨xs, r, k⟩ := h
  intro i F2 H2 e1 e2 q
  have ok := k F2 H2 e1 e2 q
  have r2 := r.mono e1
  refine ⟨fun d hd => ?_, fun hi => ?_⟩
  · obtain ⟨v, hv, rv⟩ := r2.get hd
    cases S with
    | lst a => exact ⟨⟨xs, v, ok, hv⟩, fun x H3 ⟨e, y⟩ => by subst e; have := y xs ok; rw [hv] at this; cases this; exact ⟨F2, New.refl e2, rv⟩⟩
    | tup a => exact ⟨⟨xs, v, ok, hv⟩, fun x H3 ⟨e, y⟩ => by subst e; have := y xs ok; rw [hv] at this; cases this; exact ⟨F2, New.refl e2, rv⟩⟩
    | txt x =>
      have ok' : xs = chars x := ok
      subst ok'
      have hl := (List.getElem?_eq_some_iff.mp hv).1
      rw [chars_len] at hl
      refine ⟨hl, fun y H3 ⟨e, c, hc, ey⟩ => ?_⟩
      subst e ey
      have := chars_get hc
      rw [hv] at this
      cases this
      exact ⟨F2, New.refl e2, rv⟩
  · have hl : i = xs.length := by rw [r.length]; exact hi
    cases S with
    | lst a => exact ⟨xs, ok, by omega⟩
    | tup a => exact ⟨xs, ok, by omega⟩
    | txt x =>
      have ok' : xs = chars x := ok
      subst ok'
      rw [chars_len] at hl
      show x.cps.size ≤ i
      omega
def dISrc (d : DE) : DL := fun env m Q => d env m fun x m1 => ∃ ds, srcD x = some ds ∧ Q ds m1
theorem gi_src (he : GE g X e d) : GI false g X tg e (dISrc d) := PI.weak (pi_src he) fun σ H R ⟨c, F, env, m, Q, r, hd, k⟩ =>
  ⟨c, F, env, m, _, r, hd, fun v H' F' m' x r' f rp ⟨ds, e1, q⟩ => by
    obtain ⟨S, rfl, sr⟩ := src_rep rp e1
    obtain ⟨xs, rl, ok⟩ := id sr
    exact ⟨S, xs, rfl, ok F' H' (fun _ _ h => h) r'.sub (fun _ z => by cases z), k _ H' F' m' ds [] r' f (fun _ => rfl) (fun _ z => by cases z) (walk_src sr) q⟩⟩
theorem gi_srcB (he : GB g X e d) : GI true g X tg e (dISrc d) := PI.weak (pi_src he) fun σ H R ⟨c, F, env, m, Q, r, hd, k⟩ =>
  ⟨c, F, env, m, _, r, hd, fun v H' F' m' x r' f rp ⟨ds, e1, q⟩ => by
    obtain ⟨S, lk, rfl, sr, hk⟩ := src_repT rp e1
    obtain ⟨xs, rl, ok⟩ := id sr
    exact ⟨S, xs, rfl, ok F' H' (fun _ _ h => h) r'.sub (fun p hp => (hk p hp).1), k _ H' F' m' ds lk r' f (fun z => nomatch z) hk (walk_src sr) q⟩⟩
/-! numbered -/
theorem enumD_get {ds : List D} {i : Nat} {d : D} (h : (enumD ds)[i]? = some d) : ∃ x, ds[i]? = some x ∧ d = .tup [.int (i : Nat), x] := by
  unfold enumD at h
  rw [List.getElem?_map, List.getElem?_zipIdx] at h
  cases q : ds[i]? with
  | none => rw [q] at h; cases h
  | some x => rw [q] at h; cases h; exact ⟨x, rfl, by simp⟩
theorem enumD_len (ds : List D) : (enumD ds).length = ds.length := by unfold enumD; rw [List.length_map, List.length_zipIdx]
theorem rep_pair {K : PySem.W.Frag} {F H : Hp} {T : Addr} {x y : V} {a b : D} (hT : H T = none) (e : Ex F H) (ra : Rep K g F a x) (rb : Rep K g F b y) : ∃ F3, New F H F3 (upd H T (.tup [x, y])) ∧ Rep K g F3 (.tup [a, b]) (.ref T) := by
  have n := New.fix (o := .tup [x, y]) e hT
  exact ⟨_, n, .tup (SqT.of upd_same) (.cons (ra.mono n.ff) (.cons (rb.mono n.ff) .nil))⟩
theorem walk_enum {K : PySem.W.Frag} {F : Hp} {lk : List (Addr × HO)} {S : Src} {ds : List D} (h : SrcR K g F lk S ds) : WalkD K g F lk (ItE K S) (enumD ds) := by
  obtain ⟨xs, r, k⟩ := h
  intro i F2 H2 e1 e2 q
  have ok := k F2 H2 e1 e2 q
  have r2 := r.mono e1
  refine ⟨fun d hd => ?_, fun hi => ?_⟩
  · obtain ⟨x, hx, rfl⟩ := enumD_get hd
    obtain ⟨v, hv, rv⟩ := r2.get hx
    refine ⟨⟨xs, v, ok, hv⟩, fun y H3 ⟨T, z, ey, hT, eH, hz⟩ => ?_⟩
    subst ey eH
    have := hz xs ok
    rw [hv] at this
    cases this
    exact rep_pair hT e2 (.int _) rv
  · exact ⟨xs, ok, by rw [r.length, ← enumD_len ds]; exact hi⟩
def dIEnum (d : DE) : DL := fun env m Q => d env m fun x m1 => ∃ ds, srcD x = some ds ∧ Q (enumD ds) m1
variable {elts : List Expr} {kk : Nat} {tpos : Pos}
/-- one argument by data (a list of arguments of one expression) -/
theorem PA.one_weak {t : TE} {t' : TA} {es : Expr} (h : PE X es t) (hs : starEach [es] X.env = [(false, eval es X.env)]) : PA X [es] (tCons t tNil) := pa_cons h pa_nil hs
theorem gi_enum (hg : Gl X "enumerate") (hm : X.mg "enumerate" = none) (he : GE g X e d) (hs : starEach [e] X.env = [(false, eval e X.env)] := by rfl) : GI false g X (.Tuple elts kk tpos) (.Call (.Name "enumerate" p) [e] [] pos) (dIEnum d) :=
  PI.weak (pi_enumG hg hm (pa_cons he pa_nil hs) hs) fun σ H R ⟨c, F, env, m, Q, r, hd, k⟩ =>
  ⟨c, F, env, m, _, r, hd, fun v H' F' m' x r' f rp ⟨ds, e1, q⟩ => by
    obtain ⟨S, rfl, sr⟩ := src_rep rp e1
    obtain ⟨xs, rl, ok⟩ := id sr
    exact ⟨S, xs, rfl, ok F' H' (fun _ _ h => h) r'.sub (fun _ z => by cases z), k _ H' F' m' _ [] r' f (fun _ => rfl) (fun _ z => by cases z) (walk_enum sr) q⟩⟩
theorem gi_enumB (hg : Gl X "enumerate") (hm : X.mg "enumerate" = none) (he : GB g X e d) (hs : starEach [e] X.env = [(false, eval e X.env)] := by rfl) : GI true g X (.Tuple elts kk tpos) (.Call (.Name "enumerate" p) [e] [] pos) (dIEnum d) :=
  PI.weak (pi_enumG hg hm (pa_cons he pa_nil hs) hs) fun σ H R ⟨c, F, env, m, Q, r, hd, k⟩ =>
  ⟨c, F, env, m, _, r, hd, fun v H' F' m' x r' f rp ⟨ds, e1, q⟩ => by
    obtain ⟨S, lk, rfl, sr, hk⟩ := src_repT rp e1
    obtain ⟨xs, rl, ok⟩ := id sr
    exact ⟨S, xs, rfl, ok F' H' (fun _ _ h => h) r'.sub (fun p hp => (hk p hp).1), k _ H' F' m' _ lk r' f (fun z => nomatch z) hk (walk_enum sr) q⟩⟩
/-! side by side -/
theorem zipD_get {as bs : List D} {i : Nat} {d : D} (h : (zipD as bs)[i]? = some d) : ∃ x y, as[i]? = some x ∧ bs[i]? = some y ∧ d = .tup [x, y] := by
  unfold zipD at h
  rw [List.getElem?_zipWith] at h
  cases q : as[i]? with
  | none => rw [q] at h; cases h
  | some x =>
    cases q2 : bs[i]? with
    | none => rw [q, q2] at h; cases h
    | some y => rw [q, q2] at h; cases h; exact ⟨x, y, rfl, rfl, rfl⟩
theorem zipD_len (as bs : List D) : (zipD as bs).length = min as.length bs.length := by unfold zipD; rw [List.length_zipWith]
theorem walk_zip {K : PySem.W.Frag} {F : Hp} {lk : List (Addr × HO)} {S1 S2 : Src} {as bs : List D} (h1 : SrcR K g F lk S1 as) (h2 : SrcR K g F lk S2 bs) : WalkD K g F lk (ItZ K S1 S2) (zipD as bs) := by
  obtain ⟨xs, r, k⟩ := h1
  obtain ⟨ys, r', k'⟩ := h2
  intro i F2 H2 e1 e2 q
  have ok := k F2 H2 e1 e2 q
  have ok' := k' F2 H2 e1 e2 q
  refine ⟨fun d hd => ?_, fun hi => ?_⟩
  · obtain ⟨x, y, hx, hy, rfl⟩ := zipD_get hd
    obtain ⟨v, hv, rv⟩ := (r.mono e1).get hx
    obtain ⟨w, hw, rw'⟩ := (r'.mono e1).get hy
    refine ⟨⟨xs, ys, v, w, ok, ok', hv, hw⟩, fun u H3 ⟨T, a, b, eu, hT, eH, ha, hb⟩ => ?_⟩
    subst eu eH
    have z1 := ha xs ok
    have z2 := hb ys ok'
    rw [hv] at z1
    rw [hw] at z2
    cases z1
    cases z2
    exact rep_pair hT e2 rv rw'
  · exact ⟨xs, ys, ok, ok', by rw [r.length, r'.length, ← zipD_len]; exact hi⟩
def dIZip (da db : DE) : DL := fun env m Q => da env m fun x m1 => db env m1 fun y m2 => ∃ as bs, srcD x = some as ∧ srcD y = some bs ∧ Q (zipD as bs) m2
theorem gi_zip (hg : Gl X "zip") (hm : X.mg "zip" = none) (he : GE g X e da) (he2 : GE g X e2 db) (hs : starEach [e, e2] X.env = (false, eval e X.env) :: starEach [e2] X.env := by rfl) (hs2 : starEach [e2] X.env = (false, eval e2 X.env) :: starEach [] X.env := by rfl)
    (hpl : (backTo pos (starEach [e2] X.env)).any (·.1) = false := by rfl) : GI false g X (.Tuple elts kk tpos) (.Call (.Name "zip" p) [e, e2] [] pos) (dIZip da db) :=
  PI.weak (pi_zipG hg hm (pa_cons he (pa_cons he2 pa_nil hs2) hs) hs hpl) fun σ H R ⟨c, F, env, m, Q, r, hd, k⟩ =>
  ⟨c, F, env, m, _, r, hd, fun v H1 F1 m1 x r1 f1 rp1 q1 => ⟨c, F1, env, m1, _, r1, q1, fun w H' F' m' y r' f' rp' ⟨as, bs, e1, e2, q⟩ => by
    obtain ⟨S1, rfl, s1⟩ := src_rep (rp1.mono f'.ff) e1
    obtain ⟨S2, rfl, s2⟩ := src_rep rp' e2
    obtain ⟨xs, _, ok⟩ := id s1
    obtain ⟨ys, _, ok'⟩ := id s2
    exact ⟨S1, S2, xs, ys, rfl, ok F' H' (fun _ _ h => h) r'.sub (fun _ z => by cases z), ok' F' H' (fun _ _ h => h) r'.sub (fun _ z => by cases z), k _ H' F' m' _ [] r' (f1.trans f') (fun _ => rfl) (fun _ z => by cases z) (walk_zip s1 s2) q⟩⟩⟩
/-! ranges -/
theorem rangeD_get {a b : Int} {i : Nat} {d : D} (h : (rangeD a b)[i]? = some d) : i < (b - a).toNat ∧ d = .int (a + (i : Nat)) := by
  unfold rangeD at h
  rw [List.getElem?_map] at h
  cases q : (List.range (b - a).toNat)[i]? with
  | none => rw [q] at h; cases h
  | some j =>
    rw [q] at h
    cases h
    obtain ⟨h1, h2⟩ := List.getElem?_eq_some_iff.mp q
    rw [List.getElem_range] at h2
    subst h2
    exact ⟨by simpa using h1, rfl⟩
theorem rangeD_len (a b : Int) : (rangeD a b).length = (b - a).toNat := by unfold rangeD; rw [List.length_map, List.length_range]
theorem walk_range {K : PySem.W.Frag} {F : Hp} (a b : Int) : WalkD K g F [] (Itr a (b - a).toNat) (rangeD a b) := by
  intro i F2 H2 e1 e2 q
  refine ⟨fun d hd => ?_, fun hi => ?_⟩
  · obtain ⟨hl, rfl⟩ := rangeD_get hd
    refine ⟨hl, fun x H3 ⟨e, ex⟩ => ?_⟩
    subst e ex
    exact ⟨F2, New.refl e2, .int _⟩
  · rw [rangeD_len] at hi
    show (b - a).toNat ≤ i
    omega
def dIRng (d : DE) : DL := fun env m Q => d env m fun x m1 => ∃ n : Int, x = .int n ∧ -(2 ^ 62) ≤ n ∧ n < 2 ^ 62 ∧ Q (rangeD 0 n) m1
theorem gi_range (hg : Gl X "range") (hm : X.mg "range" = none) (he : GE g X e d) (hs : starEach [e] X.env = [(false, eval e X.env)] := by rfl) : GI false g X tg (.Call (.Name "range" p) [e] [] pos) (dIRng d) :=
  PI.weak (pi_range1 hg hm (pa_cons he pa_nil hs) hs) fun σ H R ⟨c, F, env, m, Q, r, hd, k⟩ =>
  ⟨c, F, env, m, _, r, hd, fun v H' F' m' x r' f rp ⟨n, e1, h1, h2, q⟩ => by
    subst e1
    cases rp
    refine ⟨n, rfl, h1, h2, k _ H' F' m' _ [] r' f (fun _ => rfl) (fun _ z => by cases z) ?_ q⟩
    have w := walk_range (K := X.K) (g := g) (F := F') 0 n
    rw [Int.sub_zero] at w
    exact w⟩
def dIRng2 (da db : DE) : DL := fun env m Q => da env m fun x m1 => db env m1 fun y m2 => ∃ a n : Int, x = .int a ∧ y = .int n ∧ -(2 ^ 62) ≤ a ∧ a < 2 ^ 62 ∧ -(2 ^ 62) ≤ n ∧ n < 2 ^ 62 ∧ Q (rangeD a n) m2
theorem gi_range2 (hg : Gl X "range") (hm : X.mg "range" = none) (he : GE g X e da) (he2 : GE g X e2 db) (hs : starEach [e, e2] X.env = [(false, eval e X.env), (false, eval e2 X.env)] := by rfl) (hs2 : starEach [e2] X.env = [(false, eval e2 X.env)] := by rfl) : GI false g X tg (.Call (.Name "range" p) [e, e2] [] pos) (dIRng2 da db) :=
  PI.weak (pi_range2 hg hm (pa_cons he (pa_cons he2 pa_nil hs2) (by rw [hs, hs2])) hs hs2) fun σ H R ⟨c, F, env, m, Q, r, hd, k⟩ =>
  ⟨c, F, env, m, _, r, hd, fun v H1 F1 m1 x r1 f1 rp1 q1 => ⟨c, F1, env, m1, _, r1, q1, fun w H' F' m' y r' f' rp' ⟨a, n, e1, e2, h1, h2, h3, h4, q⟩ => by
    subst e1 e2
    cases rp1
    cases rp'
    exact ⟨a, n, rfl, ⟨h1, h2, h3, h4⟩, k _ H' F' m' _ [] r' (f1.trans f') (fun _ => rfl) (fun _ z => by cases z) (walk_range a n) q⟩⟩⟩
end

/-! ### for, while -/
def ForR (f : D → Env' → Option Env') (body : DS) : List D → Env' → Nat → DEnds → Prop
  | [], env, m, E => E.nx env m
  | d :: ds, env, m, E => ∃ env2, f d env = some env2 ∧ body env2 m { E with nx := fun e' m' => ForR f body ds e' m' E, ct := fun e' m' => ForR f body ds e' m' E, bk := E.nx }
def dFor (di : DL) (f : D → Env' → Option Env') (body : DS) : DS := fun env m E => di env m fun its m1 => ForR f body its env m1 E
def dWhile (t : DT) (body : DS) : DS := fun env m E => ∃ W : Nat → Env' → Nat → Prop, (∃ k, W k env m) ∧ ∀ k env m, W k env m → t env m fun b m1 =>
  if b = true then body env m1 { E with nx := fun e' m' => ∃ k', k' < k ∧ W k' e' m', ct := fun e' m' => ∃ k', k' < k ∧ W k' e' m', bk := E.nx } else E.nx env m1
section
variable {g : Gp} {X : Cx} {tg iter : Expr} {di : DL} {T : TG} {f : D → Env' → Option Env'} {js : List Nat} {body : List Stmt} {s : DS} {t : DT} {pos : Pos}
theorem gs_for (hp : PassesOwn (model X.prog X.w) X.A X.env X.xe) (hc : X.calm = true) (hi : GI false g X tg iter di) (hg : GG g X tg T f js) (hb : GSs g X body s) (hs : ∀ x, foldedSetIterable iter X.env x = pure x := by intro _; rfl) :
    GS g X (.For tg iter body [] pos) (dFor di f s) := PS.weak (ps_for hp hc hi hg.pg hb hs) fun D σ H ⟨c, F, env, m, E, r, h, o⟩ =>
  ⟨c, F, env, m, _, r, h, fun J H1 F1 m1 its lk r1 f1 hl hk w q => by
    have hl := hl rfl
    subst hl
    have v1 := r.evo f1
    refine ⟨fun i k σ' H' => ∃ F' env' m', k = its.length - i ∧ i ≤ its.length ∧ Rel X.K g c F' env' m' σ' H' ∧ Evo c (Own env σ) F H (Own env' σ') F' H' ∧ Ex F1 F' ∧ ForR f s (its.drop i) env' m' E, ⟨its.length, F1, env, m1, rfl, Nat.zero_le _, r1, v1, fun _ _ h => h, q⟩, ?_⟩
    rintro i k σ' H' ⟨F', env', m', rfl, hi, r', v', e', q'⟩
    obtain ⟨go, stop⟩ := w i F' H' e' r'.sub (fun _ z => by cases z)
    by_cases hlt : i < its.length
    · have hd : its[i]? = some its[i] := List.getElem?_eq_getElem hlt
      rw [List.drop_eq_getElem_cons hlt] at q'
      obtain ⟨g1, g2⟩ := go _ hd
      obtain ⟨env2, e2, q2⟩ := q'
      refine .inr ⟨g1, fun σ2 H2 => ∃ F2 env2 m2, Rel X.K g c F2 env2 m2 σ2 H2 ∧ Evo c (Own env σ) F H (Own env2 σ2) F2 H2 ∧ Ex F1 F2 ∧ ForR f s (its.drop (i + 1)) env2 m2 E, fun σ2 H2 ⟨F2, env2, m2, a1, a2, a3, a4⟩ => ⟨its.length - (i + 1), by omega, F2, env2, m2, rfl, by omega, a1, a2, a3, a4⟩, fun x H3 y => ?_⟩
      obtain ⟨F3, n3, rp3⟩ := g2 x H3 y
      have r3 := r'.new n3
      have v3 := v'.trans (r'.evo (n3.fresh r'.ck))
      refine hg.ok c F3 env' m' σ' H3 _ x env2 _ r3 rp3 e2 fun σ4 r4 o4 _ _ => ?_
      have v4 := v3.sub o4
      refine ⟨c, F3, env2, m', _, r4, q2, ⟨fun σ5 H5 F5 env5 m5 r5 v5 q5 => ?_, fun σ5 H5 F5 env5 m5 r5 v5 q5 => ?_, fun σ5 H5 F5 env5 m5 r5 v5 q5 => ?_, fun u H5 F5 m5 y k5 v5 rp5 q5 => ?_⟩⟩
      · exact ⟨F5, env5, m5, r5, v4.trans v5, (e'.trans n3.ff).trans v5.ff, q5⟩
      · exact o.nx σ5 H5 F5 env5 m5 r5 (v4.trans v5) q5
      · exact ⟨F5, env5, m5, r5, v4.trans v5, (e'.trans n3.ff).trans v5.ff, q5⟩
      · exact o.rt u H5 F5 m5 y k5 (v4.trans v5) rp5 q5
    · have hi' : i = its.length := by omega
      refine .inl ⟨stop hi', ?_⟩
      rw [List.drop_eq_nil_of_le (by omega)] at q'
      exact o.nx σ' H' F' env' m' r' v' q'⟩
theorem gs_while {cc : Expr} (hp : PassesOwn (model X.prog X.w) X.A X.env X.xe) (hc : GT g X cc t) (hb : GSs g X body s) : GS g X (.While cc body [] pos) (dWhile t s) := PS.weak (ps_while hp hc hb) fun D σ H ⟨c, F, env, m, E, r, ⟨W, ⟨k0, w0⟩, turn⟩, o⟩ => by
  refine ⟨fun k σ' H' => ∃ F' env' m', Rel X.K g c F' env' m' σ' H' ∧ Evo c (Own env σ) F H (Own env' σ') F' H' ∧ W k env' m', ⟨k0, F, env, m, r, r.evo (Fresh.refl r.sub r.ck), w0⟩, ?_⟩
  rintro k σ' H' ⟨F', env', m', r', v', w'⟩
  refine ⟨c, F', env', m', _, r', turn k env' m' w', fun b H1 F1 m1 r1 f1 q => ?_⟩
  have v1 := v'.trans (r'.evo f1)
  cases b with
  | true =>
    refine ⟨fun σ2 H2 => ∃ k' F2 env2 m2, k' < k ∧ Rel X.K g c F2 env2 m2 σ2 H2 ∧ Evo c (Own env σ) F H (Own env2 σ2) F2 H2 ∧ W k' env2 m2, fun σ2 H2 ⟨k', F2, env2, m2, hk, a1, a2, a3⟩ => ⟨k', hk, F2, env2, m2, a1, a2, a3⟩, ?_⟩
    refine ⟨c, F1, env', m1, _, r1, q, ⟨fun σ5 H5 F5 env5 m5 r5 v5 ⟨k', hk, q5⟩ => ⟨k', F5, env5, m5, hk, r5, v1.trans v5, q5⟩, fun σ5 H5 F5 env5 m5 r5 v5 q5 => o.nx σ5 H5 F5 env5 m5 r5 (v1.trans v5) q5, fun σ5 H5 F5 env5 m5 r5 v5 ⟨k', hk, q5⟩ => ⟨k', F5, env5, m5, hk, r5, v1.trans v5, q5⟩, fun u H5 F5 m5 y k5 v5 rp5 q5 => o.rt u H5 F5 m5 y k5 (v1.trans v5) rp5 q5⟩⟩
  | false => exact o.nx σ' H1 F1 env' m1 r1 v1 q
end

/-! ### list comprehensions -/
theorem new_weak {g : Gp} {X : Cx} {d : DL} : ∀ σ H Q, tD X.K g (dNew d) σ H Q → tN X.K g d σ H Q := fun σ H Q ⟨c, F, env, m, Q1, r, hd, k⟩ => ⟨c, F, env, m, _, r, hd, fun p H' F' m' ds xs r' f h0 hp hc h1 h2 q => by
  have n := fix_fresh (K := X.K) f h0 hp hc h1
  exact k _ H' _ m' (.lst ds) (r.fresh n fun a e => ⟨n.nc a e, (r'.ck a e).2⟩) n (.lst upd_same (RepL.mono (Evl.Ex.new hp) h2)) q⟩
def wipeE (env : Env') : List Nat → Env'
  | [] => env
  | v :: vs => (wipeE env vs).set v .no
theorem Rel.wipe {K : PySem.W.Frag} {g : Gp} {c : Option Addr} {F H : Hp} {env : Env'} {m : Nat} {σ : St} (r : Rel K g c F env m σ H) : ∀ vs : List Nat, Rel K g c F (wipeE env vs) m (wipe σ vs) H
  | [] => r
  | _ :: vs => (Rel.wipe r vs).setNo
theorem wipe_get : ∀ (vs : List Nat) (σ : St) (i : Nat), (wipe σ vs)[i]? = if i ∈ vs then (σ[i]?).map (fun _ => none) else σ[i]?
  | [], σ, i => by simp [wipe]
  | v :: vs, σ, i => by
    unfold wipe
    by_cases h : v = i
    · subst h
      by_cases hl : v < σ.length
      · rw [List.getElem?_set_self (by rw [wipe_length]; exact hl)]
        simp [List.getElem?_eq_getElem hl]
      · rw [List.set_eq_of_length_le (by rw [wipe_length]; omega), wipe_get vs σ v]
        simp [List.getElem?_eq_none (show σ.length ≤ v by omega)]
    · rw [List.getElem?_set_ne h, wipe_get vs σ i]
      have : (i ∈ v :: vs) ↔ i ∈ vs := by simp [Ne.symm h]
      simp only [this]
theorem wipe_same {σ σ2 : St} {vs : List Nat} (l : σ2.length = σ.length) (h : ∀ i, i ∉ vs → σ2[i]? = σ[i]?) : L2.wipe σ2 vs = L2.wipe σ vs := by
  refine List.ext_getElem? fun i => ?_
  rw [wipe_get, wipe_get]
  by_cases hi : i ∈ vs
  · rw [if_pos hi, if_pos hi]
    by_cases hl : i < σ.length
    · rw [List.getElem?_eq_getElem hl, List.getElem?_eq_getElem (by rw [l]; exact hl)]
      rfl
    · rw [List.getElem?_eq_none (show σ.length ≤ i by omega), List.getElem?_eq_none (show σ2.length ≤ i by omega)]
  · rw [if_neg hi, if_neg hi, h i hi]
theorem wipe_wipe (σ : St) (vs : List Nat) : L2.wipe (L2.wipe σ vs) vs = L2.wipe σ vs := wipe_same (wipe_length σ vs) fun i hi => by rw [wipe_get, if_neg hi]
def LcR (f : D → Env' → Option Env') (dt : DT) (de : DE) (env : Env') : List D → Nat → (List D → Nat → Prop) → Prop
  | [], m, Q => Q [] m
  | d :: ds, m, Q => ∃ env2, f d env = some env2 ∧ dt env2 m fun b m1 => if b = true then de env2 m1 fun y m2 => LcR f dt de env ds m2 fun ys m3 => Q (y :: ys) m3 else LcR f dt de env ds m1 Q
def dLc (di : DL) (f : D → Env' → Option Env') (dt : DT) (de : DE) (vs : List Nat) : DL := fun env m Q => di env m fun its m1 => its.length ≤ LL ∧ LcR f dt de (wipeE env vs) its m1 Q
def dYes : DT := fun _ m Q => Q true m
def GTs (g : Gp) (X : Cx) (ifs : List Expr) (d : DT) : Prop := PTs X ifs (tT X.K g d)
theorem PTs.weak {X : Cx} {e : List Expr} {t t' : TT} (h : PTs X e t) (w : ∀ σ H Q, t' σ H Q → t σ H Q) : PTs X e t' := ⟨fun pins s σ H Q I q => h.run pins s σ H Q I (w σ H Q q)⟩
theorem gts_nil {g : Gp} {X : Cx} : GTs g X [] dYes := PTs.weak pts_nil fun σ H Q ⟨c, F, env, m, Q1, r, h, k⟩ => k true H F m r (Fresh.refl r.sub r.ck) h
theorem gts_one {g : Gp} {X : Cx} {e : Expr} {d : DT} (h : GT g X e d) : GTs g X [e] d := pts_one h
section
variable {g : Gp} {X : Cx} {elt tg iter : Expr} {ifs : List Expr} {scope : Scope} {own : List (Str × Nat)} {pos : Pos} {di : DL} {T : TG} {f : D → Env' → Option Env'} {js : List Nat} {dt : DT} {de : DE}
theorem lc_weak (vs : List Nat) (hj : ∀ j ∈ js, j ∈ vs) (hg : ∀ (c : Option Addr) (F : Hp) (env : Env') (m : Nat) (σ : St) (H : Hp) (d : D) (v : V) (env2 : Env') (Q : St → Hp → Prop), Rel X.K g c F env m σ H → Rep X.K g F d v → f d env = some env2 →
    (∀ σ2, Rel X.K g c F env2 m σ2 H → (∀ a, Own env2 σ2 a → Own env σ a) → σ2.length = σ.length → (∀ i, i ∉ js → σ2[i]? = σ[i]?) → Q σ2 H) → T v σ H Q) :
    ∀ σ H Q, tN X.K g (dLc di f dt de vs) σ H Q → tLc (tI X.K g true di) T (tT X.K g dt) (tD X.K g de) vs σ H Q := fun σ H Q ⟨c, F, env, m, Q1, r, h, k⟩ =>
  ⟨c, F, env, m, _, r, h, fun J H1 F1 m1 its lk r1 f1 _ hk w ⟨hz, q⟩ => fun Dl hD => by
    have nD : F1 Dl = none := ex_none r1.sub hD
    have cD : c ≠ some Dl := fun z => by obtain ⟨_, xs, e, _⟩ := r1.ck Dl z; rw [hD] at e; cases e
    have hD0 : H Dl = none := by
      cases z : H Dl with
      | none => rfl
      | some o => rw [f1.hh Dl o z cD] at hD; cases hD
    refine ⟨fun i kk H' => ∃ F' m' acc accD, kk = its.length - i ∧ i ≤ its.length ∧ Fresh c F1 H1 F' H' ∧ Ck g c m' F' H' ∧ F' Dl = none ∧ H' Dl = some (.lst acc) ∧ RepL X.K g F' accD acc ∧ accD.length ≤ i ∧ LcR f dt de (wipeE env vs) (its.drop i) m' (fun ys m3 => Q1 (accD ++ ys) m3), ⟨its.length, F1, m1, [], [], rfl, Nat.zero_le _, ?_, ?_, nD, upd_same, .nil, Nat.le_refl _, q⟩, ?_⟩
    · have n := New.lay (F := F1) (o := .lst []) r1.sub hD
      exact n.fresh r1.ck
    · exact r1.ck.new (New.lay r1.sub hD)
    · rintro i kk H' ⟨F', m', acc, accD, rfl, hi, fr, ck, nF, hA, rA, lA, q'⟩
      have r' := r1.fresh fr ck
      have lk' : ∀ p ∈ lk, H' p.1 = some p.2 := fun p hp => fr.hh p.1 p.2 (hk p hp).1 (hk p hp).2
      obtain ⟨go, stop⟩ := w i F' H' fr.ff r'.sub lk'
      by_cases hlt : i < its.length
      · have hd : its[i]? = some its[i] := List.getElem?_eq_getElem hlt
        rw [List.drop_eq_getElem_cons hlt] at q'
        obtain ⟨g1, g2⟩ := go _ hd
        obtain ⟨env2, e2, q2⟩ := q'
        refine .inr ⟨g1, fun H2 => ∃ F2 m2 acc2 accD2, Fresh c F1 H1 F2 H2 ∧ Ck g c m2 F2 H2 ∧ F2 Dl = none ∧ H2 Dl = some (.lst acc2) ∧ RepL X.K g F2 accD2 acc2 ∧ accD2.length ≤ i + 1 ∧ LcR f dt de (wipeE env vs) (its.drop (i + 1)) m2 (fun ys m3 => Q1 (accD2 ++ ys) m3), fun H2 ⟨F2, m2, acc2, accD2, a1, a2, a3, a4, a5, a6, a7⟩ => ⟨its.length - (i + 1), by omega, F2, m2, acc2, accD2, rfl, by omega, a1, a2, a3, a4, a5, a6, a7⟩, fun x H3 y => ?_⟩
        obtain ⟨F3, n3, rp3⟩ := g2 x H3 y
        have r3 := (r'.wipe vs).new n3
        have fr3 := fr.trans (n3.fresh ck)
        have ck3 := ck.new n3
        refine hg c F3 _ m' _ H3 _ x env2 _ r3 rp3 e2 fun σ4 r4 o4 l4 a4 => ⟨?_, ?_⟩
        · refine Eq.trans (wipe_same l4 fun j hj' => a4 j fun z => hj' (hj j z)) (wipe_wipe σ vs)
        · have keep : ∀ {F5 H5 : Hp}, Fresh c F3 H3 F5 H5 → F5 Dl = none ∧ H5 Dl = some (.lst acc) := fun {F5 H5} f5 => by
            have h3 : H3 Dl = some (.lst acc) := n3.hh _ _ hA
            refine ⟨?_, f5.hh _ _ h3 cD⟩
            cases z : F5 Dl with
            | none => rfl
            | some o =>
              rcases f5.new Dl o z with y | y
              · rcases n3.new Dl o y with u | u
                · rw [nF] at u; cases u
                · rw [hA] at u; cases u
              · rw [h3] at y; cases y
          refine ⟨c, F3, env2, m', _, r4, q2, fun b H5 F5 m5 r5 f5 q5 => ?_⟩
          cases b with
          | false =>
            obtain ⟨k1, k2⟩ := keep f5
            exact ⟨F5, m5, acc, accD, fr3.trans f5, r5.ck, k1, k2, (rA.mono n3.ff).mono f5.ff, by omega, q5⟩
          | true =>
            refine ⟨c, F5, env2, m5, _, r5, q5, fun v6 H6 F6 m6 y6 r6 f6 rp6 q6 => ?_⟩
            obtain ⟨k1, k2⟩ := keep (f5.trans f6)
            have lacc : acc.length = accD.length := rA.length
            have fr6 := (fr3.trans f5).trans f6
            refine ⟨acc, k2, ll' (by have : accD.length ≤ its.length := by omega
                                     omega), F6, m6, acc ++ [v6], accD ++ [y6], ⟨fr6.ff, fun a o z => ?_, fun a o z n => ?_, fr6.new, fr6.nc⟩, fun a z => ?_, k1, upd_same, (((rA.mono n3.ff).mono f5.ff).mono f6.ff).append (.cons rp6 .nil), ?_, ?_⟩
            · have : a ≠ Dl := fun e => by subst e; rw [k1] at z; cases z
              rw [upd_ne this]; exact fr6.fh a o z
            · have : a ≠ Dl := fun e => by subst e; rw [hD] at z; cases z
              rw [upd_ne this]; exact fr6.hh a o z n
            · have : a ≠ Dl := fun e => by subst e; exact cD z
              obtain ⟨b1, xs, b2, b3⟩ := r6.ck a z
              exact ⟨b1, xs, by rw [upd_ne this]; exact b2, b3⟩
            · rw [List.length_append, List.length_singleton]; omega
            · have : (fun ys m3 => Q1 (accD ++ [y6] ++ ys) m3) = fun ys m3 => Q1 (accD ++ y6 :: ys) m3 := by funext ys m3; rw [List.append_assoc]; rfl
              rw [this]; exact q6
      · have hi' : i = its.length := by omega
        refine .inl ⟨stop hi', ?_⟩
        rw [List.drop_eq_nil_of_le (by omega)] at q'
        have q'' : Q1 (accD ++ []) m' := q'
        rw [List.append_nil] at q''
        exact k Dl H' F' m' accD acc r' (f1.trans fr) hD0 nF cD hA rA q''⟩
theorem gn_lc (hc : X.calm = true) (hN : X.N.Nodup) (hi : GI true g X tg iter di) (ok : BlkOk X.N X.env.scope scope own)
    (hg : ∀ (s : Shared) (H : Hp) (C : Addr) (cl : List (Str × Addr)) (fp : List Addr), GG g (X.blk s H scope (compEnvC scope cl C X.env) fp) tg T f js) (ht : ∀ (s : Shared) (H : Hp) (C : Addr) (cl : List (Str × Addr)) (fp : List Addr), GTs g (X.blk s H scope (compEnvC scope cl C X.env) fp) ifs dt)
    (he : ∀ (s : Shared) (H : Hp) (C : Addr) (cl : List (Str × Addr)) (fp : List Addr), GE g (X.blk s H scope (compEnvC scope cl C X.env) fp) elt de) (hj : ∀ j ∈ js, j ∈ own.map (·.2) := by decide) (hs : ∀ x, foldedSetIterable iter X.env x = pure x := by intro _; rfl) :
    GN g X (.ListComp elt [⟨tg, iter, ifs, 0⟩] scope pos) (dLc di f dt de (own.map (·.2))) :=
  ⟨fun pins s σ H Q I q => (pe_lc (wi := tI X.K g true di) (g := T) (tt := tT X.K g dt) (te := tD X.K g de) hc hN hi ok (fun s H C cl fp => (hg s H C cl fp).pg) (fun s H C cl fp => ht s H C cl fp) (fun s H C cl fp => he s H C cl fp) hs).run pins s σ H Q I (lc_weak (T := T) _ hj (hg s H 0 [] []).ok σ H Q q)⟩
/-- x = [..], x a plain local -/
theorem lcs_weak0 {i : Nat} {s : DS} {vs : List Nat} {dl : DL} (w : ∀ σ H Q, tN X.K g dl σ H Q → tLc (tI X.K g true di) T (tT X.K g dt) (tD X.K g de) vs σ H Q) : ∀ D σ H, tSD X.K g (dAsgN i dl) D σ H → tAsg (tLc (tI X.K g true di) T (tT X.K g dt) (tD X.K g de) vs) (gName i) D σ H := asgN_weak w
theorem gs_setLcN {i : Nat} {y : Str} {py spos : Pos} (hc : X.calm = true) (hN : X.N.Nodup) (hy : X.N[i]? = some y) (hyl : X.env.scope.names.lookup y = some .local)
    (hsw : swapsWith (.ListComp elt [⟨tg, iter, ifs, 0⟩] scope pos) (some (.Name y py)) spos.line X.env = pure true) (hi : GI true g X tg iter di) (ok : BlkOk X.N X.env.scope scope own)
    (hg : ∀ (s : Shared) (H : Hp) (C : Addr) (cl : List (Str × Addr)) (fp : List Addr), GG g (X.blk s H scope (compEnvC scope cl C X.env) fp) tg T f js) (ht : ∀ (s : Shared) (H : Hp) (C : Addr) (cl : List (Str × Addr)) (fp : List Addr), GTs g (X.blk s H scope (compEnvC scope cl C X.env) fp) ifs dt)
    (he : ∀ (s : Shared) (H : Hp) (C : Addr) (cl : List (Str × Addr)) (fp : List Addr), GE g (X.blk s H scope (compEnvC scope cl C X.env) fp) elt de) (hj : ∀ j ∈ js, j ∈ own.map (·.2) := by decide) (hs : ∀ x, foldedSetIterable iter X.env x = pure x := by intro _; rfl) :
    GS g X (.Assign [.Name y py] (.ListComp elt [⟨tg, iter, ifs, 0⟩] scope pos) spos) (dAsgN i (dLc di f dt de (own.map (·.2)))) :=
  ⟨fun pins s σ H D I q => (ps_setLc (wi := tI X.K g true di) (g := T) (tt := tT X.K g dt) (te := tD X.K g de) hc hN hy hyl hsw hi ok (fun s H C cl fp => (hg s H C cl fp).pg) (fun s H C cl fp => ht s H C cl fp) (fun s H C cl fp => he s H C cl fp) hs).run pins s σ H D I (asgN_weak (lc_weak (T := T) _ hj (hg s H 0 [] []).ok) D σ H q)⟩
theorem gs_setLc {i : Nat} {y : Str} {py spos : Pos} (hc : X.calm = true) (hN : X.N.Nodup) (hy : X.N[i]? = some y) (hyl : X.env.scope.names.lookup y = some .local)
    (hsw : swapsWith (.ListComp elt [⟨tg, iter, ifs, 0⟩] scope pos) (some (.Name y py)) spos.line X.env = pure true) (hi : GI true g X tg iter di) (ok : BlkOk X.N X.env.scope scope own)
    (hg : ∀ (s : Shared) (H : Hp) (C : Addr) (cl : List (Str × Addr)) (fp : List Addr), GG g (X.blk s H scope (compEnvC scope cl C X.env) fp) tg T f js) (ht : ∀ (s : Shared) (H : Hp) (C : Addr) (cl : List (Str × Addr)) (fp : List Addr), GTs g (X.blk s H scope (compEnvC scope cl C X.env) fp) ifs dt)
    (he : ∀ (s : Shared) (H : Hp) (C : Addr) (cl : List (Str × Addr)) (fp : List Addr), GE g (X.blk s H scope (compEnvC scope cl C X.env) fp) elt de) (hj : ∀ j ∈ js, j ∈ own.map (·.2) := by decide) (hs : ∀ x, foldedSetIterable iter X.env x = pure x := by intro _; rfl) :
    GS g X (.Assign [.Name y py] (.ListComp elt [⟨tg, iter, ifs, 0⟩] scope pos) spos) (dAsg i (dNew (dLc di f dt de (own.map (·.2))))) :=
  ⟨fun pins s σ H D I q => (ps_setLc (wi := tI X.K g true di) (g := T) (tt := tT X.K g dt) (te := tD X.K g de) hc hN hy hyl hsw hi ok (fun s H C cl fp => (hg s H C cl fp).pg) (fun s H C cl fp => ht s H C cl fp) (fun s H C cl fp => he s H C cl fp) hs).run pins s σ H D I (asg_weak (fun σ H Q z => lc_weak (T := T) _ hj (hg s H 0 [] []).ok σ H Q (new_weak σ H Q z)) D σ H q)⟩
end
end G
namespace G
open PySem L2
open PySem.W (dataLe AllAlike Sortable EachIs sorted_data dataLt alike alikeAll)

section
variable {X : Cx}
/-! ### a new object, told by what stood before -/
theorem objok_get {P : Program} {w : World} {H : Hp} {h : Heap} {a : Addr} {o : HO} (x : ObjOk P w H h a o) : ∃ ob, h.get? a = some ob := by
  induction o with
  | lst xs => obtain ⟨_, _, _, _, e⟩ := x; exact ⟨_, e⟩
  | tup xs => obtain ⟨_, _, _, o, e, _⟩ := x; exact ⟨o, e⟩
  | dK kvs => obtain ⟨_, _, _, _, o, _, _, e, _⟩ := x; exact ⟨o, e⟩
  | dT kvs => obtain ⟨_, _, _, _, o, _, _, e, _⟩ := x; exact ⟨o, e⟩
  | set S n => obtain ⟨o, _, _, _, e, _⟩ := x; exact ⟨o, e⟩
  | ins C dx fs => obtain ⟨_, _, _, e, _⟩ := x; exact ⟨_, e⟩
  | own y => exact x
  | xd fs => obtain ⟨_, ⟨o, _, _, e, _⟩, _⟩ := x; exact ⟨o, e⟩
  | rng lo hi => obtain ⟨_, _, _, e⟩ := x; exact ⟨_, e⟩
  | frz ob u ih => exact ⟨ob, x.1⟩
  | tbl ps => exact ⟨_, x⟩
  | met f y => exact ⟨_, x⟩
  | ext φ => exact x.2.1
theorem laidN {pins : List (Addr × Obj)} {σ : St} {H : Hp} {s : Shared} {a : Addr} {o : HO} {h' : Heap} {g' : Array GenState} {t' : Nat} {d' : Drawn} (I : Inv X pins σ H s) (k : ∀ b u, s.heap.get? b = some u → h'.get? b = some u) (hp : ∀ u, s.heap.get? a ≠ some u) (hg : PyProof.Rows.AllBare g')
    (new : ObjOk X.prog X.w (upd H a o) h' a o) : H a = none ∧ Inv X pins σ (upd H a o) { s with heap := h', gens := g', drawn := d', toks := t' } := by
  have hn : H a = none := by
    cases q : H a with
    | none => rfl
    | some u => obtain ⟨ob, e⟩ := objok_get (I.hok a u q); exact absurd e (hp ob)
  have ne : ∀ b u, s.heap.get? b = some u → b ≠ a := fun b u e z => hp u (z ▸ e)
  refine ⟨hn, I.call (ch := []) ⟨fun b u q _ _ _ => k b u q, fun b u q _ _ _ => ⟨u.slots, k b u q⟩, fun b u q n _ => by rw [upd_ne (ne b u q)]; exact n, fun b u q _ => ⟨u, k b u q⟩, fun b xs q => by rw [upd_ne (ne_of_none q hn)]; exact q, fun b u xs q => by rw [upd_ne (ne_of_none q hn)]; exact q, fun b ps q => ⟨#[], by rw [upd_ne (ne_of_none q hn), q]; simp⟩⟩ (fun b u e => ?_) hg (fun _ z => nomatch z)⟩
  by_cases hb : b = a
  · subst hb; rw [upd_same] at e; cases e; exact new
  · rw [upd_ne hb] at e
    exact (I.hok b u e).stay (fun c v _ q => k c v q) (fun c q => by rw [upd_ne (ne_of_none q hn)]; exact q) fun c xs q => by rw [upd_ne (ne_of_none q hn)]; exact q
/-! ### list(text), sorted(text) -/
theorem vals_chars {x : Str} {acc : Array Value} (h : ItemsOf (SignAt x) acc x.cps.size) : Vals (chars x) acc.toList := by
  obtain ⟨hl, h⟩ := h
  have go : ∀ (cs : List Nat) (us : List Value) (k : Nat), cs.length = us.length → (∀ (j : Nat) (v : Value), us[j]? = some v → ∃ (u : Tok) (c : Nat), cs[j]? = some c ∧ v = Value.str ⟨#[c]⟩ u) → Vals (cs.map fun c => V.str ⟨#[c]⟩) us := by
    intro cs
    induction cs with
    | nil => intro us k hl _; cases us with
      | nil => exact .nil
      | cons _ _ => simp at hl
    | cons c r ih =>
      intro us k hl h
      cases us with
      | nil => simp at hl
      | cons u us =>
        obtain ⟨t, c', e1, e2⟩ := h 0 u rfl
        simp at e1
        subst e1
        exact .cons ⟨t, e2⟩ (ih us k (by simpa using hl) fun j v hj => by
          obtain ⟨t, c', e1, e2⟩ := h (j + 1) v (by simpa using hj)
          exact ⟨t, c', by simpa using e1, e2⟩)
  refine go x.cps.toList acc.toList 0 (by simp [hl]) fun j v hj => ?_
  obtain ⟨c, u, h1, h2⟩ := h j v (by simpa using hj)
  exact ⟨u, c, by simpa using h1, h2⟩
theorem cr_listStr (hc : X.calm = true) : CallR X (.type "list") (fun xs H Q => ∃ z : Str, xs = [.str z] ∧ z.length ≤ LL ∧ ∀ p, H p = none → Q (.ref p) (upd H p (.lst (chars z)))) := by
  intro pins s σ H xs us Q I r h
  obtain ⟨z, rfl, hz, q⟩ := h
  obtain ⟨u, rfl, t, rfl⟩ := r.one
  refine call_list_str (I.ok.hd hc) z t (fun h' tk acc c' hk hS hacc => ?_) (ll hz)
  have hn := I.hok.fresh (Nat.le_refl s.heap.objs.size)
  exact ⟨.ref _, upd H s.heap.objs.size (.lst (chars z)), I.laid (t' := tk) hk (Nat.le_refl _) ⟨ll (by rw [chars_len]; exact hz), acc.toList, c', vals_chars hacc, by simpa using hS⟩, rfl, q _ hn⟩

/-! ### sorted of data -/
/-- values and what they are, sorted by what they are -/
def sortV (ps : List (V × PyData)) : List (V × PyData) := ps.mergeSort (dataLe false fun p => p.2)
def rSortG (K : PySem.W.Frag) : List V → Hp → VK → Prop := fun vs H Q => ∃ (a : Addr) (ps : List (V × PyData)), vs = [.ref a] ∧ SqL K H a (ps.map (·.1)) ∧ (∀ p ∈ ps, Dp K H p.1 p.2 ∧ p.2.depth ≤ 60) ∧ AllAlike (ps.map (·.2)) ∧ Sortable (ps.map (·.2)) ∧ ps.length ≤ LL ∧
  ∀ p, H p = none → Q (.ref p) (upd H p (.lst ((sortV ps).map (·.1))))
theorem each_of_vals {β : Type} {f : β → V} {Rr : Value → β → Prop} : ∀ {bs : List β} {us : List Value}, Vals (bs.map f) us → (∀ b ∈ bs, ∀ u, RelV (f b) u → Rr u b) → EachIs Rr us bs
  | [], us, h, _ => by cases us with
    | nil => exact .nil
    | cons _ _ => cases h
  | b :: bs, us, h, k => by
    cases us with
    | nil => cases h
    | cons u us => cases h with
      | cons h t => exact .cons (k b (by simp) _ h) (each_of_vals t fun b' hb => k b' (by simp [hb]))
theorem vals_of_each {β : Type} {f : β → V} : ∀ {us : List Value} {bs : List β}, EachIs (fun u b => RelV (f b) u) us bs → Vals (bs.map f) us
  | _, _, .nil => .nil
  | _, _, .cons h t => .cons h (vals_of_each t)
theorem cr_sortG (hu : X.A.units + 64 < cLine) : CallR X (.builtin "sorted") (rSortG X.K) := by
  intro pins s σ H vs us Q I r h
  obtain ⟨a, ps, rfl, hs, hd, ha, hk, hl, q⟩ := h
  obtain ⟨its, rv, pl, _⟩ := I.list hs
  rw [Vals.ref1 r]
  have e1 : EachIs (fun u (b : V × PyData) => RelV b.1 u) its ps := each_of_vals (f := fun p : V × PyData => p.1) rv fun b _ u h => h
  have e2 : EachIs (fun u (b : V × PyData) => ∃ as, Reads s.heap u b.2 as) its ps := each_of_vals (f := fun p : V × PyData => p.1) rv fun b hb u h => Dp.reads I b.2 b.1 u (hd b hb).1 h
  refine sorted_data (enc := fun p : V × PyData => p.2) pl.isList e1 e2 ha hk (ll hl) (fun b hb => by have := (hd b hb).2; omega) fun out hlen eo => ?_
  obtain ⟨ep, he'⟩ := PyProof.Rows.sortedAll_at s.heap its out.toArray
  have hn := I.hok.fresh (Nat.le_succ s.heap.objs.size)
  have hL : ((sortV ps).map (·.1)).length ≤ sizeLine := by
    unfold sortV
    rw [List.length_map, List.length_mergeSort]
    exact ll hl
  exact ⟨.ref _, upd H (s.heap.objs.size + 1) (.lst ((sortV ps).map (·.1))), I.laid (t' := s.toks) (fun _ _ => PyProof.Rows.sortedAll_old) (Nat.le_succ _) ⟨hL, out, ep, vals_of_each (f := fun p : V × PyData => p.1) eo, he'⟩, rfl, q _ hn⟩
/-- sorted(text) -/
theorem cr_sortStr (hc : X.calm = true) (hu : X.A.units + 64 < cLine) : CallR X (.builtin "sorted") (fun xs H Q => ∃ z : Str, xs = [.str z] ∧ z.length ≤ LL ∧
    ∀ p, H p = none → Q (.ref p) (upd H p (.lst ((sortV ((z.cps.toList.map fun c => ((.str ⟨#[c]⟩ : V), PyData.str ⟨#[c]⟩)))).map (·.1))))) := by
  intro pins s σ H vs us Q I r h
  obtain ⟨z, rfl, hz, q⟩ := h
  obtain ⟨u, rfl, t, rfl⟩ := r.one
  refine PySem.Calls.call_function_entry PyProof.Rows.kind_sorted PyProof.Rows.plain_sorted PyProof.Rows.entry_sorted (PyProof.Rows.args_sorted1 _) ?_
  unfold Builtin.«sorted»
  refine wpAny_bind (m := checkCount "sorted" 1 1 _) (wpAny_pure ?_)
  refine wpAny_bind (wpAny_collect_str (A := X.A.in1) (I.ok.hd hc) z t (fun s' acc hk hg hd ho hacc => ?_) (ll hz))
  obtain ⟨sz, _⟩ := id hacc
  have hlen : acc.toList.length ≤ sizeLine := by rw [Array.length_toList, sz]; exact ll hz
  refine wpAny_bind (wpAny_newList ?_ hlen)
  have vv := vals_chars hacc
  let ps := z.cps.toList.map fun c => ((V.str ⟨#[c]⟩ : V), PyData.str ⟨#[c]⟩)
  have vp : Vals (ps.map (·.1)) acc.toList := by
    have e : ps.map (·.1) = chars z := by simp only [ps, List.map_map]; rfl
    rw [e]; exact vv
  have lp : acc.toList.length = ps.length := by rw [← vp.length, List.length_map]
  have pd : ∀ b ∈ ps, ∃ x : Str, b = (V.str x, PyData.str x) := fun b hb => by obtain ⟨c, _, rfl⟩ := List.mem_map.mp hb; exact ⟨_, rfl⟩
  have e1 : EachIs (fun u (b : V × PyData) => RelV b.1 u) acc.toList ps := each_of_vals (f := fun p : V × PyData => p.1) vp fun b _ u h => h
  have er : ∀ h : Heap, EachIs (fun u (b : V × PyData) => ∃ as, Reads h u b.2 as) acc.toList ps := fun h => each_of_vals (f := fun p : V × PyData => p.1) vp fun b hb u r => by
    obtain ⟨x, rfl⟩ := pd b hb
    obtain ⟨t', rfl⟩ := r
    exact ⟨[], .str x t'⟩
  have ha : AllAlike (ps.map (·.2)) := fun d hd d' hd' => by
    obtain ⟨b, hb, rfl⟩ := List.mem_map.mp hd
    obtain ⟨b', hb', rfl⟩ := List.mem_map.mp hd'
    obtain ⟨x, rfl⟩ := pd b hb
    obtain ⟨y, rfl⟩ := pd b' hb'
    rfl
  have hk2 : Sortable (ps.map (·.2)) := .inr fun d hd => by
    obtain ⟨b, hb, rfl⟩ := List.mem_map.mp hd
    obtain ⟨x, rfl⟩ := pd b hb
    constructor
    · intro z; cases z
    · intro _ z; cases z
  have hdp : ∀ d ∈ ps.map (·.2), X.A.in1.in1.units + d.depth < cLine := fun d hd => by
    obtain ⟨b, hb, rfl⟩ := List.mem_map.mp hd
    obtain ⟨x, rfl⟩ := pd b hb
    show X.A.units + 1 + 1 + (PyData.str x).depth < cLine
    simp only [PyData.depth]
    omega
  have oa : ({ s' with heap := s'.heap.push { cls := .type "list", data := .seq acc.toList.toArray } } : Shared).heap.get? s'.heap.objs.size = some (PyProof.Rows.seqObj "list" acc.toList.toArray 0) := Heap.get?_push_size _ rfl
  refine wpAny_bind (wpAny_holding (wpAny_call_entry PyProof.Rows.slot_list_sort ⟨_, oa, rfl⟩ PyProof.Rows.entry_list_sort ?body (PyProof.Rows.args_list_sort _)))
  case body =>
    refine PySem.W.list_sort_vals oa (PySem.W.SortsAt.data (PySem.W.each_map (R := fun v d => ∃ as, Reads _ v d as) (fun p : V × PyData => p.2) (er _)) ha hk2 hdp) hlen ?_
    refine ⟨_, rfl, wpAny_pure ⟨_, rfl, ?_⟩⟩
    have eo := PySem.W.sortVals_data (h' := PySem.W.sortingHeap ({ s' with heap := s'.heap.push { cls := .type "list", data := .seq acc.toList.toArray } } : Shared).heap s'.heap.objs.size acc.toList) (enc := fun p : V × PyData => p.2) false e1 (er _) ha
    obtain ⟨ep, he⟩ := PyProof.Rows.sortedHeap_at (out := (PySem.W.sortVals (PySem.W.dataKind (PySem.W.sortingHeap ({ s' with heap := s'.heap.push { cls := .type "list", data := .seq acc.toList.toArray } } : Shared).heap s'.heap.objs.size acc.toList) (ps.map (·.2))) false acc.toList acc.toList).toArray) oa
    have old : ∀ b o, s.heap.get? b = some o → (PyProof.Rows.sortedHeap ({ s' with heap := s'.heap.push { cls := .type "list", data := .seq acc.toList.toArray } } : Shared).heap s'.heap.objs.size acc.toList (PySem.W.sortVals (PySem.W.dataKind (PySem.W.sortingHeap ({ s' with heap := s'.heap.push { cls := .type "list", data := .seq acc.toList.toArray } } : Shared).heap s'.heap.objs.size acc.toList) (ps.map (·.2))) false acc.toList acc.toList).toArray).get? b = some o := fun b o e => by
      have e' := hk b o e
      have hlt := Heap.lt_size e'
      rw [PyProof.Rows.sortedHeap_old (Nat.ne_of_lt hlt) (by show b < (s'.heap.push _).objs.size; rw [Heap.size_push]; exact Nat.lt_succ_of_lt hlt)]
      exact Heap.get?_push_of_some _ e'
    have hp : ∀ u, s.heap.get? s'.heap.objs.size ≠ some u := fun u e => absurd (Heap.lt_size (hk _ u e)) (Nat.lt_irrefl _)
    have hL : ((sortV ps).map (·.1)).length ≤ sizeLine := by
      unfold sortV
      rw [List.length_map, List.length_mergeSort, ← lp]
      exact hlen
    obtain ⟨hn, J⟩ := laidN (o := .lst ((sortV ps).map (·.1))) (t' := s'.toks) (g' := s'.gens) (d' := s'.drawn) I old hp (by rw [hg]; exact I.bare) ⟨hL, _, ep, vals_of_each (f := fun p : V × PyData => p.1) eo, he⟩
    have fin := q _ hn
    obtain ⟨h0, g0, d0, t0, o0⟩ := s'
    have ho' : o0 = s.os := ho
    subst ho'
    exact ⟨.ref _, _, J, rfl, fin⟩
end
end G
namespace G
open PySem L2
section
variable {X : Cx}
/-! ### min, max of two texts -/
theorem two_strs {op : CmpOp} {prog : Program} {w : World} {A : Around} {E : Value → Shared → Prop} {s : Shared} {a b : Str} {t u : Tok} {fn : String} {Q : Value → Shared → Prop} (hh : A.handled = none) (bt : Nat → Nat → Bool)
    (two : (wpAny (model prog w) A.in1 (pyIter (.ref s.heap.objs.size)) (fun it s₂ => ∃ I fp wr n P St bt, it = .ref I ∧ Walks prog w A.in1 I fp wr n P St ∧ St 0 s₂.heap ∧ (∀ b ∈ fp, b < s₂.heap.objs.size) ∧ 0 < n ∧ CmpOf prog w A.in1 op P bt ∧
      ∀ v h' tk, P (argBest bt (n - 1)) v → (∀ b o, b ∉ wr → s₂.heap.get? b = some o → h'.get? b = some o) → Q v { s₂ with heap := h', toks := tk }) E
      { s with heap := s.heap.push { cls := .type "tuple", data := .seq #[.str a t, .str b u] } }) → wpAny (model prog w) A (call (.builtin fn) [.str a t, .str b u]) Q E s)
    (cmp : CmpOf prog w A.in1 op (fun i v => (#[Value.str a t, Value.str b u] : Array Value)[i]? = some v) bt)
    (h : ∀ h' tk, (∀ c o, s.heap.get? c = some o → h'.get? c = some o) → Q (if bt 1 0 = true then .str b u else .str a t) { s with heap := h', toks := tk }) :
    wpAny (model prog w) A (call (.builtin fn) [.str a t, .str b u]) Q E s := by
  have hT : (s.heap.push { cls := .type "tuple", data := .seq #[.str a t, .str b u] }).IsTuple s.heap.objs.size #[.str a t, .str b u] := ⟨_, Heap.get?_push_size _ rfl, rfl, 0, rfl⟩
  refine two (wpAny_pyIter_tuple hT ?_)
  have hsz : (s.heap.push { cls := .type "tuple", data := .seq #[.str a t, .str b u] }).objs.size = s.heap.objs.size + 1 := Heap.size_push ..
  refine ⟨_, [_, s.heap.objs.size], [_], _, _, _, bt, rfl, Walks.tuple (A := A.in1) hh _ s.heap.objs.size (by rw [hsz]; exact Nat.ne_of_lt (Nat.lt_succ_self _)) #[.str a t, .str b u], ⟨⟨_, Heap.get?_push_size _ rfl, rfl, rfl⟩, hT.push _⟩, fun c hc => ?_, by simp, cmp, fun v h' tk hP hk => ?_⟩
  · show c < ((s.heap.push _).push _).objs.size
    rw [Heap.size_push, hsz]
    simp only [List.mem_cons, List.not_mem_nil, or_false] at hc
    rcases hc with rfl | rfl
    · rw [hsz]; exact Nat.lt_succ_self _
    · exact Nat.lt_succ_of_lt (Nat.lt_succ_self _)
  · have hold : ∀ c o, s.heap.get? c = some o → h'.get? c = some o := fun c o e => by
      refine hk c o (fun hm => ?_) (Heap.get?_push_of_some _ (Heap.get?_push_of_some _ e))
      have e1 := List.mem_singleton.mp hm
      have := Heap.lt_size e
      rw [e1, hsz] at this
      exact Nat.lt_irrefl _ (Nat.lt_of_succ_lt this)
    have hP' : (#[Value.str a t, Value.str b u] : Array Value)[argBest bt 1]? = some v := hP
    have hv : v = if bt 1 0 = true then .str b u else .str a t := by
      have eb : argBest bt 1 = if bt 1 0 then 1 else 0 := rfl
      rw [eb] at hP'
      cases q : bt 1 0 with
      | true => rw [q] at hP'; simp at hP'; simp [hP']
      | false => rw [q] at hP'; simp at hP'; simp [hP']
    rw [hv]
    exact h h' tk hold
def strAt (a b : Str) (i : Nat) : Str := if i = 0 then a else b
theorem strAt_is {a b : Str} {t u : Tok} {i : Nat} {v : Value} (h : (#[Value.str a t, Value.str b u] : Array Value)[i]? = some v) : ∃ k, v = .str (strAt a b i) k := by
  match i, h with
  | 0, h => simp at h; exact ⟨t, by simp [strAt, h]⟩
  | 1, h => simp at h; exact ⟨u, by simp [strAt, h]⟩
  | i + 2, h => simp at h
theorem cmp_strs_lt {prog : Program} {w : World} {A : Around} {a b : Str} {t u : Tok} : CmpOf prog w A .Lt (fun i v => (#[Value.str a t, Value.str b u] : Array Value)[i]? = some v) (fun i j => sLt (strAt a b i) (strAt a b j)) := fun i j vi vj s Q E hi hj h => by
  obtain ⟨k, rfl⟩ := strAt_is hi
  obtain ⟨l, rfl⟩ := strAt_is hj
  exact PyProof.Rows.lt_str h
theorem cmp_strs_gt {prog : Program} {w : World} {A : Around} {a b : Str} {t u : Tok} : CmpOf prog w A .Gt (fun i v => (#[Value.str a t, Value.str b u] : Array Value)[i]? = some v) (fun i j => sLt (strAt a b j) (strAt a b i)) := fun i j vi vj s Q E hi hj h => by
  obtain ⟨k, rfl⟩ := strAt_is hi
  obtain ⟨l, rfl⟩ := strAt_is hj
  exact PySem.P.gt_str h
theorem cr_min2S (hc : X.calm = true) : CallR X (.builtin "min") (fun xs H Q => ∃ a b, xs = [.str a, .str b] ∧ Q (.str (if sLt b a then b else a)) H) := by
  intro pins s σ H xs us Q I r h
  obtain ⟨a, b, rfl, q⟩ := h
  obtain ⟨u, w', rfl, ⟨t, rfl⟩, ⟨t', rfl⟩⟩ := vals2 r
  refine two_strs (I.ok.hd hc) _ call_min_two cmp_strs_lt fun h' tk k => ⟨_, H, I.kept k, ?_, q⟩
  show RelV _ (if sLt b a = true then Value.str b t' else Value.str a t)
  by_cases hj : sLt b a = true
  · rw [if_pos hj, if_pos hj]; exact ⟨_, rfl⟩
  · rw [if_neg hj, if_neg hj]; exact ⟨_, rfl⟩
theorem cr_max2S (hc : X.calm = true) : CallR X (.builtin "max") (fun xs H Q => ∃ a b, xs = [.str a, .str b] ∧ Q (.str (if sLt a b then b else a)) H) := by
  intro pins s σ H xs us Q I r h
  obtain ⟨a, b, rfl, q⟩ := h
  obtain ⟨u, w', rfl, ⟨t, rfl⟩, ⟨t', rfl⟩⟩ := vals2 r
  refine two_strs (I.ok.hd hc) _ call_max_two cmp_strs_gt fun h' tk k => ⟨_, H, I.kept k, ?_, q⟩
  show RelV _ (if sLt a b = true then Value.str b t' else Value.str a t)
  by_cases hj : sLt a b = true
  · rw [if_pos hj, if_pos hj]; exact ⟨_, rfl⟩
  · rw [if_neg hj, if_neg hj]; exact ⟨_, rfl⟩
/-! ### list.count of flat data -/
theorem count_eqU {x : V} : ∀ {xs : List V} {us : List Value}, Vals xs us → xs.all flatV = true → us.countP (eqU x) = xs.countP fun y => eqV y x
  | _, _, .nil, _ => rfl
  | _, _, .cons h t, f => by
    simp only [List.all_cons, Bool.and_eq_true] at f
    rw [List.countP_cons, List.countP_cons, count_eqU t f.2, eqU_of h f.1]
def rCntF (K : PySem.W.Frag) : V → List V → Hp → VK → Prop := fun x xs H Q => ∃ (p : Addr) (ys : List V) (y : V), x = .ref p ∧ xs = [y] ∧ SqL K H p ys ∧ flatV y = true ∧ ys.all flatV = true ∧ Q (.int (ys.countP fun z => eqV z y : Nat)) H
theorem mt_countF : MtR X "list.count" (rCntF X.K) := by
  intro pins s σ H x xs v us Q I rx rxs h
  obtain ⟨p, ys, y, rfl, rfl, hs, fy, fys, q⟩ := h
  cases rx
  obtain ⟨u, rfl, ru⟩ := rxs.one
  obtain ⟨its, rv, ⟨⟨cls, dd, data, sl⟩, n, ho, hc, hdn, hd⟩, hlen⟩ := I.list hs
  simp only at hc hd
  subst hc hd
  refine call_meets PySem.F.slot_list_count ⟨_, ho, rfl⟩ PySem.F.entry_list_count (PySem.F.args_list_count_2 _ _)
    (SeqAt.list_countAt p its.toArray n dd sl u (eqU y)) ⟨ho, fun w hw => mem_eqAt ru fy rv fys w (by simpa using hw), ?_⟩
  refine ⟨.int (ys.countP fun z => eqV z y : Nat), H, I.tok _, ⟨s.toks, ?_⟩, q⟩
  rw [show (its.toArray.toList.countP (eqU y)) = ys.countP (fun z => eqV z y) from count_eqU rv fys]
/-! ### set(tuple of ints) -/
theorem cr_setTup (hc : X.calm = true) : CallR X (.type "set") (fun xs H Q => ∃ (a : Addr) (ns : List Int), xs = [.ref a] ∧ SqT X.K H a (ns.map V.int) ∧ ns.length ≤ 50 ∧ ∀ p n, H p = none → n ≤ ns.length → Q (.ref p) (upd H p (SetO X.w p (fun j => decide (j ∈ ns)) n))) := by
  intro pins s σ H xs us Q I r h
  obtain ⟨a, ns, rfl, hs, hl, q⟩ := h
  obtain ⟨its, rv, pl, _⟩ := I.tuple hs
  rw [Vals.ref1 r]
  refine call_set_tupI ns (I.ok.hd hc) pl (by simpa using rv.ints) (Nat.lt_of_le_of_lt (Nat.succ_le_succ hl) (by decide)) fun h' tk c R hcn k => ?_
  exact ⟨.ref _, _, I.laid (t' := tk) (o := SetO X.w s.heap.objs.size (fun j => decide (j ∈ ns)) c) k (Nat.le_refl _) (setO_new R), rfl, q _ c (I.hok.fresh (Nat.le_refl _)) hcn⟩
/-! ### text[::-1] -/
def tRevS (te : TE) : TE := fun σ H Q => te σ H fun x H1 => ∃ z : Str, x = .str z ∧ z.length ≤ LL ∧ Q (.str ⟨z.cps.toList.reverse.toArray⟩) H1
theorem rev_pick (z : Str) : ((Builtin.Str.strSliceIndices none none (-1) z.length).filterMap (z.cps[·]?)) = z.cps.toList.reverse := by
  rw [PyProof.Rows.picked_rev, PyProof.Rows.filterMap_get]
  · refine List.ext_getElem? fun i => ?_
    rw [List.map_map, List.getElem?_map]
    show Option.map _ ((List.range z.cps.size)[i]?) = _
    by_cases hi : i < z.cps.size
    · rw [List.getElem?_eq_getElem (by simpa using hi), List.getElem?_reverse (by simpa using hi)]
      simp only [List.getElem_range, Option.map_some, Function.comp]
      rw [Array.length_toList, Array.getElem?_toList, Array.getD_eq_getD_getElem?]
      show some ((z.cps[z.cps.size - 1 - i]?).getD 0) = _
      rw [Array.getElem?_eq_getElem (by omega)]
      rfl
    · rw [List.getElem?_eq_none (by simpa using hi), List.getElem?_eq_none (by simpa using hi)]
      rfl
  · intro i hi
    obtain ⟨k, hk, rfl⟩ := List.mem_map.mp hi
    have hk' : k < z.cps.size := List.mem_range.mp hk
    show z.cps.size - 1 - k < z.cps.size
    omega
theorem pe_revS {e : Expr} {te : TE} {k : Nat} {p1 p2 p3 pos : Pos} (he : PE X e te) : PE X (.Subscript e (.Slice none none (some (.UnaryOp .USub (.Constant (.int 1) k p1) p2)) p3) pos) (tRevS te) := by
  refine ⟨fun pins s σ H Q I h => ?_⟩
  refine PyProof.Rows.Subscript_ (thn (he.run pins s σ H _ I h) fun v s1 ⟨x, H1, I1, r1, q1⟩ => ?_)
  obtain ⟨z, ex, hz, q⟩ := q1
  subst ex
  obtain ⟨t, rfl⟩ := r1
  have hst : PO X (some (.UnaryOp .USub (.Constant (.int 1) k p1) p2)) (tPart (tUn (rU fun i => .int (-i)) (tC (.int 1)))) := po_some (pe_un un_neg pe_int)
  refine wpAny_Slice (thn (po_none.run pins s1 σ H1 (fun o H2 => o = none ∧ H2 = H1) I1 ⟨rfl, rfl⟩) fun vl s2 ⟨l, H2, I2, pl, el, e2⟩ => ?_)
  subst el e2
  refine thn (po_none.run pins s2 σ H2 (fun o H3 => o = none ∧ H3 = H2) I2 ⟨rfl, rfl⟩) fun vu s3 ⟨u, H3, I3, pu, eu, e3⟩ => ?_
  subst eu e3
  refine thn (hst.run pins s3 σ H3 (fun o H4 => o = some (-1) ∧ H4 = H3) I3 ⟨1, rfl, -1, rfl, rfl, rfl⟩) fun vs s4 ⟨o, H4, I4, ps, eo, e4⟩ => ?_
  subst eo e4
  have I5 : Inv X pins σ H4 { s4 with heap := s4.heap.push { cls := .type "slice", data := .fields #[vl, vu, vs] } } := I4.kept (t' := s4.toks) fun b ob q => Heap.get?_push_of_some _ q
  have el : vl = .none := by cases pl; rfl
  have eu : vu = .none := by cases pu; rfl
  obtain ⟨tk, es⟩ : ∃ tk, vs = .int (-1) tk := by cases ps; exact ⟨_, rfl⟩
  subst el eu es
  show wpAny (model X.prog X.w) X.A (PyProof.Rows.subscriptTail e (.Slice none none (some (.UnaryOp .USub (.Constant (.int 1) k p1) p2)) p3) (.str z t) (.ref s4.heap.objs.size)) (EP X pins σ Q) X.xe { s4 with heap := s4.heap.push { cls := .type "slice", data := .fields #[.none, .none, .int (-1) tk] } }
  refine PyProof.Rows.tail_any (ops := [.str z t, .ref s4.heap.objs.size]) (PySem.typeIs_str _ _ _) (PySem.F.slot_str_getitem.lookup) ?_ (by with_unfolding_all rfl)
  refine wpAny_getItem_str_slice (l := none) (u := none) (st := some (-1, tk)) ⟨_, Heap.get?_push_size _ rfl, rfl, rfl⟩ rfl ?_
  have e1 : ⟨((Builtin.Str.strSliceIndices none none (-1) z.length).filterMap (z.cps[·]?)).toArray⟩ = (⟨z.cps.toList.reverse.toArray⟩ : Str) := by rw [rev_pick]
  show Made.post (if ((-1 : Int) == 1 && (Builtin.Str.strSliceIndices none none (-1) z.length).length == z.length) = true then Made.val (.str z t)
    else Made.str ⟨((Builtin.Str.strSliceIndices none none (-1) z.length).filterMap (z.cps[·]?)).toArray⟩) (EP X pins σ Q) _
  rw [if_neg (by simp), e1]
  refine ⟨?_, .str _, _, I5.tok _, ⟨_, rfl⟩, q⟩
  show (z.cps.toList.reverse.toArray).size ≤ sizeLine
  rw [List.size_toArray, List.length_reverse, Array.length_toList]
  exact ll hz
end
end G
namespace G
open PySem L2
open PySem.W (dataLe AllAlike Sortable dataLt alike alikeAll)

/-! ### built-ins by data -/
def CallD (K : PySem.W.Frag) (g : Gp) (r : List V → Hp → VK → Prop) (f : List D → Option D) : Prop := ∀ (c : Option Addr) (F H : Hp) (xs : List D) (z : D) (vs : List V) (Q' : VK), Ex F H → (∀ a, c = some a → F a = none) →
  RepTs K g c F H xs vs → f xs = some z → (∀ v' H' F', New F H F' H' → Rep K g F' z v' → Q' v' H') → r vs H Q'
def CallN (K : PySem.W.Frag) (g : Gp) (r : List V → Hp → VK → Prop) (f : List D → Option (List D)) : Prop := ∀ (c : Option Addr) (F H : Hp) (xs : List D) (ds : List D) (vs : List V) (Q' : VK), Ex F H → (∀ a, c = some a → F a = none) →
  RepTs K g c F H xs vs → f xs = some ds → (∀ p H' F' ws, New F H F' H' → H p = none → F' p = none → H' p = some (.lst ws) → RepL K g F' ds ws → Q' (.ref p) H') → r vs H Q'
def dCallB (f : List D → Option D) (dl : DL) : DE := fun env m Q => dl env m fun xs m1 => ∃ z, f xs = some z ∧ Q z m1
def dCallN (f : List D → Option (List D)) (dl : DL) : DL := fun env m Q => dl env m fun xs m1 => ∃ z, f xs = some z ∧ Q z m1
section
variable {K : PySem.W.Frag} {g : Gp} {X : Cx} {e o : Expr} {es : List Expr} {dl : DL} {d : DE} {pos p : Pos} {x : Str}
theorem cb_weak {r : List V → Hp → VK → Prop} {f : List D → Option D} (cd : CallD X.K g r f) : ∀ σ H Q, tD X.K g (dCallB f dl) σ H Q → tCB r (tAb X.K g dl) σ H Q := fun σ H Q ⟨c, F, env, m, Q1, rl, hd, k⟩ =>
  ⟨c, F, env, m, _, rl, hd, fun vs H1 F1 m1 xs r1 f1 rp ⟨z, hz, q1⟩ => cd c F1 H1 xs z vs Q r1.sub r1.nc rp hz fun v' H' F' n rp' => k v' H' F' m1 z (r1.new n) (f1.trans (n.fresh r1.ck)) rp' q1⟩
theorem cn_weak {r : List V → Hp → VK → Prop} {f : List D → Option (List D)} (cd : CallN X.K g r f) : ∀ σ H Q, tN X.K g (dCallN f dl) σ H Q → tCB r (tAb X.K g dl) σ H Q := fun σ H Q ⟨c, F, env, m, Q1, rl, hd, k⟩ =>
  ⟨c, F, env, m, _, rl, hd, fun vs H1 F1 m1 xs r1 f1 rp ⟨z, hz, q1⟩ => cd c F1 H1 xs z vs Q r1.sub r1.nc rp hz fun p H' F' ws n h0 hp h1 rl' => by
    have cp : c ≠ some p := fun z => by obtain ⟨_, _, e, _⟩ := r1.ck p z; rw [e] at h0; cases h0
    refine k p H' F' m1 z ws (r1.new n) (f1.trans (n.fresh r1.ck)) ?_ hp cp h1 rl' q1
    cases q : H p with
    | none => rfl
    | some o => rw [f1.hh p o q cp] at h0; cases h0⟩
theorem ge_callB {id : String} {r : List V → Hp → VK → Prop} {f : List D → Option D} (hc : CallR X (.builtin id) r) (cd : CallD X.K g r f) (hg : Gl X x) (hm : X.mg x = none) (hv : bootBuiltins x = some (.builtin id)) (ha : GAb g X (e :: es) dl) (hn : x ≠ "__name__" := by decide) (hdb : (x == ("__debug__" : Str)) = false := by decide)
    (he : starEach (e :: es) X.env = (false, eval e X.env) :: starEach es X.env := by rfl) (hpl : (backTo pos (starEach es X.env)).any (·.1) = false := by rfl) : GE g X (.Call (.Name x p) (e :: es) [] pos) (dCallB f dl) := PE.weak (pe_callB hc hg hm hv ha hn hdb he hpl) (cb_weak cd)
theorem ge_callTy {T : String} {r : List V → Hp → VK → Prop} {f : List D → Option D} (hc : CallR X (.type T) r) (cd : CallD X.K g r f) (hg : Gl X x) (hm : X.mg x = none) (hv : bootBuiltins x = some (.type T)) (ha : GAb g X (e :: es) dl) (hn : x ≠ "__name__" := by decide) (hdb : (x == ("__debug__" : Str)) = false := by decide)
    (he : starEach (e :: es) X.env = (false, eval e X.env) :: starEach es X.env := by rfl) (hpl : (backTo pos (starEach es X.env)).any (·.1) = false := by rfl) : GE g X (.Call (.Name x p) (e :: es) [] pos) (dCallB f dl) := PE.weak (pe_callTy hc hg hm hv ha hn hdb he hpl) (cb_weak cd)
theorem gn_callB {id : String} {r : List V → Hp → VK → Prop} {f : List D → Option (List D)} (hc : CallR X (.builtin id) r) (cd : CallN X.K g r f) (hg : Gl X x) (hm : X.mg x = none) (hv : bootBuiltins x = some (.builtin id)) (ha : GAb g X (e :: es) dl) (hn : x ≠ "__name__" := by decide) (hdb : (x == ("__debug__" : Str)) = false := by decide)
    (he : starEach (e :: es) X.env = (false, eval e X.env) :: starEach es X.env := by rfl) (hpl : (backTo pos (starEach es X.env)).any (·.1) = false := by rfl) : GN g X (.Call (.Name x p) (e :: es) [] pos) (dCallN f dl) := PE.weak (pe_callB hc hg hm hv ha hn hdb he hpl) (cn_weak cd)
theorem gn_callTy {T : String} {r : List V → Hp → VK → Prop} {f : List D → Option (List D)} (hc : CallR X (.type T) r) (cd : CallN X.K g r f) (hg : Gl X x) (hm : X.mg x = none) (hv : bootBuiltins x = some (.type T)) (ha : GAb g X (e :: es) dl) (hn : x ≠ "__name__" := by decide) (hdb : (x == ("__debug__" : Str)) = false := by decide)
    (he : starEach (e :: es) X.env = (false, eval e X.env) :: starEach es X.env := by rfl) (hpl : (backTo pos (starEach es X.env)).any (·.1) = false := by rfl) : GN g X (.Call (.Name x p) (e :: es) [] pos) (dCallN f dl) := PE.weak (pe_callTy hc hg hm hv ha hn hdb he hpl) (cn_weak cd)

/-! len -/
def lenD : List D → Option D
  | [.str s] => if s.length ≤ LL then some (.int s.length) else none
  | [.lst ds] => some (.int ds.length)
  | [.tup ds] => some (.int ds.length)
  | [.web _ ts] => some (.int ts.length)
  | _ => none
def lenD0 : List D → Option D
  | [.web _ _] => none
  | ds => lenD ds
def rLen (K : PySem.W.Frag) : List V → Hp → VK → Prop := fun xs H Q => ∃ x n, xs = [x] ∧ LenV K x H n ∧ Q (.int n) H
theorem cd_len0 : CallD K g (rLen K) lenD0 := fun c F H xs z vs Q' e nc rp hz k => by
  cases rp with
  | nil => simp [lenD0, lenD] at hz
  | cons r1 rt =>
    rename_i x v ds vs
    cases rt with
    | cons _ _ => cases x <;> simp [lenD0, lenD] at hz
    | nil =>
      cases x with
      | str s =>
        simp only [lenD0, lenD] at hz
        split at hz
        · rename_i hl; cases hz; cases r1.str'; exact ⟨_, s.length, rfl, ⟨ll hl, rfl⟩, k _ H F (New.refl e) (.int _)⟩
        · cases hz
      | lst es =>
        cases hz
        obtain ⟨p, ys, rfl, h1, h2, _⟩ := r1
        exact ⟨_, ys.length, rfl, .inl ⟨ys, SqL.of h1, rfl⟩, by rw [h2.length]; exact k _ H F (New.refl e) (.int _)⟩
      | tup es =>
        cases hz
        obtain ⟨p, ys, rfl, h1, h2⟩ := r1.tup'
        exact ⟨_, ys.length, rfl, .inr ⟨ys, Evl.ex_t e h1, rfl⟩, by rw [h2.length]; exact k _ H F (New.refl e) (.int _)⟩
      | _ => simp [lenD0, lenD] at hz
/-- len(web), by its own __len__ -/
def rLenW (K : PySem.W.Frag) (C : Addr) : List V → Hp → VK → Prop := fun xs H Q => ∃ (a dx t : Addr) (pl : Str) (ts : List Str), xs = [.ref a] ∧ H a = some (.ins C dx [("places", .str pl), ("ties", .ref t)]) ∧ SqT K H t (ts.map V.str) ∧ ∀ H', Ex H H' → Q (.int ts.length) H'
theorem cd_lenW : CallD K g (fun xs H Q => rLen K xs H Q ∨ rLenW K g.Cw xs H Q) lenD := fun c F H xs z vs Q' e nc rp hz k => by
  by_cases hw : ∃ pl ts, xs = [.web pl ts]
  · obtain ⟨pl, ts, rfl⟩ := hw
    cases rp with
    | cons r1 rt =>
      cases rt
      cases hz
      obtain ⟨a, dx, t, rfl, h1, h2⟩ := r1.web'
      exact .inr ⟨a, dx, t, pl, ts, rfl, e _ _ h1, Evl.ex_t e h2, fun H' e' => k _ H' F ⟨fun _ _ h => h, e.trans e', e', fun _ _ h => .inl h⟩ (.int _)⟩
  · refine .inl (cd_len0 c F H xs z vs Q' e nc rp ?_ k)
    unfold lenD0
    split
    · exact absurd ⟨_, _, rfl⟩ hw
    · exact hz
/-! abs, int, divmod, min, max -/
def absD : List D → Option D | [.int i] => some (.int (if i < 0 then -i else i)) | _ => none
theorem one_int {c : Option Addr} {F H : Hp} {i : Int} {vs : List V} (h : RepTs K g c F H [.int i] vs) : vs = [.int i] := by
  cases h with
  | cons h t => cases t; rw [h.int']
theorem cd_abs : CallD K g (fun xs H Q => ∃ i, xs = [.int i] ∧ Q (.int (if i < 0 then -i else i)) H) absD := fun c F H xs z vs Q' e nc rp hz k => by
  unfold absD at hz
  split at hz
  · cases hz; exact ⟨_, one_int rp, k _ H F (New.refl e) (.int _)⟩
  · cases hz
def intD : List D → Option D | [.int i] => some (.int i) | [.bl b] => some (.int (if b then 1 else 0)) | _ => none
theorem cd_int : CallD K g (fun xs H Q => (∃ i, xs = [.int i] ∧ Q (.int i) H) ∨ ∃ k, xs = [.bl k] ∧ Q (.int (if k then 1 else 0)) H) intD := fun c F H xs z vs Q' e nc rp hz k => by
  unfold intD at hz
  split at hz
  · cases hz; exact .inl ⟨_, one_int rp, k _ H F (New.refl e) (.int _)⟩
  · cases hz
    cases rp with
    | cons h t => cases t; rw [h.bl']; exact .inr ⟨_, rfl, k _ H F (New.refl e) (.int _)⟩
  · cases hz
def divmodD : List D → Option D | [.int i, .int j] => if 0 < j ∧ j < 1073741824 then some (.tup [.int (i / j), .int (i % j)]) else none | _ => none
theorem cd_divmod : CallD K g (fun xs H Q => ∃ i j, xs = [.int i, .int j] ∧ CDiv i j ∧ ∀ p, H p = none → Q (.ref p) (upd H p (.tup [.int (i / j), .int (i % j)]))) divmodD := fun c F H xs z vs Q' e nc rp hz k => by
  unfold divmodD at hz
  split at hz
  · rename_i i j
    split at hz
    · rename_i hj
      cases hz
      cases rp with
      | cons h t =>
        cases t with
        | cons h2 t2 =>
          cases t2
          refine ⟨i, j, by rw [h.int', h2.int'], hj, fun p hp => ?_⟩
          have n := New.fix (o := .tup [.int (i / j), .int (i % j)]) e hp
          exact k _ _ _ n (.tup (SqT.of upd_same) (.cons (.int _) (.cons (.int _) .nil)))
    · cases hz
  · cases hz
def minD2 : List D → Option D
  | [.int i, .int j] => some (.int (if j < i then j else i))
  | [.str a, .str b] => some (.str (if sLt b a then b else a))
  | _ => none
def maxD2 : List D → Option D
  | [.int i, .int j] => some (.int (if j > i then j else i))
  | [.str a, .str b] => some (.str (if sLt a b then b else a))
  | _ => none
theorem cd_min2 : CallD K g (fun xs H Q => (∃ i j, xs = [.int i, .int j] ∧ Q (.int (if j < i then j else i)) H) ∨ ∃ a b, xs = [.str a, .str b] ∧ Q (.str (if sLt b a then b else a)) H) minD2 := fun c F H xs z vs Q' e nc rp hz k => by
  unfold minD2 at hz
  split at hz
  · cases hz
    cases rp with
    | cons h t => cases t with
      | cons h2 t2 => cases t2; exact .inl ⟨_, _, by rw [h.int', h2.int'], k _ H F (New.refl e) (.int _)⟩
  · cases hz
    cases rp with
    | cons h t => cases t with
      | cons h2 t2 => cases t2; exact .inr ⟨_, _, by rw [h.str', h2.str'], k _ H F (New.refl e) (.str _)⟩
  · cases hz
theorem cd_max2 : CallD K g (fun xs H Q => (∃ i j, xs = [.int i, .int j] ∧ Q (.int (if j > i then j else i)) H) ∨ ∃ a b, xs = [.str a, .str b] ∧ Q (.str (if sLt a b then b else a)) H) maxD2 := fun c F H xs z vs Q' e nc rp hz k => by
  unfold maxD2 at hz
  split at hz
  · cases hz
    cases rp with
    | cons h t => cases t with
      | cons h2 t2 => cases t2; exact .inl ⟨_, _, by rw [h.int', h2.int'], k _ H F (New.refl e) (.int _)⟩
  · cases hz
    cases rp with
    | cons h t => cases t with
      | cons h2 t2 => cases t2; exact .inr ⟨_, _, by rw [h.str', h2.str'], k _ H F (New.refl e) (.str _)⟩
  · cases hz
theorem cr_min2 (hc : X.calm = true) : CallR X (.builtin "min") (fun xs H Q => (∃ i j, xs = [.int i, .int j] ∧ Q (.int (if j < i then j else i)) H) ∨ ∃ a b, xs = [.str a, .str b] ∧ Q (.str (if sLt b a then b else a)) H) := (call_min2 hc).or (cr_min2S hc)
theorem cr_max2 (hc : X.calm = true) : CallR X (.builtin "max") (fun xs H Q => (∃ i j, xs = [.int i, .int j] ∧ Q (.int (if j > i then j else i)) H) ∨ ∃ a b, xs = [.str a, .str b] ∧ Q (.str (if sLt a b then b else a)) H) := (call_max2 hc).or (cr_max2S hc)
/-! all, any -/
def bools : List D → Option (List Bool)
  | [] => some []
  | .bl b :: r => (bools r).map (b :: ·)
  | _ :: _ => none
theorem bools_map : ∀ {ds : List D} {bs : List Bool}, bools ds = some bs → ds = bs.map D.bl
  | [], _, h => by cases h; rfl
  | .bl b :: r, bs, h => by
    obtain ⟨cs, h1, rfl⟩ := Option.map_eq_some_iff.mp h
    rw [bools_map h1]; rfl
  | .non :: _, _, h => by cases h
  | .int _ :: _, _, h => by cases h
  | .str _ :: _, _, h => by cases h
  | .tup _ :: _, _, h => by cases h
  | .lst _ :: _, _, h => by cases h
  | .dic _ :: _, _, h => by cases h
  | .web _ _ :: _, _, h => by cases h
theorem bools_of (bs : List Bool) : bools (bs.map D.bl) = some bs := by
  induction bs with
  | nil => rfl
  | cons b r ih => rw [List.map_cons]; unfold bools; rw [ih]; rfl
def allD : List D → Option D | [.lst ds] => (bools ds).map fun bs => .bl (bs.all id) | _ => none
def anyD : List D → Option D | [.lst ds] => (bools ds).map fun bs => .bl (bs.any id) | _ => none
theorem cd_all : CallD K g (rAll K) allD := fun c F H xs z vs Q' e nc rp hz k => by
  unfold allD at hz
  split at hz
  · obtain ⟨bs, h1, rfl⟩ := Option.map_eq_some_iff.mp hz
    have h2 := bools_map h1
    subst h2
    cases rp with
    | cons h t =>
      cases t
      obtain ⟨p, ys, rfl, g1, g2, _⟩ := h
      have := repL_bls g2
      subst this
      exact ⟨p, bs, rfl, SqL.of g1, k _ H F (New.refl e) (.bl _)⟩
  · cases hz
theorem cd_any : CallD K g (rAny K) anyD := fun c F H xs z vs Q' e nc rp hz k => by
  unfold anyD at hz
  split at hz
  · obtain ⟨bs, h1, rfl⟩ := Option.map_eq_some_iff.mp hz
    have h2 := bools_map h1
    subst h2
    cases rp with
    | cons h t =>
      cases t
      obtain ⟨p, ys, rfl, g1, g2, _⟩ := h
      have := repL_bls g2
      subst this
      exact ⟨p, bs, rfl, SqL.of g1, k _ H F (New.refl e) (.bl _)⟩
  · cases hz
/-! list(..), tuple(..) -/
def listD : List D → Option (List D)
  | [.lst ds] => some ds
  | [.tup ds] => some ds
  | [.str s] => if s.length ≤ LL then some (charsD s) else none
  | _ => none
def rListG (K : PySem.W.Frag) : List V → Hp → VK → Prop := fun xs H Q => (∃ p ys, xs = [.ref p] ∧ (SqL K H p ys ∨ SqT K H p ys) ∧ ∀ l, H l = none → Q (.ref l) (upd H l (.lst ys))) ∨ ∃ z : Str, xs = [.str z] ∧ z.length ≤ LL ∧ ∀ p, H p = none → Q (.ref p) (upd H p (.lst (chars z)))
theorem cr_list (hc : X.calm = true) : CallR X (.type "list") (rListG X.K) := call_list_of.or (cr_listStr hc)
theorem new_lay {F H : Hp} {l : Addr} {ys : List V} (e : Ex F H) (hl : H l = none) : New F H F (upd H l (.lst ys)) ∧ F l = none ∧ upd H l (.lst ys) l = some (.lst ys) := ⟨New.lay e hl, ex_none e hl, upd_same⟩
theorem cn_list : CallN K g (rListG K) listD := fun c F H xs ds vs Q' e nc rp hz k => by
  unfold listD at hz
  split at hz
  · cases hz
    cases rp with
    | cons h t =>
      cases t
      obtain ⟨p, ys, rfl, g1, g2, _⟩ := h
      exact .inl ⟨p, ys, rfl, .inl (SqL.of g1), fun l hl => k l _ F ys (new_lay e hl).1 hl (new_lay e hl (ys := ys)).2.1 upd_same g2⟩
  · cases hz
    cases rp with
    | cons h t =>
      cases t
      obtain ⟨p, ys, rfl, g1, g2⟩ := h.tup'
      exact .inl ⟨p, ys, rfl, .inr (Evl.ex_t e g1), fun l hl => k l _ F ys (new_lay e hl).1 hl (new_lay e hl (ys := ys)).2.1 upd_same g2⟩
  · split at hz
    · rename_i s hl
      cases hz
      cases rp with
      | cons h t =>
        cases t
        rw [h.str']
        exact .inr ⟨s, rfl, hl, fun l hl => k l _ F _ (new_lay e hl).1 hl (new_lay e hl (ys := chars s)).2.1 upd_same (chars_rep s)⟩
    · cases hz
  · cases hz
def tupleD : List D → Option D
  | [.lst ds] => some (.tup ds)
  | [.tup ds] => some (.tup ds)
  | _ => none
def rTupG (K : PySem.W.Frag) : List V → Hp → VK → Prop := fun xs H Q => ∃ p ys, xs = [.ref p] ∧ ((SqL K H p ys ∧ ∀ l, H l = none → Q (.ref l) (upd H l (.tup ys))) ∨ (SqT K H p ys ∧ Q (.ref p) H))
theorem cr_tuple : CallR X (.type "tuple") (rTupG X.K) := call_tuple_of
theorem cd_tuple : CallD K g (rTupG K) tupleD := fun c F H xs z vs Q' e nc rp hz k => by
  unfold tupleD at hz
  split at hz
  · cases hz
    cases rp with
    | cons h t =>
      cases t
      obtain ⟨p, ys, rfl, g1, g2, _⟩ := h
      refine ⟨p, ys, rfl, .inl ⟨SqL.of g1, fun l hl => ?_⟩⟩
      have n := New.fix (o := .tup ys) e hl
      exact k _ _ _ n (.tup (SqT.of upd_same) (g2.mono n.ff))
  · cases hz
    cases rp with
    | cons h t =>
      cases t
      obtain ⟨p, ys, rfl, g1, g2⟩ := h.tup'
      exact ⟨p, ys, rfl, .inr ⟨Evl.ex_t e g1, k _ H F (New.refl e) (.tup g1 g2)⟩⟩
  · cases hz
/-! sorted -/
def D.lt (a b : D) : Bool := dataLt a.py b.py
def sortL (ds : List D) : List D := ds.mergeSort fun a b => !D.lt b a
def alikeL (ds : List D) : Bool := ds.all fun a => ds.all fun b => alike a.py b.py
def D.neT : D → Bool | .tup (_ :: _) => true | _ => false
def D.noT : D → Bool | .tup _ => false | .non => false | .dic _ => false | .web _ _ => false | _ => true
def sortOk (ds : List D) : Bool := alikeL ds && (ds.all D.neT || ds.all D.noT) && ds.all (·.okd 60) && decide (ds.length ≤ LL)
def sortedD : List D → Option (List D)
  | [.lst ds] => if sortOk ds then some (sortL ds) else none
  | [.str s] => if s.length ≤ LL then some (sortL (charsD s)) else none
  | _ => none
def rSortedG (K : PySem.W.Frag) : List V → Hp → VK → Prop := fun xs H Q => rSortG K xs H Q ∨ ∃ z : Str, xs = [.str z] ∧ z.length ≤ LL ∧ ∀ p, H p = none → Q (.ref p) (upd H p (.lst ((sortV ((z.cps.toList.map fun c => ((.str ⟨#[c]⟩ : V), PyData.str ⟨#[c]⟩)))).map (·.1))))
theorem cr_sorted' (hc : X.calm = true) (hu : X.A.units + 64 < cLine) : CallR X (.builtin "sorted") (rSortedG X.K) := (cr_sortG hu).or (cr_sortStr hc hu)
/-- sorting the values by what they are gives the data sorted -/
theorem sort_rep {F : Hp} {ds : List D} {xs : List V} (h : RepL K g F ds xs) : RepL K g F (sortL ds) ((sortV (xs.zip (ds.map D.py))).map (·.1)) := by
  -- triples of a datum and its value
  have key : ∀ (ps : List (D × V)), (∀ p ∈ ps, Rep K g F p.1 p.2) → RepL K g F (ps.map (·.1)) (ps.map (·.2)) := by
    intro ps hp
    induction ps with
    | nil => exact .nil
    | cons p r ih => exact .cons (hp p (by simp)) (ih fun q hq => hp q (by simp [hq]))
  have all : ∀ {ds : List D} {xs : List V}, RepL K g F ds xs → ∀ p ∈ ds.zip xs, Rep K g F p.1 p.2 := by
    intro ds
    induction ds with
    | nil => intro xs _ p hp; simp at hp
    | cons d r ih =>
      intro xs h p hp
      cases h with
      | cons h1 t1 =>
        simp only [List.zip_cons_cons, List.mem_cons] at hp
        rcases hp with rfl | hp
        · exact h1
        · exact ih t1 p hp
  have hl := h.length
  let ps := (ds.zip xs).mergeSort fun a b => !D.lt b.1 a.1
  have e1 : ps.map (·.1) = sortL ds := by
    have := List.map_mergeSort (r := fun a b : D × V => !D.lt b.1 a.1) (s := fun a b : D => !D.lt b a) (f := Prod.fst) (l := ds.zip xs) (fun a _ b _ => rfl)
    rw [List.map_fst_zip (by omega)] at this
    exact this
  have e2 : ps.map (·.2) = (sortV (xs.zip (ds.map D.py))).map (·.1) := by
    have := List.map_mergeSort (r := fun a b : D × V => !D.lt b.1 a.1) (s := dataLe false fun p : V × PyData => p.2) (f := fun p : D × V => (p.2, p.1.py)) (l := ds.zip xs) (fun a _ b _ => rfl)
    have e3 : (ds.zip xs).map (fun p : D × V => (p.2, p.1.py)) = xs.zip (ds.map D.py) := by
      clear this e1 h
      induction ds generalizing xs with
      | nil => cases xs <;> rfl
      | cons d r ih =>
        cases xs with
        | nil => simp at hl
        | cons x t => simp only [List.zip_cons_cons, List.map_cons]; rw [ih (by simpa using hl)]
    rw [e3] at this
    unfold sortV
    rw [← this, List.map_map]
    rfl
  rw [← e1, ← e2]
  exact key ps fun p hp => all h p (List.mergeSort_perm _ _ |>.mem_iff.mp hp)
theorem sortL_len (ds : List D) : (sortL ds).length = ds.length := by unfold sortL; rw [List.length_mergeSort]
theorem cn_sorted : CallN K g (rSortedG K) sortedD := fun c F H xs ds vs Q' e nc rp hz k => by
  unfold sortedD at hz
  split at hz
  · rename_i es
    split at hz
    · rename_i ok
      cases hz
      unfold sortOk at ok
      simp only [Bool.and_eq_true, Bool.or_eq_true, decide_eq_true_eq] at ok
      obtain ⟨⟨⟨o1, o2⟩, o3⟩, o4⟩ := ok
      cases rp with
      | cons h t =>
        cases t
        obtain ⟨p, ys, rfl, g1, g2, _⟩ := h
        have hl := g2.length
        have z1 : (ys.zip (es.map D.py)).map (·.1) = ys := List.map_fst_zip (by rw [List.length_map]; omega)
        have z2 : (ys.zip (es.map D.py)).map (·.2) = es.map D.py := List.map_snd_zip (by rw [List.length_map]; omega)
        refine .inl ⟨p, ys.zip (es.map D.py), rfl, by rw [z1]; exact SqL.of g1, ?_, ?_, ?_, ?_, fun l hl' => ?_⟩
        · intro q hq
          have o3' := List.all_eq_true.mp o3
          clear z1 z2 o1 o2 o4 hl
          clear g1 k
          induction es generalizing ys with
          | nil => cases g2; simp at hq
          | cons d r ih =>
            cases g2 with
            | cons h1 t1 =>
              simp only [List.map_cons, List.zip_cons_cons, List.mem_cons] at hq
              rcases hq with rfl | hq
              · have od := o3' d (by simp)
                exact ⟨rep_dp e d 60 _ od h1, (okd_lay d 60 od).2⟩
              · exact ih (by simp only [List.all_cons, Bool.and_eq_true] at o3; exact o3.2) _ t1 hq fun x hx => o3' x (by simp [hx])
        · rw [z2]
          intro d hd d' hd'
          obtain ⟨a, ha, rfl⟩ := List.mem_map.mp hd
          obtain ⟨b, hb, rfl⟩ := List.mem_map.mp hd'
          unfold alikeL at o1
          exact List.all_eq_true.mp (List.all_eq_true.mp o1 a ha) b hb
        · rw [z2]
          rcases o2 with o2 | o2
          · refine .inl fun d hd => ?_
            obtain ⟨a, ha, rfl⟩ := List.mem_map.mp hd
            have := List.all_eq_true.mp o2 a ha
            cases a with
            | tup l => cases l with
              | nil => cases this
              | cons x r => exact ⟨x.py, pyL r, by simp only [D.py, pyL]⟩
            | _ => cases this
          · refine .inr fun d hd => ?_
            obtain ⟨a, ha, rfl⟩ := List.mem_map.mp hd
            have := List.all_eq_true.mp o2 a ha
            cases a with
            | non => cases this
            | tup l => cases this
            | dic l => cases this
            | web a b => cases this
            | bl b => simp only [D.py]; exact ⟨(fun z => nomatch z), fun _ z => nomatch z⟩
            | int b => simp only [D.py]; exact ⟨(fun z => nomatch z), fun _ z => nomatch z⟩
            | str b => simp only [D.py]; exact ⟨(fun z => nomatch z), fun _ z => nomatch z⟩
            | lst b => simp only [D.py]; exact ⟨(fun z => nomatch z), fun _ z => nomatch z⟩
        · rw [List.length_zip, List.length_map]; omega
        · exact k l _ F _ (new_lay e hl').1 hl' (new_lay e hl' (ys := (sortV (ys.zip (es.map D.py))).map (·.1))).2.1 upd_same (sort_rep g2)
    · cases hz
  · rename_i s
    split at hz
    · rename_i hl
      cases hz
      cases rp with
      | cons h t =>
        cases t
        rw [h.str']
        refine .inr ⟨s, rfl, hl, fun l hl' => ?_⟩
        have sr := sort_rep (chars_rep (K := K) (g := g) (F := F) s)
        have e3 : (chars s).zip ((charsD s).map D.py) = s.cps.toList.map fun c => ((.str ⟨#[c]⟩ : V), PyData.str ⟨#[c]⟩) := by
          unfold chars charsD
          rw [List.map_map]
          generalize s.cps.toList = cs
          induction cs with
          | nil => rfl
          | cons c r ih => simp only [List.map_cons, List.zip_cons_cons]; rw [ih]; rfl
        rw [e3] at sr
        exact k l _ F _ (new_lay e hl').1 hl' (new_lay e hl' (ys := [])).2.1 upd_same sr
    · cases hz
  · cases hz
end
end G
namespace G
open PySem L2

/-! ### defs by data: arguments, the cask's bound, what is wanted of the answer and of the bound -/
abbrev Spec := List Sl → Nat → (D → Nat → Prop) → Prop
def spOf (K : PySem.W.Frag) (g : Gp) (S : Spec) : Sp := fun vs H Q _ => ∃ c F as m Q', Ex F H ∧ ArgsR K g c F as vs ∧ Ck g c m F H ∧ S as m Q' ∧
  ∀ v H' F' m' x, Fresh c F H F' H' → Ck g c m' F' H' → Rep K g F' x v → Q' x m' → Q v H'
theorem ArgsR.length {K : PySem.W.Frag} {g : Gp} {c : Option Addr} {F : Hp} {as : List Sl} {vs : List V} (h : ArgsR K g c F as vs) : as.length = vs.length := Paired.length h
def dCall (S : Spec) (da : DA) : DE := fun env m Q => da env m fun as m1 => S as m1 Q
section
variable {g : Gp} {X : Cx} {CX : CXT} {k : Nat} {f C : Addr} {fd : FuncData} {ps : List Str} {S : Spec} {x : Str} {p pos : Pos} {e : Expr} {es : List Expr} {da : DA}
theorem call_weak : ∀ σ H Q, tD X.K g (dCall S da) σ H Q → tCall (spOf X.K g S) [] E0 (tAr X.K g da) σ H Q := fun σ H Q ⟨c, F, env, m, Q1, r, h, kk⟩ =>
  ⟨c, F, env, m, _, r, h, fun vs H1 F1 m1 as r1 f1 ar q => by
    refine ⟨c, F1, as, m1, Q1, r1.sub, by rw [List.append_nil]; exact ar, r1.ck, q, fun v H' F' m' y f' ck' rp q' => kk v H' F' m' y (r1.fresh f' ck') (f1.trans f') rp q'⟩⟩
theorem ge_call (F : FnOk X.prog X.w X.K X.mg X.base CX0 k f fd ps (spOf X.K g S)) (hr : Room k X.A) (hg : Gl X x) (hm : X.mg x = some (.ref f)) (hk : PySem.W.keepIn X.K (.ref f) = true) (hb : Binds X.K fd ps [])
    (ha : GA g X (e :: es) da) (hdb : (x == ("__debug__" : Str)) = false := by decide) (he : starEach (e :: es) X.env = (false, eval e X.env) :: starEach es X.env := by rfl) (hpl : (backTo pos (starEach es X.env)).any (·.1) = false := by rfl) :
    GE g X (.Call (.Name x p) (e :: es) [] pos) (dCall S da) := PE.weak (pe_call F hr hg hm hk hb .nil pass0 ha hdb he hpl) call_weak
/-- keywords alone: the values in the order of ks, brought into the parameters' order by pm -/
def KB0 (K : PySem.W.Frag) (fd : FuncData) (ps ks : List Str) (pm : {α : Type} → List α → List α) : Prop :=
  ∀ (s : Shared) (ws : List Value), K.In s.heap → ws.length = ks.length → BindsTo s fd ⟨[], ks.zip ws⟩ (ps.zip (pm ws))
def tCallK0 (sp : Sp) (pm : List V → List V) (t : TA) : TE := fun σ H Q => t σ H fun vs H1 => sp (pm vs) H1 Q E0
theorem pe_callK0 {sp : Sp} {ks : List Str} {kws : List Keyword} {t : TA} {pm : {α : Type} → List α → List α} (F : FnOk X.prog X.w X.K X.mg X.base CX0 k f fd ps sp) (hr : Room k X.A) (hg : Gl X x) (hm : X.mg x = some (.ref f)) (hk : PySem.W.keepIn X.K (.ref f) = true) (hb : KB0 X.K fd ps ks pm)
    (hpm : ∀ (vs : List V) (us : List Value), Vals vs us → Vals (pm vs) (pm us)) (hkl : kws.length = ks.length) (hkw : PK X kws t) (hall : (backToKw pos (keywordEach kws X.env)).all (·.1.isSome) = true := by rfl) (hks : (backToKw pos (keywordEach kws X.env)).filterMap (·.1) = ks := by rfl)
    (hlen : ∀ (us : List Value), us.length = kws.length → us.length = ks.length := by intro us h; exact h)
    (hdb : (x == ("__debug__" : Str)) = false := by decide) (hpl : ((backTo pos (starEach [] X.env)).any (·.1) || (backToKw pos (keywordEach kws X.env)).any (·.1.isNone)) = false := by rfl)
    (hn : ∀ σ H Q, t σ H Q → t σ H fun vs H1 => vs.length = kws.length ∧ Q vs H1) :
    PE X (.Call (.Name x p) [] kws pos) (tCallK0 sp pm t) := by
  refine ⟨fun pins s σ H Q I h => ?_⟩
  refine wpAny_Call_Name_kw (ld_glob I hg hm ?_ hdb)
  refine PySem.W.callWith_KW0 (h₀ := X.base) I.ok.mod.kin hk hall (thn (hkw.run pos pins s σ H _ I (hn σ H _ h)) fun ws s1 ⟨zs, H1, I1, rz, hl, q⟩ => ⟨I1.kIn, ?_⟩) hpl
  rw [hks]
  have hw : ws.length = ks.length := by rw [← rz.length, hl, hkl]
  have r2 := hpm zs ws rz
  refine wpAny_call (codeAny_mono (F.run X.A X.stack s1 H1 ⟨[], ks.zip ws⟩ (pm ws) (pm zs) Q E0 hr I1.env0 (hb s1 ws I1.kIn hw) r2 q) fun r s' hq => ?_)
  cases r with
  | error e => exact hq.elim
  | ok fl =>
    cases fl with
    | ret u => exact I1.after hq
    | next => exact False.elim hq
    | brk => exact False.elim hq
    | cont => exact False.elim hq
/-- keywords by data -/
def GK (g : Gp) (X : Cx) (kws : List Keyword) (d : DA) (n : Nat) : Prop := PK X kws (tAr X.K g d) ∧ ∀ env m Q, d env m Q → d env m fun as m1 => as.length = n ∧ Q as m1
theorem PK.weak {kws : List Keyword} {t t' : TA} (h : PK X kws t) (w : ∀ σ H Q, t' σ H Q → t σ H Q) : PK X kws t' := ⟨fun pos pins s σ H Q I q => h.run pos pins s σ H Q I (w σ H Q q)⟩
theorem gk_nil : GK g X [] dNilA 0 := ⟨PK.weak pk_nil fun σ H Q ⟨c, F, env, m, Q1, rl, hd, k⟩ => k [] H F m [] rl (Fresh.refl rl.sub rl.ck) .nil hd, fun env m Q h => ⟨rfl, h⟩⟩
theorem gk_cons {nm : Option Str} {kpos : Pos} {kws : List Keyword} {d : DE} {dr : DA} {n : Nat} (ha : GE g X e d) (mono : ∀ env m Q Q', (∀ y m', Q y m' → Q' y m') → d env m Q → d env m Q') (hr : GK g X kws dr n) : GK g X (⟨nm, e, kpos⟩ :: kws) (dConsA d dr) (n + 1) :=
  ⟨PK.weak (pk_cons ha hr.1) fun σ H Q ⟨c, F, env, m, Q1, rl, hd, k⟩ =>
    ⟨c, F, env, m, _, rl, hd, fun v H1 F1 m1 x r1 f1 rp q1 => ⟨c, F1, env, m1, _, r1, q1, fun vs H2 F2 m2 as r2 f2 rps q2 => k _ H2 F2 m2 _ r2 (f1.trans f2) (.cons (rp.mono f2.ff) rps) q2⟩⟩,
   fun env m Q h => mono env m _ _ (fun y m' q => by
     have := hr.2 env m' _ q
     exact (by
       refine (fun (h2 : dr env m' fun as m2 => as.length = n ∧ Q (.val y :: as) m2) => ?_) this
       have e : (fun (as : List Sl) m2 => as.length = n ∧ Q (.val y :: as) m2) = fun as m2 => (Sl.val y :: as).length = n + 1 ∧ Q (.val y :: as) m2 := by
         funext as m2
         rw [List.length_cons, Nat.add_right_cancel_iff]
       rw [e] at h2
       exact h2)) h⟩
def dCallK (S : Spec) (pm : List Sl → List Sl) (da : DA) : DE := fun env m Q => da env m fun as m1 => S (pm as) m1 Q
theorem ge_callK {ks : List Str} {kws : List Keyword} {n : Nat} {pm : {α : Type} → List α → List α} (F : FnOk X.prog X.w X.K X.mg X.base CX0 k f fd ps (spOf X.K g S)) (hr : Room k X.A) (hg : Gl X x) (hm : X.mg x = some (.ref f)) (hk : PySem.W.keepIn X.K (.ref f) = true) (hb : KB0 X.K fd ps ks pm)
    (hpm : ∀ {α β : Type} (R : α → β → Prop) (vs : List α) (us : List β), Paired R vs us → Paired R (pm vs) (pm us)) (hkl : kws.length = ks.length) (hkw : GK g X kws da n) (hn : kws.length = n) (hall : (backToKw pos (keywordEach kws X.env)).all (·.1.isSome) = true := by rfl) (hks : (backToKw pos (keywordEach kws X.env)).filterMap (·.1) = ks := by rfl)
    (hdb : (x == ("__debug__" : Str)) = false := by decide) (hpl : ((backTo pos (starEach [] X.env)).any (·.1) || (backToKw pos (keywordEach kws X.env)).any (·.1.isNone)) = false := by rfl) :
    GE g X (.Call (.Name x p) [] kws pos) (dCallK S pm da) := by
  refine PE.weak (pe_callK0 (t := tAr X.K g da) (pm := pm) F hr hg hm hk hb (fun vs us h => hpm RelV vs us h) hkl hkw.1 hall hks (fun us h => by rw [h, hkl]) hdb hpl (fun σ H Q ⟨c, F, env, m, Q1, r, h, kk⟩ => ?_)) fun σ H Q ⟨c, F, env, m, Q1, r, h, kk⟩ => ?_
  · exact ⟨c, F, env, m, _, r, hkw.2 env m Q1 h, fun vs H1 F1 m1 as r1 f1 ar ⟨hl, q⟩ => ⟨by rw [← ar.length, hl, hn], kk vs H1 F1 m1 as r1 f1 ar q⟩⟩
  · exact ⟨c, F, env, m, _, r, h, fun vs H1 F1 m1 as r1 f1 ar q => ⟨c, F1, pm as, m1, Q1, r1.sub, hpm _ as vs ar, r1.ck, q, fun v H' F' m' y f' ck' rp q' => kk v H' F' m' y (r1.fresh f' ck') (f1.trans f') rp q'⟩⟩
end

/-! ### a def keeps its promise -/
def pad (N : List Str) (as : List Sl) : Env' := as ++ List.replicate (N.length - as.length) .no
section
variable {P : Program} {w : World} {K : PySem.W.Frag} {mg : Str → Option Value} {base : Heap} {g : Gp}
theorem start_rel {N : List Str} {c : Option Addr} {F H : Hp} {as : List Sl} {vs : List V} {m : Nat} (e : Ex F H) (ar : ArgsR K g c F as vs) (ck : Ck g c m F H) : Rel K g c F (pad N as) m (L2.start N vs) H ∧ ∀ a, ¬ Own (pad N as) (L2.start N vs) a := by
  have hl := ar.length
  have get : ∀ (i : Nat) (s : Sl), (pad N as)[i]? = some s → s = .no ∨ ∃ v, (L2.start N vs)[i]? = some (some v) ∧ as[i]? = some s ∧ vs[i]? = some v := fun i s h => by
    unfold pad at h
    by_cases hi : i < as.length
    · rw [List.getElem?_append_left hi] at h
      refine .inr ⟨vs[i]'(by omega), ?_, h, List.getElem?_eq_getElem _⟩
      unfold L2.start
      rw [List.getElem?_append_left (by rw [List.length_map]; omega), List.getElem?_map, List.getElem?_eq_getElem (by omega)]
      rfl
    · rw [List.getElem?_append_right (by omega)] at h
      exact .inl (List.eq_of_mem_replicate (List.mem_of_getElem? h))
  have rel : ∀ {as : List Sl} {vs : List V}, ArgsR K g c F as vs → ∀ (i : Nat) (s : Sl) (v : V), as[i]? = some s → vs[i]? = some v → SlR K g c F H s (some (some v)) ∧ ∀ o, s.adr o = [] := by
    intro as vs ar
    induction ar with
    | nil => intro i s v h _; simp at h
    | cons h t ih =>
      intro i s v h1 h2
      cases i with
      | zero =>
        simp at h1 h2
        subst h1 h2
        rename_i s v _ _
        cases s with
        | val d => exact ⟨⟨v, rfl, h⟩, fun _ => rfl⟩
        | cask => obtain ⟨a, c1, rfl⟩ := h; exact ⟨⟨a, c1, rfl⟩, fun _ => rfl⟩
        | scr ns => obtain ⟨a, rfl, c1⟩ := h; exact ⟨⟨a, rfl, c1⟩, fun _ => rfl⟩
        | no => exact h.elim
        | ow ds => exact h.elim
        | tb qs rows => exact h.elim
      | succ i => exact ih i s v (by simpa using h1) (by simpa using h2)
  have noown : ∀ (i : Nat) (s : Sl) (o : Option (Option V)), (pad N as)[i]? = some s → s.adr o = [] := fun i s o h => by
    rcases get i _ h with z | ⟨v, _, h1, h2⟩
    · rw [z]; rfl
    · exact (rel ar i _ v h1 h2).2 o
  refine ⟨⟨e, ?_, fun i s h => ?_, fun i j si sj a h _ ha => by rw [noown i si _ h] at ha; simp at ha, ck⟩, fun a ⟨i, s, h, ha⟩ => by rw [noown i s _ h] at ha; simp at ha⟩
  · unfold pad L2.start
    simp only [List.length_append, List.length_map, List.length_replicate]
    omega
  · rcases get i s h with rfl | ⟨v, h0, h1, h2⟩
    · trivial
    · rw [h0]; exact (rel ar i s v h1 h2).1
theorem def_ok {x qual : Str} {st : Stmt} {f : Addr} {fd : FuncData} {N ps : List Str} {k : Nat} {S : Spec} (F : Fun K x qual st f fd) (SC : FnScope N ps (defScope st)) (len : ∀ as m Q, S as m Q → as.length = ps.length)
    (hbody : ∀ (cdv : Value) (A : Around) (outer : List Env) (s : Shared) (H : Hp) (E : XK), Room k (A.deeper (PyProof.Rows.envOfC qual (defScope st) s.heap.objs.size f cdv)) →
      ∃ d, GSs g (cxOf CX0 P w K mg base N qual (defScope st) f cdv A outer s H E).nox (defBody st) d ∧ ∀ as m Q, S as m Q → d (pad N as) m { nx := fun _ m' => Q .non m', rt := Q }) :
    FnOk P w K mg base CX0 (k + 1) f fd ps (spOf K g S) := by
  refine F.ok SC (fun vs H Q E h => ?_) (fun cdv A outer s H vs Q E hr h => ?_)
  · obtain ⟨c, F, as, m, Q', _, ar, _, hs, _⟩ := h
    rw [← ar.length]; exact len as m Q' hs
  · obtain ⟨c, F, as, m, Q', e, ar, ck, hs, kk⟩ := h
    obtain ⟨d, gs, hd⟩ := hbody cdv A outer s H E hr
    obtain ⟨rel, no⟩ := start_rel (N := N) e ar ck
    have toF : ∀ {O' : Addr → Prop} {F' H' : Hp}, Evo c (Own (pad N as) (L2.start N vs)) F H O' F' H' → Fresh c F H F' H' := fun v => ⟨v.ff, v.fh, fun a o h n => v.hh a o h n (no a), fun a o h => (v.new a o h).imp id fun z => z.elim id fun y => (no a y).elim, v.nc⟩
    refine ⟨_, gs, c, F, _, m, _, rel, hd as m Q' hs, ⟨fun σ' H' F' env' m' r' v q => ?_, fun _ _ _ _ _ _ _ q => q.elim, fun _ _ _ _ _ _ _ q => q.elim, fun v H' F' m' y ck' ev rp q => ?_⟩⟩
    · exact kk .non H' F' m' .non (toF v) r'.ck .non q
    · exact kk v H' F' m' y (toF ev) ck' rp q
end

/-! ### lists of one's own, changed -/
section
variable {K : PySem.W.Frag} {g : Gp} {c : Option Addr} {F F' H H' : Hp} {env : Env'} {m : Nat} {σ : St}
/-- a slot of one's own changed where it stands: its addresses stay, what they hold may change -/
theorem Rel.mutS {i : Nat} {s s' : Sl} {H' : Hp} (r : Rel K g c F env m σ H) (ho : env[i]? = some s) (ha : ∀ a, a ∈ s'.adr σ[i]? ↔ a ∈ s.adr σ[i]?) (hk : ∀ a, a ∉ s.adr σ[i]? → H' a = H a) (hs : SlR K g c F H' s' σ[i]?) :
    Rel K g c F (env.set i s') m σ H' ∧ Evo c (Own env σ) F H (Own (env.set i s') σ) F H' := by
  have hi : i < env.length := (List.getElem?_eq_some_iff.mp ho).1
  have sl := r.slot i s ho
  have np : ∀ a o, F a = some o → a ∉ s.adr σ[i]? := fun a o h z => by rw [(sl.at z).1] at h; cases h
  have sub : Ex F H' := fun a o h => by rw [hk a (np a o h)]; exact r.sub a o h
  have ck : Ck g c m F H' := fun a h => by
    obtain ⟨b1, zs, b2, b3⟩ := r.ck a h
    exact ⟨b1, zs, by rw [hk a fun z => (sl.at z).2.1 h]; exact b2, b3⟩
  have at' : ∀ (j : Nat) (sj : Sl) (a : Addr), (env.set i s')[j]? = some sj → a ∈ sj.adr σ[j]? → ∃ sk, env[j]? = some sk ∧ a ∈ sk.adr σ[j]? := fun j sj a h hm => by
    by_cases q : i = j
    · subst q
      rw [List.getElem?_set_self hi] at h
      cases h
      exact ⟨s, ho, (ha a).mp hm⟩
    · rw [List.getElem?_set_ne q] at h; exact ⟨sj, h, hm⟩
  refine ⟨⟨sub, by rw [List.length_set]; exact r.len, fun j sj h => ?_, fun j k sj sk a e1 e2 e3 e4 => ?_, ck⟩, fun _ _ h => h, sub, fun a o h n no => ?_, fun a o h => .inl h, r.nc, fun a ⟨j, sj, e1, e2⟩ => ?_⟩
  · by_cases q : i = j
    · subst q
      rw [List.getElem?_set_self hi] at h
      cases h
      exact hs
    · rw [List.getElem?_set_ne q] at h
      have w := r.slot j sj h
      exact w.keep (fun _ _ z => z) fun a hm => ⟨(w.at hm).1, hk a fun z => q (r.sep i j s sj a ho h z hm)⟩
  · obtain ⟨s1, h1, m1⟩ := at' j sj a e1 e3
    obtain ⟨s2, h2, m2⟩ := at' k sk a e2 e4
    exact r.sep j k s1 s2 a h1 h2 m1 m2
  · rw [hk a fun z => no ⟨i, s, ho, z⟩]; exact h
  · obtain ⟨s1, h1, m1⟩ := at' j sj a e1 e2
    exact ⟨r.ownc a ⟨j, s1, h1, m1⟩, .inl ⟨j, s1, h1, m1⟩⟩
theorem Rel.mutW {i : Nat} {ds ds' : D} {p : Addr} {ys : HO} (r : Rel K g c F env m σ H) (ho : env[i]? = some (.ow ds)) (hs : σ[i]? = some (some (.ref p))) (rl : ObR K g F ds' ys) :
    Rel K g c F (env.set i (.ow ds')) m σ (upd H p ys) ∧ Evo c (Own env σ) F H (Own (env.set i (.ow ds')) σ) F (upd H p ys) := by
  obtain ⟨p', xs, e, h1, h2, h3, h4⟩ := r.slot i _ ho
  rw [hs] at e
  cases e
  refine r.mutS ho (fun a => by rw [hs]; rfl) (fun a ha => ?_) ?_
  · rw [hs, show (Sl.ow ds).adr (some (some (.ref p))) = [p] from rfl, List.mem_singleton] at ha
    exact upd_ne ha
  · rw [hs]; exact ⟨p, ys, rfl, h1, upd_same, rl, h4⟩
theorem Rel.mut {i : Nat} {ds ds' : List D} {p : Addr} {ys : List V} (r : Rel K g c F env m σ H) (ho : env[i]? = some (.own ds)) (hs : σ[i]? = some (some (.ref p))) (rl : RepL K g F ds' ys) :
    Rel K g c F (env.set i (.own ds')) m σ (upd H p (.lst ys)) ∧ Evo c (Own env σ) F H (Own (env.set i (.own ds')) σ) F (upd H p (.lst ys)) := r.mutW ho hs ⟨ys, rfl, rl⟩
end
section
variable {g : Gp} {X : Cx} {e : Expr} {d : DE} {pos p1 p2 p3 : Pos}
theorem own_at {K : PySem.W.Frag} {c : Option Addr} {F H : Hp} {env : Env'} {m : Nat} {σ : St} {i : Nat} {ds : List D} (r : Rel K g c F env m σ H) (ho : env[i]? = some (.own ds)) : ∃ p xs, σ[i]? = some (some (.ref p)) ∧ H p = some (.lst xs) ∧ RepL K g F ds xs ∧ c ≠ some p := by
  obtain ⟨p, xs, e, _, h2, h3, h4⟩ := (r.slot i _ ho).own'
  exact ⟨p, xs, e, h2, h3, h4⟩
/-- x.append(e) -/
def dApp (i : Nat) (d : DE) : DS := fun env m E => ∃ ds, env[i]? = some (.own ds) ∧ d env m fun x m1 => ds.length < LL ∧ E.nx (env.set i (.own (ds ++ [x]))) m1
theorem gs_append (i : Nat) {x : Str} (he : GE g X e d) (hN : X.N[i]? = some x := by rfl) (hv : Vis X.env.scope x := by first | exact Or.inl rfl | exact Or.inr (Or.inl rfl) | exact Or.inr (Or.inr rfl)) (hd : (x == ("__debug__" : Str)) = false := by decide)
    (hcd : (x == ("__classdict__" : Str)) = false := by decide) (hs : starEach [e] X.env = (false, eval e X.env) :: starEach [] X.env := by rfl) (hbase : attributeBase (.Name x p1) "append" X.env (eval (.Name x p1) X.env) = eval (.Name x p1) X.env := by rfl)
    (hfew : ((backTo p3 (starEach [e] X.env)).all (fun x => !x.1) && (backToKw p3 (keywordEach [] X.env)).all (fun x => x.1.isSome) && decide ([e].length + ([] : List Keyword).length + (if ([] : List Keyword).isEmpty then 0 else 1) < 30)) = true := by rfl)
    (hline : (p2.endLine == p3.line) = true := by rfl) (hsw : swapsWith (.Call (.Attribute (.Name x p1) "append" p2) [e] [] p3) none pos.line X.env = pure false := by rfl) :
    GS g X (.Expr (.Call (.Attribute (.Name x p1) "append" p2) [e] [] p3) pos) (dApp i d) :=
  PS.weak (ps_expr (pe_bm PySem.F.plainAttrs_list PySem.F.slot_list_append PySem.F.type_list_append mt_append (pe_var hN hv hd hcd) (pa_cons he pa_nil hs) hbase hfew hline hs rfl) hsw) fun D σ H ⟨c, F, env, m, E, r, ⟨ds, ho, q⟩, o⟩ => by
    obtain ⟨p, xs, es, hp, rl, nc⟩ := own_at r ho
    refine ⟨.ref p, es, .inl ⟨rfl, xs, SqL.of hp⟩, c, F, env, m, _, r, q, fun v H1 F1 m1 y r1 f1 rp ⟨hl, q1⟩ => ?_⟩
    obtain ⟨p', xs', es', hp', rl', nc'⟩ := own_at r1 ho
    rw [es] at es'
    cases es'
    obtain ⟨r2, v2⟩ := r1.mut ho es (rl'.append (.cons rp .nil))
    exact ⟨p, xs', v, rfl, rfl, hp', ll' (by rw [rl'.length]; exact hl), o.nx σ _ F1 _ m1 r2 ((r.evo f1).trans v2) q1⟩
/-- x.append(y.pop(e)), both one's own -/
def dAppPop (i j : Nat) (d : DE) : DS := fun env m E => ∃ ds es, env[i]? = some (.own ds) ∧ env[j]? = some (.own es) ∧ i ≠ j ∧ d env m fun x m1 => ∃ (k : Nat) (y : D), x = .int k ∧ es[k]? = some y ∧ es.length ≤ LL ∧ ds.length < LL ∧ E.nx ((env.set j (.own (es.eraseIdx k))).set i (.own (ds ++ [y]))) m1
theorem gs_appendPop (i j : Nat) {x y : Str} {q1 q2 q3 : Pos} (he : GE g X e d) (hN : X.N[i]? = some x := by rfl) (hv : Vis X.env.scope x := by first | exact Or.inl rfl | exact Or.inr (Or.inl rfl) | exact Or.inr (Or.inr rfl)) (hd : (x == ("__debug__" : Str)) = false := by decide)
    (hcd : (x == ("__classdict__" : Str)) = false := by decide) (hN2 : X.N[j]? = some y := by rfl) (hv2 : Vis X.env.scope y := by first | exact Or.inl rfl | exact Or.inr (Or.inl rfl) | exact Or.inr (Or.inr rfl)) (hd2 : (y == ("__debug__" : Str)) = false := by decide)
    (hcd2 : (y == ("__classdict__" : Str)) = false := by decide) (hs : starEach [e] X.env = (false, eval e X.env) :: starEach [] X.env := by rfl)
    (hb2 : attributeBase (.Name y q1) "pop" X.env (eval (.Name y q1) X.env) = eval (.Name y q1) X.env := by rfl) (hl2 : (q2.endLine == q3.line) = true := by rfl)
    (hf2 : ((backTo q3 (starEach [e] X.env)).all (fun x => !x.1) && (backToKw q3 (keywordEach [] X.env)).all (fun x => x.1.isSome) && decide ([e].length + ([] : List Keyword).length + (if ([] : List Keyword).isEmpty then 0 else 1) < 30)) = true := by rfl)
    (hs1 : starEach [.Call (.Attribute (.Name y q1) "pop" q2) [e] [] q3] X.env = (false, eval (.Call (.Attribute (.Name y q1) "pop" q2) [e] [] q3) X.env) :: starEach [] X.env := by rfl)
    (hbase : attributeBase (.Name x p1) "append" X.env (eval (.Name x p1) X.env) = eval (.Name x p1) X.env := by rfl)
    (hfew : ((backTo p3 (starEach [.Call (.Attribute (.Name y q1) "pop" q2) [e] [] q3] X.env)).all (fun x => !x.1) && (backToKw p3 (keywordEach [] X.env)).all (fun x => x.1.isSome) && decide ([(.Call (.Attribute (.Name y q1) "pop" q2) [e] [] q3 : Expr)].length + ([] : List Keyword).length + (if ([] : List Keyword).isEmpty then 0 else 1) < 30)) = true := by rfl)
    (hline : (p2.endLine == p3.line) = true := by rfl) (hsw : swapsWith (.Call (.Attribute (.Name x p1) "append" p2) [.Call (.Attribute (.Name y q1) "pop" q2) [e] [] q3] [] p3) none pos.line X.env = pure false := by rfl) :
    GS g X (.Expr (.Call (.Attribute (.Name x p1) "append" p2) [.Call (.Attribute (.Name y q1) "pop" q2) [e] [] q3] [] p3) pos) (dAppPop i j d) :=
  PS.weak (ps_expr (pe_bm PySem.F.plainAttrs_list PySem.F.slot_list_append PySem.F.type_list_append mt_append (pe_var hN hv hd hcd) (pa_cons (pe_bm PySem.F.plainAttrs_list PySem.F.slot_list_pop PySem.F.type_list_pop mt_popAt (pe_var hN2 hv2 hd2 hcd2) (pa_cons he pa_nil hs) hb2 hf2 hl2 hs rfl) pa_nil hs1) hbase hfew hline hs1 rfl) hsw) fun D σ H ⟨c, F, env, m, E, r, ⟨ds, es, ho, ho2, hij, q⟩, o⟩ => by
    obtain ⟨p, xs, e1, hp, rl, nc⟩ := own_at r ho
    obtain ⟨p', xs', e2, hp', rl', nc'⟩ := own_at r ho2
    refine ⟨.ref p, e1, .inl ⟨rfl, xs, SqL.of hp⟩, .ref p', e2, .inl ⟨rfl, xs', SqL.of hp'⟩, c, F, env, m, _, r, q, fun v H1 F1 m1 w r1 f1 rp ⟨k, y, ew, hy, hl, hl2, q1⟩ => ?_⟩
    subst ew
    cases rp
    obtain ⟨pa, xa, ea, ha, ra, na⟩ := own_at r1 ho2
    rw [e2] at ea
    cases ea
    obtain ⟨u, hu, ru⟩ := ra.get hy
    have hk : k < xa.length := (List.getElem?_eq_some_iff.mp hu).1
    have hxl : xa.length ≤ LL := by rw [ra.length]; exact hl
    obtain ⟨r2, v2⟩ := r1.mut ho2 e2 (ra.eraseIdx k)
    have ho' : (env.set j (.own (es.eraseIdx k)))[i]? = some (.own ds) := by rw [List.getElem?_set_ne (Ne.symm hij)]; exact ho
    obtain ⟨pb, xb, eb, hb, rb, nb⟩ := own_at r2 ho'
    rw [e1] at eb
    cases eb
    obtain ⟨r3, v3⟩ := r2.mut ho' e1 (rb.append (.cons ru .nil))
    have hk2 : (k : Int) < 2 ^ 63 := by
      have : k < 100000 := Nat.lt_of_lt_of_le hk hxl
      omega
    refine ⟨p', xa, (k : Int), k, u, rfl, rfl, ha, by omega, hk2, PySem.seqIndex_of (by omega) (by omega), hu, p, xb, u, rfl, rfl, hb, ll' (by rw [rb.length]; exact hl2), o.nx σ _ F1 _ m1 r3 (((r.evo f1).trans v2).trans v3) q1⟩
end
end G
namespace G
open PySem L2

/-! ### methods of lists and texts, by data -/
def D.isL : D → Bool | .lst _ => true | _ => false
def D.isS : D → Bool | .str _ => true | _ => false
def MtD (K : PySem.W.Frag) (g : Gp) (r : V → List V → Hp → VK → Prop) (f : D → List D → Option D) : Prop := ∀ (c : Option Addr) (F H : Hp) (x : D) (xs : List D) (z : D) (v : V) (vs : List V) (Q' : VK), Ex F H → (∀ a, c = some a → F a = none) →
  RepT K g c F H x v → RepTs K g c F H xs vs → f x xs = some z → (∀ v' H' F', New F H F' H' → Rep K g F' z v' → Q' v' H') → r v vs H Q'
def dMt (p : D → Bool) (f : D → List D → Option D) (d : DE) (dl : DL) : DE := fun env m Q => d env m fun x m1 => p x = true ∧ dl env m1 fun xs m2 => ∃ z, f x xs = some z ∧ Q z m2
section
variable {K : PySem.W.Frag} {g : Gp} {X : Cx} {e o : Expr} {es : List Expr} {dl : DL} {d : DE} {pos apos cpos p : Pos} {x : Str}
theorem mt_weak {T : String} {P : D → Bool} {r : V → List V → Hp → VK → Prop} {f : D → List D → Option D} (md : MtD X.K g r f) (ty : ∀ (c : Option Addr) (F H : Hp) (x : D) (v : V), P x = true → RepT X.K g c F H x v → tyV X.K T v H) :
    ∀ σ H Q, tD X.K g (dMt P f d dl) σ H Q → tBM X.K T r (tB X.K g d) (tAb X.K g dl) σ H Q := fun σ H Q ⟨c, F, env, m, Q1, rl, hd, k⟩ =>
  ⟨c, F, env, m, _, rl, hd, fun v H1 F1 m1 x r1 f1 rp ⟨hp, q1⟩ => ⟨ty c F1 H1 x v hp rp, c, F1, env, m1, _, r1, q1, fun vs H2 F2 m2 xs r2 f2 rps ⟨z, hz, q2⟩ =>
    md c F2 H2 x xs z v vs Q r2.sub r2.nc (rp.mono f2) rps hz fun v' H' F' n rp' => k v' H' F' m2 z (r2.new n) ((f1.trans f2).trans (n.fresh r2.ck)) rp' q2⟩⟩
theorem ty_list {c : Option Addr} {F H : Hp} {x : D} {v : V} (h : x.isL = true) (r : RepT K g c F H x v) : tyV K "list" v H := by
  cases x with
  | lst ds => obtain ⟨p, xs, rfl, h1, _, _⟩ := r; exact .inl ⟨rfl, xs, SqL.of h1⟩
  | _ => cases h
theorem ty_str {c : Option Addr} {F H : Hp} {x : D} {v : V} (h : x.isS = true) (r : RepT K g c F H x v) : tyV K "str" v H := by
  cases x with
  | str s => rw [r.str']; exact rfl
  | _ => cases h
theorem ge_mtL {name : Str} {id : String} {r : V → List V → Hp → VK → Prop} {f : D → List D → Option D} (slot : Slot "list" name id) (hty : typeOf (.builtin id) = pure (.type "method_descriptor")) (hm : MtR X id r) (md : MtD X.K g r f) (ho : GB g X o d) (ha : GAb g X (e :: es) dl)
    (hbase : attributeBase o name X.env (eval o X.env) = eval o X.env := by rfl)
    (hfew : ((backTo cpos (starEach (e :: es) X.env)).all (fun x => !x.1) && (backToKw cpos (keywordEach [] X.env)).all (fun x => x.1.isSome) && decide ((e :: es).length + ([] : List Keyword).length + (if ([] : List Keyword).isEmpty then 0 else 1) < 30)) = true := by rfl)
    (hline : (apos.endLine == cpos.line) = true := by rfl) (hs : starEach (e :: es) X.env = (false, eval e X.env) :: starEach es X.env := by rfl) (hplain : (backTo cpos (starEach es X.env)).any (·.1) = false := by rfl) :
    GE g X (.Call (.Attribute o name apos) (e :: es) [] cpos) (dMt D.isL f d dl) := PE.weak (pe_bm PySem.F.plainAttrs_list slot hty hm ho ha hbase hfew hline hs hplain) (mt_weak md fun _ _ _ _ _ => ty_list)
theorem ge_mtS {name : Str} {id : String} {r : V → List V → Hp → VK → Prop} {f : D → List D → Option D} (slot : Slot "str" name id) (hty : typeOf (.builtin id) = pure (.type "method_descriptor")) (hm : MtR X id r) (md : MtD X.K g r f) (ho : GB g X o d) (ha : GAb g X (e :: es) dl)
    (hbase : attributeBase o name X.env (eval o X.env) = eval o X.env := by rfl)
    (hfew : ((backTo cpos (starEach (e :: es) X.env)).all (fun x => !x.1) && (backToKw cpos (keywordEach [] X.env)).all (fun x => x.1.isSome) && decide ((e :: es).length + ([] : List Keyword).length + (if ([] : List Keyword).isEmpty then 0 else 1) < 30)) = true := by rfl)
    (hline : (apos.endLine == cpos.line) = true := by rfl) (hs : starEach (e :: es) X.env = (false, eval e X.env) :: starEach es X.env := by rfl) (hplain : (backTo cpos (starEach es X.env)).any (·.1) = false := by rfl) :
    GE g X (.Call (.Attribute o name apos) (e :: es) [] cpos) (dMt D.isS f d dl) := PE.weak (pe_bm PySem.F.plainAttrs_str slot hty hm ho ha hbase hfew hline hs hplain) (mt_weak md fun _ _ _ _ _ => ty_str)
/-! join -/
def strsD : List D → Option (List Str)
  | [] => some []
  | .str s :: r => (strsD r).map (s :: ·)
  | _ :: _ => none
theorem strsD_map : ∀ {ds : List D} {bs : List Str}, strsD ds = some bs → ds = bs.map D.str
  | [], _, h => by cases h; rfl
  | .str b :: r, bs, h => by
    obtain ⟨cs, h1, rfl⟩ := Option.map_eq_some_iff.mp h
    rw [strsD_map h1]; rfl
  | .non :: _, _, h => by cases h
  | .int _ :: _, _, h => by cases h
  | .bl _ :: _, _, h => by cases h
  | .tup _ :: _, _, h => by cases h
  | .lst _ :: _, _, h => by cases h
  | .dic _ :: _, _, h => by cases h
  | .web _ _ :: _, _, h => by cases h
theorem strsD_of (bs : List Str) : strsD (bs.map D.str) = some bs := by
  induction bs with
  | nil => rfl
  | cons b r ih => rw [List.map_cons]; unfold strsD; rw [ih]; rfl
def joinOk (a : Str) (ys : List Str) : Bool := decide ((ys.map (·.length)).sum + ys.length * a.length ≤ 16777216)
def joinD : D → List D → Option D
  | .str a, [.lst ds] => (strsD ds).bind fun ys => if joinOk a ys then some (.str (Txt.join a ys)) else none
  | .str a, [.tup ds] => (strsD ds).bind fun ys => if joinOk a ys then some (.str (Txt.join a ys)) else none
  | _, _ => none
theorem md_join : MtD K g (fun x xs H Q => ∃ a p, ∃ ys : List Str, x = .str a ∧ xs = [.ref p] ∧ (SqL K H p (ys.map V.str) ∨ SqT K H p (ys.map V.str)) ∧
    (ys.map (·.length)).sum + ys.length * a.length ≤ 16777216 ∧ Q (.str (Txt.join a ys)) H) joinD := fun c F H x xs z v vs Q' e nc rx rs hz k => by
  unfold joinD at hz
  split at hz
  · obtain ⟨ys, h1, h2⟩ := Option.bind_eq_some_iff.mp hz
    split at h2
    · rename_i ok
      cases h2
      have := strsD_map h1
      subst this
      cases rs with
      | cons h t =>
        cases t
        obtain ⟨p, ws, rfl, g1, g2, _⟩ := h
        have := repL_strs g2
        subst this
        exact ⟨_, p, ys, rx.str', rfl, .inl (SqL.of g1), of_decide_eq_true ok, k _ H F (New.refl e) (.str _)⟩
    · cases h2
  · obtain ⟨ys, h1, h2⟩ := Option.bind_eq_some_iff.mp hz
    split at h2
    · rename_i ok
      cases h2
      have := strsD_map h1
      subst this
      cases rs with
      | cons h t =>
        cases t
        obtain ⟨p, ws, rfl, g1, g2⟩ := h.tup'
        have := repL_strs g2
        subst this
        exact ⟨_, p, ys, rx.str', rfl, .inr (Evl.ex_t e g1), of_decide_eq_true ok, k _ H F (New.refl e) (.str _)⟩
    · cases h2
  · cases hz
/-! count, index: items that are flat -/
def D.fv : D → Option V | .non => some .non | .bl b => some (.bl b) | .int i => some (.int i) | .str s => some (.str s) | _ => none
def flats : List D → Option (List V)
  | [] => some []
  | d :: r => d.fv.bind fun v => (flats r).map (v :: ·)
theorem flat_rep {F : Hp} {x : D} {v w : V} (h : x.fv = some v) (r : Rep K g F x w) : w = v ∧ flatV v = true := by
  cases x <;> simp only [D.fv] at h <;> first | (cases h; cases r; exact ⟨rfl, rfl⟩) | cases h
theorem flat_repT {c : Option Addr} {F H : Hp} {x : D} {v w : V} (h : x.fv = some v) (r : RepT K g c F H x w) : w = v ∧ flatV v = true := by
  cases x with
  | lst ds => cases h
  | non => exact flat_rep (g := g) (K := K) (F := F) h r
  | bl _ => exact flat_rep (g := g) (K := K) (F := F) h r
  | int _ => exact flat_rep (g := g) (K := K) (F := F) h r
  | str _ => exact flat_rep (g := g) (K := K) (F := F) h r
  | tup _ => cases h
  | dic _ => cases h
  | web _ _ => cases h
theorem flats_rep {F : Hp} : ∀ {ds : List D} {vs ws : List V}, flats ds = some vs → RepL K g F ds ws → ws = vs ∧ vs.all flatV = true
  | [], _, _, h, .nil => by cases h; exact ⟨rfl, rfl⟩
  | d :: r, vs, _, h, .cons h1 t1 => by
    obtain ⟨v, e1, e2⟩ := Option.bind_eq_some_iff.mp h
    obtain ⟨us, e3, rfl⟩ := Option.map_eq_some_iff.mp e2
    obtain ⟨a1, a2⟩ := flat_rep e1 h1
    obtain ⟨b1, b2⟩ := flats_rep e3 t1
    exact ⟨by rw [a1, b1], by rw [List.all_cons, a2, b2]; rfl⟩
def countD : D → List D → Option D
  | .lst ds, [x] => (flats ds).bind fun vs => x.fv.map fun v => .int ((vs.countP fun z => eqV z v : Nat))
  | _, _ => none
theorem md_count : MtD K g (rCntF K) countD := fun c F H x xs z v vs Q' e nc rx rs hz k => by
  unfold countD at hz
  split at hz
  · obtain ⟨ws, h1, h2⟩ := Option.bind_eq_some_iff.mp hz
    obtain ⟨w, h3, rfl⟩ := Option.map_eq_some_iff.mp h2
    obtain ⟨p, ys, rfl, g1, g2, _⟩ := rx
    obtain ⟨rfl, fl⟩ := flats_rep h1 g2
    cases rs with
    | cons h t =>
      cases t
      obtain ⟨rfl, fv⟩ := flat_repT h3 h
      exact ⟨p, ys, _, rfl, rfl, SqL.of g1, fv, fl, k _ H F (New.refl e) (.int _)⟩
  · cases hz
def indexD : D → List D → Option D
  | .lst ds, [x] => (flats ds).bind fun vs => x.fv.bind fun v => (vs.findIdx? fun z => eqV z v).map fun (i : Nat) => .int i
  | _, _ => none
theorem md_index : MtD K g (rIndex K) indexD := fun c F H x xs z v vs Q' e nc rx rs hz k => by
  unfold indexD at hz
  split at hz
  · obtain ⟨ws, h1, h2⟩ := Option.bind_eq_some_iff.mp hz
    obtain ⟨w, h3, h4⟩ := Option.bind_eq_some_iff.mp h2
    obtain ⟨i, h5, rfl⟩ := Option.map_eq_some_iff.mp h4
    obtain ⟨p, ys, rfl, g1, g2, _⟩ := rx
    obtain ⟨rfl, fl⟩ := flats_rep h1 g2
    cases rs with
    | cons h t =>
      cases t
      obtain ⟨rfl, fv⟩ := flat_repT h3 h
      rw [List.findIdx?_eq_some_iff_getElem] at h5
      obtain ⟨l1, l2, l3⟩ := h5
      refine ⟨p, ys, _, i, ys[i], rfl, rfl, SqL.of g1, fv, fl, List.getElem?_eq_getElem l1, l2, fun j z' hj hz' => ?_, k _ H F (New.refl e) (.int _)⟩
      obtain ⟨hl, rfl⟩ := List.getElem?_eq_some_iff.mp hz'
      simpa using l3 j hj
  · cases hz

/-! ### attributes of a web -/
def dPl (d : DE) : DE := fun env m Q => d env m fun x m1 => ∃ pl ts, x = .web pl ts ∧ Q (.str pl) m1
def dTs (d : DE) : DE := fun env m Q => d env m fun x m1 => ∃ pl ts, x = .web pl ts ∧ Q (.tup (ts.map D.str)) m1
theorem ge_places (hc : Cls X.K g.Cw) (hn : NoAttr X.K g.Cw "places") (he : GE g X e d) (hb : attributeBase e "places" X.env (eval e X.env) = eval e X.env := by rfl) : GE g X (.Attribute e "places" pos) (dPl d) :=
  PE.weak (pe_fld he hb) fun σ H Q ⟨c, F, env, m, Q1, rl, hd, k⟩ => ⟨c, F, env, m, _, rl, hd, fun v H1 F1 m1 x r1 f1 rp ⟨pl, ts, ex, q⟩ => by
    subst ex
    cases rp with
    | web h1 h2 => exact ⟨_, _, _, _, _, rfl, r1.sub _ _ h1, hc, hn, rfl, k _ H1 F1 m1 _ r1 f1 (.str _) q⟩⟩
theorem ge_ties (hc : Cls X.K g.Cw) (hn : NoAttr X.K g.Cw "ties") (he : GE g X e d) (hb : attributeBase e "ties" X.env (eval e X.env) = eval e X.env := by rfl) : GE g X (.Attribute e "ties" pos) (dTs d) :=
  PE.weak (pe_fld he hb) fun σ H Q ⟨c, F, env, m, Q1, rl, hd, k⟩ => ⟨c, F, env, m, _, rl, hd, fun v H1 F1 m1 x r1 f1 rp ⟨pl, ts, ex, q⟩ => by
    subst ex
    cases rp with
    | web h1 h2 => exact ⟨_, _, _, _, _, rfl, r1.sub _ _ h1, hc, hn, rfl, k _ H1 F1 m1 _ r1 f1 (.tup h2 (repL_of_strs _)) q⟩⟩

/-! ### isinstance -/
def tyD (g : Gp) : D → Value
  | .non => .type "NoneType" | .bl _ => .type "bool" | .int _ => .type "int" | .str _ => .type "str" | .tup _ => .type "tuple" | .lst _ => .type "list" | .dic _ => .type "dict" | .web _ _ => .ref g.Cw
structure WebTy (K : PySem.W.Frag) (g : Gp) : Prop where
  cls : Cls K g.Cw
  ha : PySem.W.findIn K (.ref g.Cw) "__class__" = some (some (.builtin "object.__class__"))
  hn : PySem.W.specialIn K (.builtin "object.__class__") "__get__" = some (some (.builtin "getset_descriptor.__get__"))
  htk : PySem.W.takesIn K (.builtin "object.__class__") = true
  hm : PySem.W.mroIn K g.Cw (.type "object") = some true
theorem tyx_tup {H : Hp} {a : Addr} {xs : List V} (h : SqT K H a xs) : TyX K H (.ref a) (.type "tuple") := by
  rcases h with (h | ⟨o, h⟩) | ⟨o, its, n, h1, h2, _⟩
  · exact .base (.tup h)
  · exact .fTuple h
  · exact .kTuple h1 h2
theorem tyx_of (W : WebTy K g) {c : Option Addr} {F H : Hp} {x : D} {v : V} (e : Ex F H) (r : RepT K g c F H x v) : TyX K H v (tyD g x) := by
  cases x with
  | non => rw [r.non']; exact .base .non
  | bl b => rw [r.bl']; exact .base (.bl b)
  | int b => rw [r.int']; exact .base (.int b)
  | str b => rw [r.str']; exact .base (.str b)
  | tup ds => obtain ⟨a, xs, rfl, h1, _⟩ := r.tup'; exact tyx_tup (Evl.ex_t e h1)
  | lst ds => obtain ⟨a, xs, rfl, h1, _⟩ := r; exact .base (.lst h1)
  | dic ds => obtain ⟨a, xs, rfl, h1, _⟩ := r.dic'; exact .base (.dK h1)
  | web p t => obtain ⟨a, _, _, rfl, h1, _⟩ := r.web'; exact .base (.ins (e _ _ h1) W.cls W.ha W.hn W.htk W.hm)
def dIsi (f : D → Option Bool) (d : DE) : DE := fun env m Q => d env m fun x m1 => ∃ b, f x = some b ∧ Q (.bl b) m1
theorem ge_isi {cx : Expr} {cv : V} {u : Value} {f : D → Option Bool} (W : WebTy X.K g) (cl : ClsV cv u) (hcx : PE X cx (tC cv)) (hf : ∀ x b, f x = some b → PySem.W.kitOne X.K (tyD g x) u = some b) (hg : Gl X "isinstance") (hm : X.mg "isinstance" = none)
    (he : GB g X e d) (hs : starEach [e, cx] X.env = (false, eval e X.env) :: starEach [cx] X.env := by rfl) (hs2 : starEach [cx] X.env = (false, eval cx X.env) :: starEach [] X.env := by rfl) :
    GE g X (.Call (.Name "isinstance" p) [e, cx] [] pos) (dIsi f d) :=
  PE.weak (pe_callB call_isi hg hm rfl (pa_cons he (pa_cons hcx pa_nil hs2) hs) (by decide) (by decide) hs (by rw [hs2]; rfl)) fun σ H Q ⟨c, F, env, m, Q1, rl, hd, k⟩ =>
    ⟨c, F, env, m, _, rl, hd, fun v H1 F1 m1 x r1 f1 rp ⟨b, hb, q⟩ => ⟨v, cv, _, u, b, rfl, cl, tyx_of W r1.sub rp, hf x b hb, k _ H1 F1 m1 _ r1 f1 (.bl b) q⟩⟩
def isStrD : D → Option Bool | .str _ => some true | _ => none
def isTupD : D → Option Bool | .tup _ => some true | _ => none
def isWebD : D → Option Bool | .web _ _ => some true | _ => none

/-! ### slices of lists: xs[i:] -/
def dDrop' (d di : DE) : DL := fun env m Q => d env m fun x m1 => di env m1 fun y m2 => ∃ ds, ∃ i : Nat, x = .lst ds ∧ y = .int i ∧ Q (ds.drop i) m2
theorem sIx_nat (n i : Nat) : HT.sIx n 0 (some (i : Int)) = min i n := by
  unfold HT.sIx
  simp
  omega
theorem cutV_drop (xs : List V) (i : Nat) : cutV xs (some (i : Int)) none = xs.drop i := by
  unfold cutV
  rw [sIx_nat]
  have : HT.sIx xs.length xs.length none = xs.length := rfl
  rw [this]
  by_cases h : i ≤ xs.length
  · rw [Nat.min_eq_left h, List.take_of_length_le (by rw [List.length_drop]; omega)]
  · rw [Nat.min_eq_right (by omega), List.drop_length, List.drop_eq_nil_of_le (by omega), List.take_nil]
theorem gn_drop {lo : Expr} {di : DE} {p2 : Pos} (he : GB g X e d) (hl : GE g X lo di) : GN g X (.Subscript e (.Slice (some lo) none none p2) pos) (dDrop' d di) :=
  PE.weak (pe_slice sl_list he (po_some hl) po_none) fun σ H Q ⟨c, F, env, m, Q1, rl, hd, k⟩ =>
    ⟨c, F, env, m, _, rl, hd, fun v H1 F1 m1 x r1 f1 rp q1 => ⟨c, F1, env, m1, _, r1, q1, fun w H2 F2 m2 y r2 f2 rp2 ⟨ds, i, ex, ey, q⟩ => by
      subst ex ey
      cases rp2
      obtain ⟨p, xs, rfl, h1, h2, h3⟩ := rp.mono f2
      refine ⟨(i : Int), rfl, p, xs, rfl, SqL.of h1, fun l hl => ?_⟩
      have hc : c ≠ some l := fun z => by obtain ⟨_, _, e, _⟩ := r2.ck l z; rw [e] at hl; cases hl
      have n := New.lay (F := F2) (o := .lst (cutV xs (some (i : Int)) none)) r2.sub hl
      have f12 := f1.trans f2
      have h0 : H l = none := by
        cases z : H l with
        | none => rfl
        | some o => rw [f12.hh l o z hc] at hl; cases hl
      exact k l _ F2 m2 (ds.drop i) _ (r2.new n) (f12.trans (n.fresh r2.ck)) h0 (ex_none r2.sub hl) hc upd_same (by rw [cutV_drop]; exact h2.drop i) q⟩⟩

/-! ### sorted(set(t)), t a tuple of few ints -/
def intsD : List D → Option (List Int)
  | [] => some []
  | .int i :: r => (intsD r).map (i :: ·)
  | _ :: _ => none
theorem intsD_map : ∀ {ds : List D} {bs : List Int}, intsD ds = some bs → ds = bs.map D.int
  | [], _, h => by cases h; rfl
  | .int b :: r, bs, h => by
    obtain ⟨cs, h1, rfl⟩ := Option.map_eq_some_iff.mp h
    rw [intsD_map h1]; rfl
  | .non :: _, _, h => by cases h
  | .str _ :: _, _, h => by cases h
  | .bl _ :: _, _, h => by cases h
  | .tup _ :: _, _, h => by cases h
  | .lst _ :: _, _, h => by cases h
  | .dic _ :: _, _, h => by cases h
  | .web _ _ :: _, _, h => by cases h
theorem intsD_of (bs : List Int) : intsD (bs.map D.int) = some bs := by
  induction bs with
  | nil => rfl
  | cons b r ih => rw [List.map_cons]; unfold intsD; rw [ih]; rfl
def dSortSet (d : DE) : DL := fun env m Q => d env m fun x m1 => ∃ ns : List Int, x = .tup (ns.map D.int) ∧ ns.length ≤ 50 ∧ ∀ ms : List Int, ms.Pairwise (· < ·) → (∀ k, k ∈ ms ↔ k ∈ ns) → Q (ms.map D.int) m1
theorem gn_sortSet {p2 pos2 : Pos} (hc : X.calm = true) (hg : Gl X "sorted") (hm : X.mg "sorted" = none) (hg2 : Gl X "set") (hm2 : X.mg "set" = none) (he : GE g X e d) (hs : starEach [e] X.env = (false, eval e X.env) :: starEach [] X.env := by rfl)
    (hs2 : starEach [.Call (.Name "set" p2) [e] [] pos2] X.env = (false, eval (.Call (.Name "set" p2) [e] [] pos2) X.env) :: starEach [] X.env := by rfl) :
    GN g X (.Call (.Name "sorted" p) [.Call (.Name "set" p2) [e] [] pos2] [] pos) (dSortSet d) :=
  PE.weak (pe_callB (cr_sortedSet hc) hg hm rfl (pa_cons (pe_callTy (cr_setTup hc) hg2 hm2 rfl (pa_cons he pa_nil hs) (by decide) (by decide) hs rfl) pa_nil hs2) (by decide) (by decide) hs2 rfl) fun σ H Q ⟨c, F, env, m, Q1, rl, hd, k⟩ =>
    ⟨c, F, env, m, _, rl, hd, fun v H1 F1 m1 x r1 f1 rp ⟨ns, ex, hn, q⟩ => by
      subst ex
      cases rp with
      | tup h1 h2 =>
        have := repL_ints h2
        subst this
        refine ⟨_, ns, rfl, Evl.ex_t r1.sub h1, hn, fun a n ha hle => ⟨a, _, n, rfl, upd_same, by omega, fun ms l hp hm hl hfree => ?_⟩⟩
        have n1 := New.lay (F := F1) (o := SetO X.w a (fun j => decide (j ∈ ns)) n) r1.sub ha
        have r2 := r1.new n1
        have n2 := New.lay (F := F1) (o := .lst (ms.map V.int)) r2.sub hfree
        have hcl : c ≠ some l := fun z => by obtain ⟨_, _, e, _⟩ := r2.ck l z; rw [e] at hfree; cases hfree
        have f2 := (f1.trans (n1.fresh r1.ck)).trans (n2.fresh r2.ck)
        have h0 : H l = none := by
          cases z : H l with
          | none => rfl
          | some o => rw [(f1.trans (n1.fresh r1.ck)).hh l o z hcl] at hfree; cases hfree
        exact k l _ F1 m1 _ _ (r2.new n2) f2 h0 (ex_none r2.sub hfree) hcl upd_same (repL_of_ints ms) (q ms hp fun j => by rw [hm j]; simp)⟩
end
end G
namespace G
open PySem L2

/-! ### two at once, some of them lists of one's own -/
section
variable {g : Gp} {X : Cx} {a b : Expr} {d : DE} {dl dl2 : DL} {pos : Pos}
theorem fresh_keeps {c : Option Addr} {F H F' H' : Hp} {p : Addr} {xs : List V} (f : Fresh c F H F' H') (hF : F p = none) (hH : H p = some (.lst xs)) (hc : c ≠ some p) : F' p = none ∧ H' p = some (.lst xs) := by
  refine ⟨?_, f.hh _ _ hH hc⟩
  cases z : F' p with
  | none => rfl
  | some o =>
    rcases f.new p o z with y | y
    · rw [hF] at y; cases y
    · rw [hH] at y; cases y
theorem not_own {K : PySem.W.Frag} {c : Option Addr} {F H : Hp} {env : Env'} {m : Nat} {σ : St} {p : Addr} (r : Rel K g c F env m σ H) (h : H p = none) : ¬ Own env σ p := fun z => by
  obtain ⟨_, _, y⟩ := r.ownH z
  rw [h] at y; cases y
/-- a, b = e, [..] -/
def dParEN (i j : Nat) (d : DE) (dl : DL) : DS := fun env m E => d env m fun x m1 => dl env m1 fun ds m2 => E.nx ((env.set i (.val x)).set j (.own ds)) m2
theorem gs_parEN {i j : Nat} {x y : Str} {px py pt : Pos} {kt k2 pt2} (hc : X.calm = true) (hN : X.N.Nodup) (hi : X.N[i]? = some x) (hj : X.N[j]? = some y) (hij : i ≠ j)
    (hx : X.env.scope.names.lookup x = some .local) (hy : X.env.scope.names.lookup y = some .local) (ha : GE g X a d) (hb : GN g X b dl)
    (hw : swappedStores [.Tuple [.Name x px, .Name y py] kt pt] (.Tuple [a, b] k2 pt2) X.env = pure (some [x, y]))
    (hs : swapsWithSole [.Tuple [.Name x px, .Name y py] kt pt] (.Tuple [a, b] k2 pt2) pos.line X.env = pure false := by rfl)
    (h1 : starEach [a, b] X.env = (false, eval a X.env) :: starEach [b] X.env := by rfl) (h2 : starEach [b] X.env = (false, eval b X.env) :: starEach [] X.env := by rfl) :
    GS g X (.Assign [.Tuple [.Name x px, .Name y py] kt pt] (.Tuple [a, b] k2 pt2) pos) (dParEN i j d dl) := PS.weak (ps_par hc hN hi hj hij hx hy (pa_cons ha (pa_cons hb pa_nil h2) h1) hw hs) fun D σ H ⟨c, F, env, m, E, r, h, o⟩ =>
  ⟨c, F, env, m, _, r, h, fun v H1 F1 m1 z r1 f1 rp q1 => ⟨c, F1, env, m1, _, r1, q1, fun p H2 F2 m2 ds xs r2 f2 h0 hp hcp hH rl q2 => by
    have no : ¬ Own env σ p := not_own r1 h0
    have no2 : ¬ Own (env.set i (.val z)) (σ.set i (some v)) p := fun w => no (own_set r.len sl_no w)
    refine ⟨v, .ref p, rfl, o.nx _ H2 F2 _ m2 ((r2.setV (rp.mono f2.ff)).setO hp hH rl hcp no2) ?_ q2⟩
    have e := r.evo (f1.trans f2)
    refine ⟨e.ff, e.fh, e.hh, e.new, e.nc, fun w hw => ?_⟩
    rcases own_setO (by rw [List.length_set, List.length_set, r.len]) hw with rfl | hw
    · refine ⟨hcp, .inr ?_⟩
      cases y : H w with
      | none => rfl
      | some u => rw [f1.hh w u y hcp] at h0; cases h0
    · exact e.own w (own_set r.len sl_no hw)⟩⟩
/-- a, b = [..], [..] -/
def dParNN (i j : Nat) (dl dl2 : DL) : DS := fun env m E => dl env m fun ds m1 => dl2 env m1 fun es m2 => E.nx ((env.set i (.own ds)).set j (.own es)) m2
theorem nn_rel {K : PySem.W.Frag} {c : Option Addr} {F H F1 H1 F2 H2 : Hp} {env : Env'} {m m2 : Nat} {σ : St} {p q : Addr} {ds es : List D} {xs ys : List V} {i j : Nat} (hij : i ≠ j) (r : Rel K g c F env m σ H) (f1 : Fresh c F H F1 H1) (h0 : H p = none) (hp : F1 p = none) (hcp : c ≠ some p) (hH : H1 p = some (.lst xs)) (rl : RepL K g F1 ds xs)
    (r2 : Rel K g c F2 env m2 σ H2) (f2 : Fresh c F1 H1 F2 H2) (h0' : H1 q = none) (hq : F2 q = none) (hcq : c ≠ some q) (hH2 : H2 q = some (.lst ys)) (rl2 : RepL K g F2 es ys) :
    Rel K g c F2 ((env.set i (.own ds)).set j (.own es)) m2 ((σ.set i (some (.ref p))).set j (some (.ref q))) H2 ∧ Evo c (Own env σ) F H (Own ((env.set i (.own ds)).set j (.own es)) ((σ.set i (some (.ref p))).set j (some (.ref q)))) F2 H2 := by
  obtain ⟨k1, k2⟩ := fresh_keeps f2 hp hH hcp
  have hq0 : H q = none := by
    cases y : H q with
    | none => rfl
    | some u => rw [f1.hh q u y hcq] at h0'; cases h0'
  have ne : q ≠ p := fun z => by subst z; rw [hH] at h0'; cases h0'
  have no : ¬ Own env σ p := not_own r h0
  have ra := r2.setO (i := i) k1 k2 (rl.mono f2.ff) hcp no
  have no2 : ¬ Own (env.set i (.own ds)) (σ.set i (some (.ref p))) q := fun w => by
    rcases own_setO r.len w with rfl | w
    · exact ne rfl
    · exact not_own r hq0 w
  have rb := ra.setO (i := j) hq hH2 rl2 hcq no2
  refine ⟨rb, ?_⟩
  have e := r.evo (f1.trans f2)
  refine ⟨e.ff, e.fh, e.hh, e.new, e.nc, fun w hw => ?_⟩
  rcases own_setO (by rw [List.length_set, List.length_set, r.len]) hw with rfl | hw
  · exact ⟨hcq, .inr hq0⟩
  · rcases own_setO r.len hw with rfl | hw
    · exact ⟨hcp, .inr h0⟩
    · exact e.own w hw
theorem gs_parNN {i j : Nat} {x y : Str} {px py pt : Pos} {kt k2 pt2} (hc : X.calm = true) (hN : X.N.Nodup) (hi : X.N[i]? = some x) (hj : X.N[j]? = some y) (hij : i ≠ j)
    (hx : X.env.scope.names.lookup x = some .local) (hy : X.env.scope.names.lookup y = some .local) (ha : GN g X a dl) (hb : GN g X b dl2)
    (hw : swappedStores [.Tuple [.Name x px, .Name y py] kt pt] (.Tuple [a, b] k2 pt2) X.env = pure (some [x, y]))
    (hs : swapsWithSole [.Tuple [.Name x px, .Name y py] kt pt] (.Tuple [a, b] k2 pt2) pos.line X.env = pure false := by rfl)
    (h1 : starEach [a, b] X.env = (false, eval a X.env) :: starEach [b] X.env := by rfl) (h2 : starEach [b] X.env = (false, eval b X.env) :: starEach [] X.env := by rfl) :
    GS g X (.Assign [.Tuple [.Name x px, .Name y py] kt pt] (.Tuple [a, b] k2 pt2) pos) (dParNN i j dl dl2) := PS.weak (ps_par hc hN hi hj hij hx hy (pa_cons ha (pa_cons hb pa_nil h2) h1) hw hs) fun D σ H ⟨c, F, env, m, E, r, h, o⟩ =>
  ⟨c, F, env, m, _, r, h, fun p H1 F1 m1 ds xs r1 f1 h0 hp hcp hH rl q1 => ⟨c, F1, env, m1, _, r1, q1, fun q H2 F2 m2 es ys r2 f2 h0' hq hcq hH2 rl2 q2 => by
    obtain ⟨rb, e⟩ := nn_rel (i := i) (j := j) hij r f1 h0 hp hcp hH rl r2 f2 h0' hq hcq hH2 rl2
    exact ⟨.ref p, .ref q, rfl, o.nx _ H2 F2 _ m2 rb e q2⟩⟩⟩
/-- the same, not plain locals -/
theorem gs_asgNN {i j : Nat} {x y : Str} {px py pt : Pos} {kt k2 pt2} (hc : X.calm = true) (hN : X.N.Nodup) (hi : X.N[i]? = some x) (hj : X.N[j]? = some y) (hij : i ≠ j)
    (hx : Loc X.env.scope x) (hy : Loc X.env.scope y) (ha : GN g X a dl) (hb : GN g X b dl2)
    (hs : swapsWithSole [.Tuple [.Name x px, .Name y py] kt pt] (.Tuple [a, b] k2 pt2) pos.line X.env = pure false := by rfl) (hw : swappedStores [.Tuple [.Name x px, .Name y py] kt pt] (.Tuple [a, b] k2 pt2) X.env = pure none := by rfl)
    (hh : (assignEach [.Tuple [.Name x px, .Name y py] kt pt] X.env).map (·.2) = [assign (.Tuple [.Name x px, .Name y py] kt pt) X.env] := by rfl)
    (h1 : starEach [a, b] X.env = (false, eval a X.env) :: starEach [b] X.env := by rfl) (h2 : starEach [b] X.env = (false, eval b X.env) :: starEach [] X.env := by rfl)
    (hf : X.fn x = true ∨ X.env.scope.names.lookup x = some .local := by first | exact .inl rfl | exact .inr rfl | assumption) (hf2 : X.fn y = true ∨ X.env.scope.names.lookup y = some .local := by first | exact .inl rfl | exact .inr rfl | assumption)
    (hn : (assignEach [.Name x px, .Name y py] X.env).length = 2 := by rfl) (hst : (assignEach [.Name x px, .Name y py] X.env).findIdx? (·.1) = none := by rfl)
    (he1 : (assignEach [.Name x px, .Name y py] X.env).map (·.2) = assign (.Name x px) X.env :: (assignEach [.Name y py] X.env).map (·.2) := by rfl) (he2 : (assignEach [.Name y py] X.env).map (·.2) = assign (.Name y py) X.env :: (assignEach [] X.env).map (·.2) := by rfl) :
    GS g X (.Assign [.Tuple [.Name x px, .Name y py] kt pt] (.Tuple [a, b] k2 pt2) pos) (dParNN i j dl dl2) :=
  PS.weak (ps_asg (pe_tup (pa_cons ha (pa_cons hb pa_nil h2) h1)) (pg_tup hc (pgs_cons (pg_name hN hi hx hf) (pgs_cons (pg_name hN hj hy hf2) pgs_nil he2) he1) hn hst) hs hw hh) fun D σ H ⟨c, F, env, m, E, r, h, o⟩ =>
  ⟨c, F, env, m, _, r, h, fun p H1 F1 m1 ds xs r1 f1 h0 hp hcp hH rl q1 => ⟨c, F1, env, m1, _, r1, q1, fun q H2 F2 m2 es ys r2 f2 h0' hq hcq hH2 rl2 q2 => by
    refine ⟨ll (show 2 ≤ LL by decide), fun t ht => ⟨t, [.ref p, .ref q], rfl, SqT.of upd_same, rfl, .ref p, _, rfl, .ref q, _, rfl, rfl, ?_⟩⟩
    have n := New.lay (F := F2) (o := .tup [.ref p, .ref q]) r2.sub ht
    have nf := n.fresh r2.ck
    have hq' : upd H2 t (.tup [.ref p, .ref q]) q = some (.lst ys) := n.hh _ _ hH2
    obtain ⟨rb, e⟩ := nn_rel (i := i) (j := j) hij r f1 h0 hp hcp hH rl (r2.new n) (f2.trans nf) h0' hq hcq hq' rl2
    exact o.nx _ _ F2 _ m2 rb e q2⟩⟩
end

/-! ### len of a web, by its own __len__ -/
def lenSpec : Spec := fun as m Q => ∃ pl ts, as = [.val (.web pl ts)] ∧ Q (.int (ts.length : Nat)) m
section
variable {g : Gp} {X : Cx} {k : Nat} {f : Addr} {fd : FuncData} {ps : List Str}
theorem cr_lenW (F : FnOk X.prog X.w X.K X.mg X.base CX0 k f fd ps (spOf X.K g lenSpec)) (hr : Room (k + 1) X.A) (hs : PySem.W.findIn X.K (.ref g.Cw) "__len__" = some (some (.ref f))) (hf : PySem.W.isFn X.K (.ref f) = true) (hb : Binds X.K fd ps []) : CallR X (.builtin "len") (rLenW X.K g.Cw) := by
  intro pins s σ H xs us Q I r h
  obtain ⟨a, dx, t, pl, ts, rfl, ha, ht, q⟩ := h
  obtain ⟨u, rfl, ru⟩ := vals1 r
  cases ru
  obtain ⟨mA, J, _⟩ := ins_get I.hok ha
  obtain ⟨od, J, _⟩ := J.look
  obtain ⟨m, hF⟩ := I.fr
  obtain ⟨its, rv, _, hz⟩ := I.tuple ht
  rw [List.length_map] at hz
  refine PySem.W.len_K hF I.ok.mod.kin J hs hf ?_
  have hsp : spOf X.K g lenSpec [.ref a] H (fun v H' => v = .int (ts.length : Nat) ∧ Ex H H') E0 := ⟨none, H, [.val (.web pl ts)], 0, fun d _ => d = .int (ts.length : Nat), fun _ _ h => h, .cons (.web ha ht) .nil, (fun _ z => nomatch z), ⟨pl, ts, rfl, rfl⟩, fun v H' F' m' x fr _ rp e => by
    subst e
    cases rp
    exact ⟨rfl, fun b o hb => fr.hh b o hb (fun z => nomatch z)⟩⟩
  have e0 : Env0 X.prog X.w X.K X.mg X.base X.A.in1 X.stack s H := by
    have e := I.env0
    exact ⟨e.frames, e.mod, e.bs, e.bsz, e.funs, e.frf, e.hok, e.bare⟩
  have hl := F.len _ _ _ _ hsp
  have r2 : Vals [V.ref a] [Value.ref a] := .cons rfl .nil
  refine wpAny_call (codeAny_mono (F.run X.A.in1 X.stack s H ⟨[.ref a], []⟩ [.ref a] [.ref a] _ E0 hr.in1 e0 (by
    have := hb s [.ref a] I.kIn (by simpa using hl)
    simpa using this) r2 hsp) fun r s' hq => ?_)
  cases r with
  | error e => exact hq.elim
  | ok fl =>
    cases fl with
    | ret w =>
      obtain ⟨z, H', I', rz, ez, ex⟩ := I.after hq
      subst ez
      obtain ⟨tk, rfl⟩ := rz
      refine ⟨⟨by omega, ?_⟩, .int (ts.length : Nat), H', I'.tok _, ⟨_, rfl⟩, q H' ex⟩
      have hh := sizeLine_eq
      omega
    | next => exact False.elim hq
    | brk => exact False.elim hq
    | cont => exact False.elim hq
theorem cr_len : CallR X (.builtin "len") (rLen X.K) := call_len
end
end G
namespace G
open PySem L2

/-! ### len({k: v for ..}) -/
def D.key : D → Option Key | .int i => some (.inl i) | .str s => some (.inr s) | _ => none
def putKey (ks : List Key) (k : Key) : List Key := if (ks.any fun x => decide (x = k)) = true then ks else ks ++ [k]
theorem putK_keys (kvs : List (Key × V)) (k : Key) (v : V) : (putK kvs k v).map (·.1) = putKey (kvs.map (·.1)) k := by
  unfold putK putKey
  have e : ((kvs.map (·.1)).any fun x => decide (x = k)) = (kvs.any fun kv => decide (kv.1 = k)) := by rw [List.any_map]; rfl
  rw [e]
  split
  · rw [List.map_map]
    refine List.map_congr_left fun p _ => ?_
    show (if p.1 = k then (p.1, v) else p).1 = p.1
    split <;> rfl
  · rw [List.map_append]; rfl
def DkR (f : D → Env' → Option Env') (dk dv : DE) (env : Env') : List D → Nat → List Key → (List Key → Nat → Prop) → Prop
  | [], m, ks, Q => Q ks m
  | d :: ds, m, ks, Q => ∃ env2, f d env = some env2 ∧ dk env2 m fun x m1 => dv env2 m1 fun _ m2 => ∃ k, x.key = some k ∧ DkR f dk dv env ds m2 (putKey ks k) Q
def dLenDc (di : DL) (f : D → Env' → Option Env') (dk dv : DE) (vs : List Nat) : DE := fun env m Q => di env m fun its m1 => its.length ≤ LL ∧ DkR f dk dv (wipeE env vs) its m1 [] fun ks m2 => Q (.int (ks.length : Nat)) m2
section
variable {g : Gp} {X : Cx} {kx vx tg iter : Expr} {scope : Scope} {own : List (Str × Nat)} {pos p dpos : Pos} {di : DL} {T : TG} {f : D → Env' → Option Env'} {js : List Nat} {dk dv : DE}
theorem key_rep {K : PySem.W.Frag} {F : Hp} {x : D} {v : V} {k : Key} (h : x.key = some k) (r : Rep K g F x v) : v = kV k := by
  cases x <;> simp only [D.key] at h <;> first | (cases h; cases r; rfl) | cases h
theorem dc_weak (vs : List Nat) (hj : ∀ j ∈ js, j ∈ vs) (hg : ∀ (c : Option Addr) (F : Hp) (env : Env') (m : Nat) (σ : St) (H : Hp) (d : D) (v : V) (env2 : Env') (Q : St → Hp → Prop), Rel X.K g c F env m σ H → Rep X.K g F d v → f d env = some env2 →
    (∀ σ2, Rel X.K g c F env2 m σ2 H → (∀ a, Own env2 σ2 a → Own env σ a) → σ2.length = σ.length → (∀ i, i ∉ js → σ2[i]? = σ[i]?) → Q σ2 H) → T v σ H Q) :
    ∀ σ H Q, tD X.K g (dLenDc di f dk dv vs) σ H Q → tCB (fun xs H Q => ∃ a kvs, xs = [V.ref a] ∧ H a = some (.dK kvs) ∧ Q (.int kvs.length) H) (tCons (tDc (tI X.K g true di) T (tT X.K g dYes) (tD X.K g dk) (tD X.K g dv) vs) tNil) σ H Q := fun σ H Q ⟨c, F, env, m, Q1, r, h, k⟩ =>
  ⟨c, F, env, m, _, r, h, fun J H1 F1 m1 its lk r1 f1 _ hk w ⟨hz, q⟩ => fun Dl hD => by
    have nD : F1 Dl = none := ex_none r1.sub hD
    have cD : c ≠ some Dl := fun z => by obtain ⟨_, xs, e, _⟩ := r1.ck Dl z; rw [hD] at e; cases e
    refine ⟨fun i kk H' => ∃ F' m' kvs, kk = its.length - i ∧ i ≤ its.length ∧ Fresh c F1 H1 F' H' ∧ Ck g c m' F' H' ∧ F' Dl = none ∧ H' Dl = some (.dK kvs) ∧ kvs.length ≤ i ∧ DkR f dk dv (wipeE env vs) (its.drop i) m' (kvs.map (·.1)) (fun ks m3 => Q1 (.int (ks.length : Nat)) m3), ⟨its.length, F1, m1, [], rfl, Nat.zero_le _, ?_, ?_, nD, upd_same, Nat.le_refl _, q⟩, ?_⟩
    · have n := New.lay (F := F1) (o := .dK []) r1.sub hD
      exact n.fresh r1.ck
    · exact r1.ck.new (New.lay r1.sub hD)
    · rintro i kk H' ⟨F', m', kvs, rfl, hi, fr, ck, nF, hA, lA, q'⟩
      have r' := r1.fresh fr ck
      have lk' : ∀ p ∈ lk, H' p.1 = some p.2 := fun p hp => fr.hh p.1 p.2 (hk p hp).1 (hk p hp).2
      obtain ⟨go, stop⟩ := w i F' H' fr.ff r'.sub lk'
      by_cases hlt : i < its.length
      · have hd : its[i]? = some its[i] := List.getElem?_eq_getElem hlt
        rw [List.drop_eq_getElem_cons hlt] at q'
        obtain ⟨g1, g2⟩ := go _ hd
        obtain ⟨env2, e2, q2⟩ := q'
        refine .inr ⟨g1, fun H2 => ∃ F2 m2 kvs2, Fresh c F1 H1 F2 H2 ∧ Ck g c m2 F2 H2 ∧ F2 Dl = none ∧ H2 Dl = some (.dK kvs2) ∧ kvs2.length ≤ i + 1 ∧ DkR f dk dv (wipeE env vs) (its.drop (i + 1)) m2 (kvs2.map (·.1)) (fun ks m3 => Q1 (.int (ks.length : Nat)) m3), fun H2 ⟨F2, m2, kvs2, a1, a2, a3, a4, a6, a7⟩ => ⟨its.length - (i + 1), by omega, F2, m2, kvs2, rfl, by omega, a1, a2, a3, a4, a6, a7⟩, fun x H3 y => ?_⟩
        obtain ⟨F3, n3, rp3⟩ := g2 x H3 y
        have r3 := (r'.wipe vs).new n3
        have fr3 := fr.trans (n3.fresh ck)
        have ck3 := ck.new n3
        refine hg c F3 _ m' _ H3 _ x env2 _ r3 rp3 e2 fun σ4 r4 o4 l4 a4 => ⟨?_, ?_⟩
        · refine Eq.trans (wipe_same l4 fun j hj' => a4 j fun z => hj' (hj j z)) (wipe_wipe σ vs)
        · have keep : ∀ {F5 H5 : Hp}, Fresh c F3 H3 F5 H5 → F5 Dl = none ∧ H5 Dl = some (.dK kvs) := fun {F5 H5} f5 => by
            have h3 : H3 Dl = some (.dK kvs) := n3.hh _ _ hA
            refine ⟨?_, f5.hh _ _ h3 cD⟩
            cases z : F5 Dl with
            | none => rfl
            | some o =>
              rcases f5.new Dl o z with y | y
              · rcases n3.new Dl o y with u | u
                · rw [nF] at u; cases u
                · rw [hA] at u; cases u
              · rw [h3] at y; cases y
          refine ⟨c, F3, env2, m', _, r4, (show dYes env2 m' fun b m5 => b = true ∧ dk env2 m5 fun x m1 => dv env2 m1 fun _ m2 => ∃ k, x.key = some k ∧ DkR f dk dv (wipeE env vs) (its.drop (i + 1)) m2 (putKey (kvs.map (·.1)) k) (fun ks m3 => Q1 (.int (ks.length : Nat)) m3) from ⟨rfl, q2⟩), fun b H5 F5 m5 r5 f5 ⟨hb, q5⟩ => ?_⟩
          subst hb
          refine ⟨c, F5, env2, m5, _, r5, q5, fun v6 H6 F6 m6 y6 r6 f6 rp6 q6 => ⟨c, F6, env2, m6, _, r6, q6, fun v7 H7 F7 m7 y7 r7 f7 rp7 ⟨key, hkey, q7⟩ => ?_⟩⟩
          obtain ⟨k1, k2⟩ := keep ((f5.trans f6).trans f7)
          have fr6 := ((fr3.trans f5).trans f6).trans f7
          refine ⟨kvs, key, key_rep hkey rp6, k2, ll' (by omega), F7, m7, putK kvs key v7, ⟨fr6.ff, fun a o z => ?_, fun a o z n => ?_, fr6.new, fr6.nc⟩, fun a z => ?_, k1, upd_same, ?_, ?_⟩
          · have : a ≠ Dl := fun e => by subst e; rw [k1] at z; cases z
            rw [upd_ne this]; exact fr6.fh a o z
          · have : a ≠ Dl := fun e => by subst e; rw [hD] at z; cases z
            rw [upd_ne this]; exact fr6.hh a o z n
          · have : a ≠ Dl := fun e => by subst e; exact cD z
            obtain ⟨b1, xs, b2, b3⟩ := r7.ck a z
            exact ⟨b1, xs, by rw [upd_ne this]; exact b2, b3⟩
          · have e1 := congrArg List.length (putK_keys kvs key v7)
            rw [List.length_map] at e1
            rw [e1]
            unfold putKey
            split
            · rw [List.length_map]; omega
            · rw [List.length_append, List.length_map, List.length_singleton]; omega
          · rw [putK_keys]; exact q7
      · have hi' : i = its.length := by omega
        rw [List.drop_eq_nil_of_le (by omega)] at q'
        have q'' : Q1 (.int ((kvs.map (·.1)).length : Nat)) m' := q'
        rw [List.length_map] at q''
        exact .inl ⟨stop hi', Dl, kvs, rfl, hA, k _ H' F' m' _ r' (f1.trans fr) (.int _) q''⟩⟩
theorem ge_lenDc (hc : X.calm = true) (hN : X.N.Nodup) (hi : GI true g X tg iter di) (ok : BlkOk X.N X.env.scope scope own)
    (hg : ∀ (s : Shared) (H : Hp) (C : Addr) (cl : List (Str × Addr)) (fp : List Addr), GG g (X.blk s H scope (compEnvC scope cl C X.env) fp) tg T f js)
    (hk : ∀ (s : Shared) (H : Hp) (C : Addr) (cl : List (Str × Addr)) (fp : List Addr), GE g (X.blk s H scope (compEnvC scope cl C X.env) fp) kx dk) (he : ∀ (s : Shared) (H : Hp) (C : Addr) (cl : List (Str × Addr)) (fp : List Addr), GE g (X.blk s H scope (compEnvC scope cl C X.env) fp) vx dv)
    (hgl : Gl X "len") (hm : X.mg "len" = none) (hj : ∀ j ∈ js, j ∈ own.map (·.2) := by decide) (hs : ∀ x, foldedSetIterable iter X.env x = pure x := by intro _; rfl)
    (hs1 : starEach [.DictComp kx vx [⟨tg, iter, [], 0⟩] scope dpos] X.env = (false, eval (.DictComp kx vx [⟨tg, iter, [], 0⟩] scope dpos) X.env) :: starEach [] X.env := by rfl) :
    GE g X (.Call (.Name "len" p) [.DictComp kx vx [⟨tg, iter, [], 0⟩] scope dpos] [] pos) (dLenDc di f dk dv (own.map (·.2))) :=
  ⟨fun pins s σ H Q I q => (pe_callB call_lenD hgl hm PySem.boot_len (pa_cons (pe_dc (wi := tI X.K g true di) (g := T) (tt := tT X.K g dYes) (tk := tD X.K g dk) (tv := tD X.K g dv) hc hN hi ok (fun s H C cl fp => (hg s H C cl fp).pg) (fun s H C cl fp => gts_nil) (fun s H C cl fp => hk s H C cl fp) (fun s H C cl fp => he s H C cl fp) hs) pa_nil hs1) (by decide) (by decide) hs1 rfl).run pins s σ H Q I (dc_weak (T := T) _ hj (hg s H 0 [] []).ok σ H Q q)⟩
end
end G
namespace G
open PySem L2
section
variable {g : Gp} {X : Cx} {a b e : Expr} {d : DE} {dl dl2 : DL} {pos : Pos}
theorem gs_asgEN {i j : Nat} {x y : Str} {px py pt : Pos} {kt k2 pt2} (hc : X.calm = true) (hN : X.N.Nodup) (hi : X.N[i]? = some x) (hj : X.N[j]? = some y)
    (hx : Loc X.env.scope x) (hy : Loc X.env.scope y) (ha : GE g X a d) (hb : GN g X b dl)
    (hs : swapsWithSole [.Tuple [.Name x px, .Name y py] kt pt] (.Tuple [a, b] k2 pt2) pos.line X.env = pure false := by rfl) (hw : swappedStores [.Tuple [.Name x px, .Name y py] kt pt] (.Tuple [a, b] k2 pt2) X.env = pure none := by rfl)
    (hh : (assignEach [.Tuple [.Name x px, .Name y py] kt pt] X.env).map (·.2) = [assign (.Tuple [.Name x px, .Name y py] kt pt) X.env] := by rfl)
    (h1 : starEach [a, b] X.env = (false, eval a X.env) :: starEach [b] X.env := by rfl) (h2 : starEach [b] X.env = (false, eval b X.env) :: starEach [] X.env := by rfl)
    (hf : X.fn x = true ∨ X.env.scope.names.lookup x = some .local := by first | exact .inl rfl | exact .inr rfl | assumption) (hf2 : X.fn y = true ∨ X.env.scope.names.lookup y = some .local := by first | exact .inl rfl | exact .inr rfl | assumption)
    (hn : (assignEach [.Name x px, .Name y py] X.env).length = 2 := by rfl) (hst : (assignEach [.Name x px, .Name y py] X.env).findIdx? (·.1) = none := by rfl)
    (he1 : (assignEach [.Name x px, .Name y py] X.env).map (·.2) = assign (.Name x px) X.env :: (assignEach [.Name y py] X.env).map (·.2) := by rfl) (he2 : (assignEach [.Name y py] X.env).map (·.2) = assign (.Name y py) X.env :: (assignEach [] X.env).map (·.2) := by rfl) :
    GS g X (.Assign [.Tuple [.Name x px, .Name y py] kt pt] (.Tuple [a, b] k2 pt2) pos) (dParEN i j d dl) :=
  PS.weak (ps_asg (pe_tup (pa_cons ha (pa_cons hb pa_nil h2) h1)) (pg_tup hc (pgs_cons (pg_name hN hi hx hf) (pgs_cons (pg_name hN hj hy hf2) pgs_nil he2) he1) hn hst) hs hw hh) fun D σ H ⟨c, F, env, m, E, r, h, o⟩ =>
  ⟨c, F, env, m, _, r, h, fun v H1 F1 m1 z r1 f1 rp q1 => ⟨c, F1, env, m1, _, r1, q1, fun p H2 F2 m2 ds xs r2 f2 h0 hp hcp hH rl q2 => by
    refine ⟨ll (show 2 ≤ LL by decide), fun t ht => ⟨t, [v, .ref p], rfl, SqT.of upd_same, rfl, v, _, rfl, .ref p, _, rfl, rfl, ?_⟩⟩
    have n := New.lay (F := F2) (o := .tup [v, .ref p]) r2.sub ht
    have nf := n.fresh r2.ck
    have r3 := r2.new n
    have no : ¬ Own env σ p := not_own r1 h0
    have no2 : ¬ Own (env.set i (.val z)) (σ.set i (some v)) p := fun w => no (own_set r.len sl_no w)
    refine o.nx _ _ F2 _ m2 ((r3.setV (rp.mono f2.ff)).setO hp (n.hh _ _ hH) rl hcp no2) ?_ q2
    have e := r.evo ((f1.trans f2).trans nf)
    refine ⟨e.ff, e.fh, e.hh, e.new, e.nc, fun w hw => ?_⟩
    rcases own_setO (by rw [List.length_set, List.length_set, r.len]) hw with rfl | hw
    · refine ⟨hcp, .inr ?_⟩
      cases y : H w with
      | none => rfl
      | some u => rw [f1.hh w u y hcp] at h0; cases h0
    · exact e.own w (own_set r.len sl_no hw)⟩⟩
/-- text[::-1] -/
def revS (z : Str) : Str := ⟨z.cps.toList.reverse.toArray⟩
def dRev (d : DE) : DE := fun env m Q => d env m fun x m1 => ∃ z, x = .str z ∧ z.length ≤ LL ∧ Q (.str (revS z)) m1
theorem ge_rev {k : Nat} {p1 p2 p3 : Pos} (he : GE g X e d) : GE g X (.Subscript e (.Slice none none (some (.UnaryOp .USub (.Constant (.int 1) k p1) p2)) p3) pos) (dRev d) := PE.weak (pe_revS he) fun σ H Q ⟨c, F, env, m, Q1, rl, hd, kk⟩ =>
  ⟨c, F, env, m, _, rl, hd, fun v H1 F1 m1 x r1 f1 rp ⟨z, ex, hz, q⟩ => by
    subst ex
    cases rp
    exact ⟨z, rfl, hz, kk _ H1 F1 m1 _ r1 f1 (.str _) q⟩⟩
theorem kit_same {K : PySem.W.Frag} {C : Addr} : PySem.W.kitOne K (.ref C) (.ref C) = some true := by
  unfold PySem.W.kitOne
  rw [if_pos]
  simp
end
end G
namespace G
open PySem L2
section
variable {g : Gp} {X : Cx} {pos p1 : Pos}
theorem ge_negI {i : Int} {k : Nat} : GE g X (.UnaryOp .USub (.Constant (.int i) k p1) pos) (dC (.int (-i))) := PE.weak (pe_un un_neg pe_int) fun σ H Q ⟨c, F, env, m, Q1, r, q, kk⟩ => ⟨i, rfl, kk _ H F m _ r (Fresh.refl r.sub r.ck) (.int _) q⟩
theorem mono_var (i : Nat) : ∀ env m Q Q', (∀ y m', Q y m' → Q' y m') → dVar i env m Q → dVar i env m Q' := fun _ _ _ _ h ⟨d, hd, q⟩ => ⟨d, hd, h _ _ q⟩
end
end G
namespace G
open PySem L2
section
variable {g : Gp} {X : Cx} {elt kx vx tg iter : Expr} {ifs : List Expr} {scope : Scope} {own : List (Str × Nat)} {pos p dpos : Pos} {di : DL} {T : TG} {f : D → Env' → Option Env'} {js vs : List Nat} {dt : DT} {de dk dv : DE}
abbrev AllB (X : Cx) (scope : Scope) (Z : Cx → Prop) : Prop := ∀ (s : Shared) (H : Hp) (C : Addr) (cl : List (Str × Addr)) (fp : List Addr), Z (X.blk s H scope (compEnvC scope cl C X.env) fp)
theorem gn_lc' (hc : X.calm = true) (hN : X.N.Nodup) (hi : GI true g X tg iter di) (ok : BlkOk X.N X.env.scope scope own) (hg : AllB X scope fun Y => GG g Y tg T f js) (ht : AllB X scope fun Y => GTs g Y ifs dt) (he : AllB X scope fun Y => GE g Y elt de)
    (hv : own.map (·.2) = vs := by rfl) (hj : ∀ j ∈ js, j ∈ own.map (·.2) := by decide) (hs : ∀ x, foldedSetIterable iter X.env x = pure x := by intro _; rfl) : GN g X (.ListComp elt [⟨tg, iter, ifs, 0⟩] scope pos) (dLc di f dt de vs) := by
  subst hv; exact gn_lc hc hN hi ok hg ht he hj hs
theorem gs_setLcN' {i : Nat} {y : Str} {py spos : Pos} (hc : X.calm = true) (hN : X.N.Nodup) (hy : X.N[i]? = some y) (hyl : X.env.scope.names.lookup y = some .local)
    (hsw : swapsWith (.ListComp elt [⟨tg, iter, ifs, 0⟩] scope pos) (some (.Name y py)) spos.line X.env = pure true) (hi : GI true g X tg iter di) (ok : BlkOk X.N X.env.scope scope own) (hg : AllB X scope fun Y => GG g Y tg T f js) (ht : AllB X scope fun Y => GTs g Y ifs dt) (he : AllB X scope fun Y => GE g Y elt de)
    (hv : own.map (·.2) = vs := by rfl) (hj : ∀ j ∈ js, j ∈ own.map (·.2) := by decide) (hs : ∀ x, foldedSetIterable iter X.env x = pure x := by intro _; rfl) : GS g X (.Assign [.Name y py] (.ListComp elt [⟨tg, iter, ifs, 0⟩] scope pos) spos) (dAsgN i (dLc di f dt de vs)) := by
  subst hv; exact gs_setLcN hc hN hy hyl hsw hi ok hg ht he hj hs
theorem gs_setLc' {i : Nat} {y : Str} {py spos : Pos} (hc : X.calm = true) (hN : X.N.Nodup) (hy : X.N[i]? = some y) (hyl : X.env.scope.names.lookup y = some .local)
    (hsw : swapsWith (.ListComp elt [⟨tg, iter, ifs, 0⟩] scope pos) (some (.Name y py)) spos.line X.env = pure true) (hi : GI true g X tg iter di) (ok : BlkOk X.N X.env.scope scope own) (hg : AllB X scope fun Y => GG g Y tg T f js) (ht : AllB X scope fun Y => GTs g Y ifs dt) (he : AllB X scope fun Y => GE g Y elt de)
    (hv : own.map (·.2) = vs := by rfl) (hj : ∀ j ∈ js, j ∈ own.map (·.2) := by decide) (hs : ∀ x, foldedSetIterable iter X.env x = pure x := by intro _; rfl) : GS g X (.Assign [.Name y py] (.ListComp elt [⟨tg, iter, ifs, 0⟩] scope pos) spos) (dAsg i (dNew (dLc di f dt de vs))) := by
  subst hv; exact gs_setLc hc hN hy hyl hsw hi ok hg ht he hj hs
theorem ge_lenDc' (hc : X.calm = true) (hN : X.N.Nodup) (hi : GI true g X tg iter di) (ok : BlkOk X.N X.env.scope scope own) (hg : AllB X scope fun Y => GG g Y tg T f js) (hk : AllB X scope fun Y => GE g Y kx dk) (he : AllB X scope fun Y => GE g Y vx dv)
    (hgl : Gl X "len") (hm : X.mg "len" = none) (hv : own.map (·.2) = vs := by rfl) (hj : ∀ j ∈ js, j ∈ own.map (·.2) := by decide) (hs : ∀ x, foldedSetIterable iter X.env x = pure x := by intro _; rfl)
    (hs1 : starEach [.DictComp kx vx [⟨tg, iter, [], 0⟩] scope dpos] X.env = (false, eval (.DictComp kx vx [⟨tg, iter, [], 0⟩] scope dpos) X.env) :: starEach [] X.env := by rfl) :
    GE g X (.Call (.Name "len" p) [.DictComp kx vx [⟨tg, iter, [], 0⟩] scope dpos] [] pos) (dLenDc di f dk dv vs) := by
  subst hv; exact ge_lenDc hc hN hi ok hg hk he hgl hm hj hs hs1
end
end G
namespace G
open PySem L2
theorem gg_tupK {g : Gp} {X : Cx} {pos : Pos} (K : PySem.W.Frag) {tgs : List Expr} {Gs : TGs} {fs : List D → Env' → Option Env'} {js : List Nat} {k n : Nat} (hc : X.calm = true) (h : GGs g X tgs Gs fs js) (hK : X.K = K := by rfl) (hn : (assignEach tgs X.env).length = n := by rfl) (hst : (assignEach tgs X.env).findIdx? (·.1) = none := by rfl) :
    GG g X (.Tuple tgs k pos) (gTup K n Gs) (tgT fs n) js := by subst hK; exact gg_tup hc h hn hst
end G
namespace G
open PySem L2
/-! ### loops and comprehensions, by data alone -/
section
variable {f : D → Env' → Option Env'} {dt : DT} {de : DE} {env : Env'}
theorem lcR_fm {α : Type} (e : α → D) (p : α → Bool) (v : α → D) : ∀ (xs : List α) (m : Nat) (Q : List D → Nat → Prop), (∀ a ∈ xs, ∃ env2, f (e a) env = some env2 ∧ (∀ m Q, Q (p a) m → dt env2 m Q) ∧ (p a = true → ∀ m Q, Q (v a) m → de env2 m Q)) →
    Q ((xs.filter p).map v) m → LcR f dt de env (xs.map e) m Q
  | [], m, Q, _, q => q
  | a :: r, m, Q, h, q => by
    obtain ⟨env2, e1, h1, h2⟩ := h a (by simp)
    refine ⟨env2, e1, h1 m _ ?_⟩
    have hr := fun (Q' : List D → Nat → Prop) (q' : Q' ((r.filter p).map v) m) => lcR_fm e p v r m Q' (fun b hb => h b (by simp [hb])) q'
    cases hp : p a with
    | true =>
      rw [if_pos rfl]
      refine h2 hp m _ (hr _ ?_)
      rw [List.filter_cons_of_pos hp] at q
      exact q
    | false =>
      rw [if_neg (by decide)]
      refine hr _ ?_
      rw [List.filter_cons_of_neg (by rw [hp]; decide)] at q
      exact q
theorem lcR_m {α : Type} (e : α → D) (v : α → D) (xs : List α) (m : Nat) (Q : List D → Nat → Prop) (h : ∀ a ∈ xs, ∃ env2, f (e a) env = some env2 ∧ (∀ m Q, Q (v a) m → de env2 m Q)) (q : Q (xs.map v) m) : LcR f dYes de env (xs.map e) m Q :=
  lcR_fm e (fun _ => true) v xs m Q (fun a ha => by obtain ⟨env2, h1, h2⟩ := h a ha; exact ⟨env2, h1, fun _ _ q => q, fun _ => h2⟩) (by rw [List.filter_eq_self.mpr (fun _ _ => rfl)]; exact q)
/-- each element drawn -/
theorem lcR_ch {α β : Type} (e : α → D) (v : β → D) (B : Nat) : ∀ (xs : List α) (m : Nat) (Q : List D → Nat → Prop), (∀ a ∈ xs, ∃ env2, f (e a) env = some env2 ∧ ∀ m Q, m < B → (∀ b, Q (v b) (m + 1)) → de env2 m Q) → m + xs.length ≤ B →
    (∀ bs : List β, bs.length = xs.length → Q (bs.map v) (m + xs.length)) → LcR f dYes de env (xs.map e) m Q
  | [], m, Q, _, _, q => q [] rfl
  | a :: r, m, Q, h, hB, q => by
    obtain ⟨env2, e1, h2⟩ := h a (by simp)
    rw [List.length_cons] at hB
    refine ⟨env2, e1, ?_⟩
    show (de env2 m fun y m2 => LcR f dYes de env (r.map e) m2 fun ys m3 => Q (y :: ys) m3)
    refine h2 m _ (by omega) fun b => lcR_ch e v B r (m + 1) _ (fun b hb => h b (by simp [hb])) (by omega) fun bs hbs => ?_
    have := q (b :: bs) (by simp [hbs])
    rw [List.length_cons, show m + (r.length + 1) = m + 1 + r.length by omega] at this
    exact this
/-- each element kept or not, as drawn -/
theorem lcR_sub {α : Type} (e : α → D) (B : Nat) : ∀ (xs : List α) (m : Nat) (Q : List D → Nat → Prop), (∀ a ∈ xs, ∃ env2, f (e a) env = some env2 ∧ (∀ m Q, m < B → (∀ b, Q b (m + 1)) → dt env2 m Q) ∧ ∀ m Q, Q (e a) m → de env2 m Q) → m + xs.length ≤ B →
    (∀ ys : List α, ys.Sublist xs → Q (ys.map e) (m + xs.length)) → LcR f dt de env (xs.map e) m Q
  | [], m, Q, _, _, q => q [] (List.Sublist.refl _)
  | a :: r, m, Q, h, hB, q => by
    obtain ⟨env2, e1, h1, h2⟩ := h a (by simp)
    rw [List.length_cons] at hB
    refine ⟨env2, e1, h1 m _ (by omega) fun b => ?_⟩
    have eq1 : m + (a :: r).length = m + 1 + r.length := by rw [List.length_cons]; omega
    rw [eq1] at q
    cases b with
    | true =>
      rw [if_pos rfl]
      exact h2 _ _ (lcR_sub e B r (m + 1) _ (fun b hb => h b (by simp [hb])) (by omega) fun ys hy => q (a :: ys) (hy.cons_cons a))
    | false =>
      rw [if_neg (by decide)]
      exact lcR_sub e B r (m + 1) _ (fun b hb => h b (by simp [hb])) (by omega) fun ys hy => q ys (hy.cons a)
end
theorem forR_ind {f : D → Env' → Option Env'} {body : DS} {E : DEnds} (I : List D → Env' → Nat → Prop) (h0 : ∀ env m, I [] env m → E.nx env m)
    (hs : ∀ d ds env m, I (d :: ds) env m → ∃ env2, f d env = some env2 ∧ ∀ K : Env' → Nat → Prop, (∀ e' m', I ds e' m' → K e' m') → body env2 m { E with nx := K, ct := K, bk := E.nx }) :
    ∀ its env m, I its env m → ForR f body its env m E
  | [], env, m, h => h0 env m h
  | d :: ds, env, m, h => by
    obtain ⟨env2, e, hb⟩ := hs d ds env m h
    exact ⟨env2, e, hb _ fun e' m' hi => forR_ind I h0 hs ds e' m' hi⟩
theorem rangeD_nat (n : Nat) : rangeD 0 (n : Int) = (List.range n).map fun i => D.int (i : Nat) := by
  unfold rangeD
  simp
theorem eqB_str (a b : Str) : eqB (.str a) (.str b) = some (decide (a = b)) := rfl
theorem eqB_int (a b : Int) : eqB (.int a) (.int b) = some (decide (a = b)) := rfl
theorem eqD_str (a b : Str) : eqD (.str a) (.str b) = some (.bl (decide (a = b))) := rfl
theorem eqD_int (a b : Int) : eqD (.int a) (.int b) = some (.bl (decide (a = b))) := rfl
/-! == of lists and tuples of ints -/
theorem okdL_ints (n : Nat) : ∀ l : List Nat, okdL (l.map fun i => D.int (i : Nat)) n = true
  | [] => rfl
  | a :: r => by rw [List.map_cons]; unfold okdL; rw [okdL_ints n r]; rfl
theorem eqvL_ints : ∀ (a b : List Nat), PyData.eqvAll (pyL (a.map fun i => D.int (i : Nat))) (pyL (b.map fun i => D.int (i : Nat))) = decide (a = b) := by
  intro a
  induction a with
  | nil => intro b; cases b <;> simp [pyL, PyData.eqvAll]
  | cons x r ih =>
    intro b
    cases b with
    | nil => simp [pyL, PyData.eqvAll]
    | cons y t =>
      simp only [List.map_cons, pyL, D.py, PyData.eqvAll, ih]
      have e : PyData.eqv (.int (x : Int)) (.int (y : Int)) = decide (x = y) := by
        unfold PyData.eqv
        by_cases h : x = y
        · subst h; simp
        · have : ¬ (x : Int) = (y : Int) := fun z => h (by omega)
          simp [h, this]
      rw [e]
      by_cases h1 : x = y <;> by_cases h2 : r = t <;> simp [h1, h2]
theorem eqB_lst (a b : List Nat) : eqB (.lst (a.map fun i => D.int (i : Nat))) (.lst (b.map fun i => D.int (i : Nat))) = some (decide (a = b)) := by
  show deepEq _ _ = _
  unfold deepEq
  rw [if_pos]
  · simp only [D.py]
    rw [← eqvL_ints a b]
    congr 1
  · simp only [D.okd, okdL_ints]; rfl
theorem eqB_tup (a b : List Nat) : eqB (.tup (a.map fun i => D.int (i : Nat))) (.tup (b.map fun i => D.int (i : Nat))) = some (decide (a = b)) := by
  show deepEq _ _ = _
  unfold deepEq
  rw [if_pos]
  · simp only [D.py]
    rw [← eqvL_ints a b]
    congr 1
  · simp only [D.okd, okdL_ints]; rfl
end G
namespace G
open PySem L2
/-! ### a text to several names -/
section
variable {prog : Program} {w : World} {A : Around} {E : Value → Shared → Prop}
/-- n more signs are drawn -/
theorem draw_walk {it : Addr} {fp wr : List Addr} {N : Nat} {Pv : Nat → Value → Prop} {St : Nat → Heap → Prop} (W : Walks prog w A it fp wr N Pv St) : ∀ (n i : Nat) (s : Shared) (Q : List Value → Shared → Prop), i + n ≤ N → St i s.heap →
    (∀ vs h' tk, vs.length = n → (∀ (j : Nat) (v : Value), vs[j]? = some v → Pv (i + j) v) → St (i + n) h' → (∀ b o, b ∉ wr → s.heap.get? b = some o → h'.get? b = some o) → Q vs { s with heap := h', toks := tk }) →
    wpAny (model prog w) A (draw (.ref it) n) Q E s
  | 0, i, s, Q, _, st, hQ => by
    have q0 := hQ [] s.heap s.toks rfl (fun j v h => by simp at h) st (fun _ _ _ h => h)
    unfold draw
    exact wpAny_pure q0
  | n + 1, i, s, Q, hi, st, hQ => by
    unfold draw
    refine wpAny_bind (W.item i s _ _ (by omega) st fun v h' tk hP st' hk => ?_)
    refine wpAny_bind (wpAny_holding (draw_walk W n (i + 1) { s with heap := h', toks := tk } _ (by omega) st' fun vs h2 tk2 hl hv st2 hk2 => wpAny_pure ?_))
    refine hQ (v :: vs) h2 tk2 (by rw [List.length_cons, hl]) (fun j u hj => ?_) (by rw [show i + (n + 1) = i + 1 + n by omega]; exact st2) (fun b o nb e => hk2 b o nb (hk b o nb e))
    cases j with
    | zero => simp at hj; subst hj; exact hP
    | succ j =>
      have := hv j u (by simpa using hj)
      rw [show i + (j + 1) = i + 1 + j by omega]; exact this
theorem walks_text (hh : A.handled = none) (it : Addr) (x : Str) (t : Tok) : Walks prog w A it [it] [it] x.cps.size (SignAt x) (fun i h => h.IsStrIter it (strIterType x) x t i) := by
  cases ha : x.cps.all (· < 128)
  · simp only [strIterType, ha, Bool.false_eq_true, if_false]
    exact .strWide hh it x t
  · simp only [strIterType, ha, if_true]
    exact .strAscii hh it x t
theorem unpack_text {s : Shared} {x : Str} {t : Tok} {Q : List Value → Shared → Prop} (hh : A.handled = none)
    (hQ : ∀ vs h' tk, vs.length = x.length → (∀ (j : Nat) (v : Value), vs[j]? = some v → SignAt x j v) → (∀ b o, s.heap.get? b = some o → h'.get? b = some o) → Q vs { s with heap := h', toks := tk }) : wpAny (model prog w) A (unpackItems (.str x t) x.length none) Q E s := by
  unfold unpackItems
  refine wpAny_bind ?_
  unfold notIterableAtAll
  refine wpAny_bind (wpAny_specialOf (typeIs_str _ _ _) PySem.F.slot_str_iter.lookup ?_)
  refine wpAny_pure ?_
  simp only [Bool.false_eq_true, if_false]
  refine wpAny_bind (wpAny_holding (wpAny_pyIter_strU ?_))
  have W := walks_text (prog := prog) (w := w) hh s.heap.objs.size x t
  refine wpAny_bind (wpAny_holding (draw_walk W x.length 0 _ _ (by show 0 + x.cps.size ≤ x.cps.size; omega) ⟨_, Heap.get?_push_size _ rfl, rfl, rfl⟩ fun vs h1 tk1 hl hv st hk => ?_))
  rw [if_neg (by omega)]
  have st' : h1.IsStrIter s.heap.objs.size (strIterType x) x t x.cps.size := by
    have : 0 + x.length = x.cps.size := by show 0 + x.cps.size = _; omega
    rw [this] at st; exact st
  refine wpAny_bind (wpAny_holding (W.done _ _ _ st' fun h2 tk2 hk2 => ?_))
  simp only [Option.isSome_none, Bool.false_eq_true, if_false]
  refine wpAny_pure (hQ vs h2 tk2 hl (fun j v h => by have := hv j v h; rwa [Nat.zero_add] at this) fun b o e => ?_)
  have nb : b ∉ [s.heap.objs.size] := by
    simp
    exact Nat.ne_of_lt (Heap.lt_size e)
  exact hk2 b o nb (hk b o nb (Heap.get?_push_of_some _ e))
end
/-- (a, b, ..) = a text of that length -/
def gTupS (n : Nat) (t : TGs) : TG := fun v σ H Q => ∃ z : Str, v = .str z ∧ z.length = n ∧ t (chars z) σ H Q
theorem pg_tupS {X : Cx} {es : List Expr} {k n : Nat} {t : TGs} {pos : Pos} (hc : X.calm = true) (h : PGs X es t) (hn : (assignEach es X.env).length = n := by rfl) (hst : (assignEach es X.env).findIdx? (·.1) = none := by rfl) : PG X (.Tuple es k pos) (gTupS n t) := by
  refine ⟨fun pins s σ H v u Q I r hw => ?_⟩
  obtain ⟨z, rfl, hz, hw⟩ := hw
  obtain ⟨tk, rfl⟩ := r
  rw [arm_assign_Tuple]
  refine wpAny_bind (wpAny_standAt ?_)
  unfold unpack
  rw [hst, hn, ← hz]
  refine wpAny_bind (wpAny_holding (unpack_text (I.ok.hd hc) fun vs h' tk' hl hv hk => ?_))
  have I1 : Inv X pins σ H { s with heap := h', toks := tk' } := I.kept hk
  refine h.run pins _ σ H (chars z) vs Q I1 ?_ hw
  have := vals_chars (x := z) (acc := vs.toArray) ⟨by rw [List.size_toArray, hl]; rfl, fun j v e => hv j v (by simpa using e)⟩
  simpa using this
def tgTS (fs : List D → Env' → Option Env') (n : Nat) : D → Env' → Option Env' := fun d env => match d with | .str z => if z.length = n then fs (charsD z) env else none | _ => none
theorem gg_tupS {g : Gp} {X : Cx} {pos : Pos} {tgs : List Expr} {Gs : TGs} {fs : List D → Env' → Option Env'} {js : List Nat} {k n : Nat} (hc : X.calm = true) (h : GGs g X tgs Gs fs js) (hn : (assignEach tgs X.env).length = n := by rfl) (hst : (assignEach tgs X.env).findIdx? (·.1) = none := by rfl) :
    GG g X (.Tuple tgs k pos) (gTupS n Gs) (tgTS fs n) js := ⟨pg_tupS hc h.pg hn hst, fun c F env m σ H d v env2 Q r rp e kk => by
  cases d with
  | str z =>
    simp only [tgTS] at e
    split at e
    · rename_i hl
      cases rp
      exact ⟨z, rfl, hl, h.ok c F env m σ H (charsD z) (chars z) env2 Q r (chars_rep z) e kk⟩
    · cases e
  | _ => cases e⟩
end G
namespace G
open PySem L2
/-! ### x[lo:hi] of texts, tuples, lists -/
abbrev DO := Env' → Nat → (Option Int → Nat → Prop) → Prop
def dNoP : DO := fun _ m Q => Q none m
def dP (d : DE) : DO := fun env m Q => d env m fun x m1 => ∃ i, x = .int i ∧ Q (some i) m1
def tOd (K : PySem.W.Frag) (g : Gp) (d : DO) : TO := fun σ H Q' => ∃ c F env m Q, Rel K g c F env m σ H ∧ d env m Q ∧ ∀ o H' F' m', Rel K g c F' env m' σ H' → Fresh c F H F' H' → Q o m' → Q' o H'
def GO (g : Gp) (X : Cx) (e : Option Expr) (d : DO) : Prop := PO X e (tOd X.K g d)
def cutL {α : Type} (xs : List α) (lo hi : Option Int) : List α := (xs.drop (HT.sIx xs.length 0 lo)).take (HT.sIx xs.length xs.length hi - HT.sIx xs.length 0 lo)
def sliceD : D → Option Int → Option Int → Option D
  | .str z, lo, hi => if z.length ≤ LL then some (.str (cutS z lo hi)) else none
  | .tup ds, lo, hi => some (.tup (cutL ds lo hi))
  | .lst ds, lo, hi => some (.lst (cutL ds lo hi))
  | _, _, _ => none
def dSlice (d : DE) (dl dh : DO) : DE := fun env m Q => d env m fun x m1 => dl env m1 fun lo m2 => dh env m2 fun hi m3 => ∃ z, sliceD x lo hi = some z ∧ Q z m3
section
variable {K : PySem.W.Frag} {g : Gp} {X : Cx} {e : Expr} {d : DE} {lo hi : Option Expr} {dl dh : DO} {pos p2 : Pos}
theorem PO.weak {t t' : TO} (h : PO X lo t) (w : ∀ σ H Q, t' σ H Q → t σ H Q) : PO X lo t' := ⟨fun pins s σ H Q I q => h.run pins s σ H Q I (w σ H Q q)⟩
theorem go_none : GO g X none dNoP := PO.weak po_none fun σ H Q ⟨c, F, env, m, Q1, r, h, k⟩ => k none H F m r (Fresh.refl r.sub r.ck) h
theorem go_some (he : GE g X e d) : GO g X (some e) (dP d) := PO.weak (po_some he) fun σ H Q ⟨c, F, env, m, Q1, r, h, k⟩ => ⟨c, F, env, m, _, r, h, fun v H1 F1 m1 x r1 f1 rp ⟨i, ex, q⟩ => by
  subst ex
  cases rp
  exact ⟨i, rfl, k _ H1 F1 m1 r1 f1 q⟩⟩
theorem RepL.cut {F : Hp} {ds : List D} {xs : List V} (h : RepL K g F ds xs) (lo hi : Option Int) : RepL K g F (cutL ds lo hi) (cutV xs lo hi) := by
  unfold cutL cutV
  rw [h.length]
  exact (h.drop _).take _
theorem cutL_whole {α : Type} {xs : List α} {lo hi : Option Int} (h1 : HT.sIx xs.length 0 lo = 0) (h2 : HT.sIx xs.length xs.length hi = xs.length) : cutL xs lo hi = xs := by
  unfold cutL
  rw [h1, h2, List.drop_zero, Nat.sub_zero, List.take_length]
theorem ge_slice (he : GB g X e d) (hl : GO g X lo dl) (hh : GO g X hi dh) : GE g X (.Subscript e (.Slice lo hi none p2) pos) (dSlice d dl dh) :=
  PE.weak (pe_slice (SlR.or sl_str (SlR.or sl_tupA sl_list)) he hl hh) fun σ H Q ⟨c, F, env, m, Q1, r, h, k⟩ =>
    ⟨c, F, env, m, _, r, h, fun v H1 F1 m1 x r1 f1 rp q1 => ⟨c, F1, env, m1, _, r1, q1, fun l H2 F2 m2 r2 f2 q2 => ⟨c, F2, env, m2, _, r2, q2, fun u H3 F3 m3 r3 f3 ⟨z, hz, q3⟩ => by
      have rp3 := (rp.mono f2).mono f3
      have fr := (f1.trans f2).trans f3
      cases x with
      | str s =>
        simp only [sliceD] at hz
        split at hz
        · rename_i hs
          cases hz
          rw [rp3.str']
          exact .inl ⟨s, rfl, ll hs, k _ H3 F3 m3 _ r3 fr (.str _) q3⟩
        · cases hz
      | tup ds =>
        cases hz
        obtain ⟨a, xs, rfl, h1, h2⟩ := rp3.tup'
        refine .inr (.inl ⟨a, xs, rfl, Evl.ex_t r3.sub h1, fun ⟨w1, w2⟩ => ?_, fun _ p hp => ?_⟩)
        · rw [h2.length] at w1 w2
          rw [cutL_whole w1 w2] at q3
          exact k _ H3 F3 m3 _ r3 fr (.tup h1 h2) q3
        · have n := New.fix (o := .tup (cutV xs l u)) r3.sub hp
          exact k _ _ _ m3 _ (r3.new n) (fr.trans (n.fresh r3.ck)) (.tup (SqT.of upd_same) ((h2.cut l u).mono n.ff)) q3
      | lst ds =>
        cases hz
        obtain ⟨a, xs, rfl, h1, h2, _⟩ := rp3
        refine .inr (.inr ⟨a, xs, rfl, SqL.of h1, fun p hp => ?_⟩)
        have n := New.fix (o := .lst (cutV xs l u)) r3.sub hp
        exact k _ _ _ m3 _ (r3.new n) (fr.trans (n.fresh r3.ck)) (.lst upd_same ((h2.cut l u).mono n.ff)) q3
      | _ => cases hz⟩⟩⟩

/-! ### a list of one's own, held fast from here on -/
theorem ObR.fix {F F' : Hp} {d : D} {u : HO} {p : Addr} (h : ObR K g F d u) (hp : F' p = some u) (e : Ex F F') : Rep K g F' d (.ref p) := by
  cases d with
  | lst ds => obtain ⟨xs, rfl, h2⟩ := h; exact .lst hp (RepL.mono e h2)
  | dic kds => obtain ⟨kvs, rfl, h2, h3⟩ := h; exact .dic hp h2 (RepL.mono e h3)
  | _ => exact h.elim
/-- what is one's own held fast -/
theorem Rel.holdS {c : Option Addr} {F H F' : Hp} {env : Env'} {m : Nat} {σ : St} {i : Nat} {s : Sl} {d : D} {v : V} (r : Rel K g c F env m σ H) (ho : env[i]? = some s) (ex : Ex F F') (sub : Ex F' H) (hF : ∀ a u, F' a = some u → F a = some u ∨ a ∈ s.adr σ[i]?) (hv : σ[i]? = some (some v)) (rp : Rep K g F' d v) :
    Rel K g c F' (env.set i (.val d)) m σ H ∧ Evo c (Own env σ) F H (Own (env.set i (.val d)) σ) F' H := by
  have hi : i < env.length := (List.getElem?_eq_some_iff.mp ho).1
  have sl := r.slot i s ho
  have none' : ∀ {a : Addr}, F a = none → a ∉ s.adr σ[i]? → F' a = none := fun {a} h1 h2 => by
    cases q : F' a with
    | none => rfl
    | some u =>
      rcases hF a u q with z | z
      · rw [h1] at z; cases z
      · exact absurd z h2
  have nc : ∀ a, c = some a → F' a = none := fun a z => none' (r.nc a z) fun y => (sl.at y).2.1 z
  have ne_own : ∀ (j : Nat) (sj : Sl) (a : Addr), (env.set i (.val d))[j]? = some sj → a ∈ sj.adr σ[j]? → i ≠ j ∧ env[j]? = some sj := fun j sj a h hm => by
    by_cases q : i = j
    · subst q; rw [List.getElem?_set_self hi] at h; cases h; simp [Sl.adr] at hm
    · rw [List.getElem?_set_ne q] at h; exact ⟨q, h⟩
  refine ⟨⟨sub, by rw [List.length_set]; exact r.len, fun j sj h => ?_, fun j k sj sk a e1 e2 e3 e4 => r.sep j k sj sk a (ne_own j sj a e1 e3).2 (ne_own k sk a e2 e4).2 e3 e4, fun a z => ?_⟩, ex, sub, fun a o h _ _ => h, fun a o z => ?_, nc, fun a ⟨j, sj, e1, e2⟩ => ?_⟩
  · by_cases q : i = j
    · subst q
      rw [List.getElem?_set_self hi] at h
      cases h
      exact ⟨v, hv, rp⟩
    · rw [List.getElem?_set_ne q] at h
      have w := r.slot j sj h
      exact w.keep ex fun a hm => ⟨none' (w.at hm).1 fun z => q (r.sep i j s sj a ho h z hm), rfl⟩
  · obtain ⟨b1, ys, b2, b3⟩ := r.ck a z
    exact ⟨nc a z, ys, b2, b3⟩
  · rcases hF a o z with y | y
    · exact .inl y
    · exact .inr (.inr ⟨i, s, ho, y⟩)
  · obtain ⟨q, h⟩ := ne_own j sj a e1 e2
    exact ⟨r.ownc a ⟨j, sj, h, e2⟩, .inl ⟨j, sj, h, e2⟩⟩
theorem Rel.freezeW {c : Option Addr} {F H : Hp} {env : Env'} {m : Nat} {σ : St} {i : Nat} {ds : D} (r : Rel K g c F env m σ H) (ho : env[i]? = some (.ow ds)) :
    ∃ F', Rel K g c F' (env.set i (.val ds)) m σ H ∧ Evo c (Own env σ) F H (Own (env.set i (.val ds)) σ) F' H := by
  obtain ⟨p, xs, hs, h1, h2, h3, h4⟩ := r.slot i _ ho
  refine ⟨upd F p xs, r.holdS ho (Evl.Ex.new h1) (fun a o z => ?_) (fun a u z => ?_) hs (h3.fix upd_same (Evl.Ex.new h1))⟩
  · by_cases y : a = p
    · subst y; rw [upd_same] at z; rw [← z]; exact h2
    · rw [upd_ne y] at z; exact r.sub a o z
  · by_cases y : a = p
    · subst y; exact .inr (by rw [hs]; simp [Sl.adr])
    · rw [upd_ne y] at z; exact .inl z
theorem Rel.freeze {c : Option Addr} {F H : Hp} {env : Env'} {m : Nat} {σ : St} {i : Nat} {ds : List D} (r : Rel K g c F env m σ H) (ho : env[i]? = some (.own ds)) :
    ∃ F', Rel K g c F' (env.set i (.val (.lst ds))) m σ H ∧ Evo c (Own env σ) F H (Own (env.set i (.val (.lst ds))) σ) F' H := r.freezeW ho
def dFreeze (i : Nat) (s : DS) : DS := fun env m E => ∃ ds, env[i]? = some (.own ds) ∧ s (env.set i (.val (.lst ds))) m E
theorem fr_weak {i : Nat} {s : DS} : ∀ D σ H, tSD K g (dFreeze i s) D σ H → tSD K g s D σ H := fun D σ H ⟨c, F, env, m, E, r, ⟨ds, ho, h⟩, o⟩ => by
  obtain ⟨F', r', v⟩ := r.freeze ho
  exact ⟨c, F', _, m, E, r', h, o.shift v⟩
theorem gs_freeze (i : Nat) {st : Stmt} {s : DS} (h : GS g X st s) : GS g X st (dFreeze i s) := PS.weak h fr_weak
theorem gss_freeze (i : Nat) {sts : List Stmt} {s : DS} (h : GSs g X sts s) : GSs g X sts (dFreeze i s) := PSs.weak h fr_weak

/-! ### x[k] = e, x a list of one's own -/
def dSetI (i : Nat) (dv dk : DE) : DS := fun env m E => dv env m fun x m1 => ∃ ds, env[i]? = some (.own ds) ∧ dk env m1 fun k m2 => ∃ (j : Int) (n : Nat), k = .int j ∧ ixN ds.length j = some n ∧ E.nx (env.set i (.own (ds.set n x))) m2
theorem gs_setI (i : Nat) {x : Str} {v k : Expr} {dv dk : DE} {p1 ps : Pos} (hv' : GE g X v dv) (hk : GE g X k dk) (hN : X.N[i]? = some x := by rfl) (hv : Vis X.env.scope x := by first | exact Or.inl rfl | exact Or.inr (Or.inl rfl) | exact Or.inr (Or.inr rfl)) (hd : (x == ("__debug__" : Str)) = false := by decide)
    (hcd : (x == ("__classdict__" : Str)) = false := by decide) (ha : ∀ w, assign (.Subscript (.Name x p1) k ps) X.env w = (do
      let ov ← holding [w] (eval (.Name x p1) X.env)
      let iv ← holding [w, ov] (eval k X.env)
      standAt ps
      holding [w, ov, iv] (setItem ov iv w)
      release [w, ov, iv] []) := by intro _; rfl) (hs : swapsWithSole [.Subscript (.Name x p1) k ps] v pos.line X.env = pure false := by rfl) (hw : swappedStores [.Subscript (.Name x p1) k ps] v X.env = pure none := by rfl)
    (h1 : (assignEach [.Subscript (.Name x p1) k ps] X.env).map (·.2) = [assign (.Subscript (.Name x p1) k ps) X.env] := by rfl) : GS g X (.Assign [.Subscript (.Name x p1) k ps] v pos) (dSetI i dv dk) :=
  PS.weak (ps_asg hv' (pg_sub (pe_var hN hv hd hcd) hk set_list ha) hs hw h1) fun D σ H ⟨c, F, env, m, E, r, h, o⟩ => ⟨c, F, env, m, _, r, h, fun u H1 F1 m1 y r1 f1 rp ⟨ds, ho, q1⟩ => by
    obtain ⟨p, xs, es, hp, rl, nc⟩ := own_at r1 ho
    refine ⟨.ref p, es, c, F1, env, m1, _, r1, q1, fun iv H2 F2 m2 k' r2 f2 rk ⟨j, n, ek, hj, q2⟩ => ?_⟩
    subst ek
    cases rk
    obtain ⟨p', xs', es', hp', rl', nc'⟩ := own_at r2 ho
    rw [es] at es'
    cases es'
    obtain ⟨r3, v3⟩ := r2.mut ho es (rl'.set (rp.mono f2.ff) n)
    exact ⟨p, xs', j, n, rfl, rfl, hp', by rw [rl'.length]; exact hj, o.nx σ _ F2 _ m2 r3 ((r.evo (f1.trans f2)).trans v3) q2⟩⟩
end
end G
/-! defs whose promise holds where nothing is being shown (Around.guards empty): so repr can be walked -/
namespace G
open PySem L2
abbrev Calm (A : Around) : Prop := A.guards = some []
structure FnG (P : Program) (w : World) (K : PySem.W.Frag) (mg : Str → Option Value) (base : Heap) (k : Nat) (f : Addr) (fd : FuncData) (ps : List Str) (sp : Sp) : Prop where
  len : ∀ vs H Q E, sp vs H Q E → vs.length = ps.length
  run : ∀ (A : Around) (outer : List Env) (s : Shared) (H : Hp) (args : Args) (us : List Value) (vs : List V) (Q : VK) (E : XK), Room k A → Calm A → Env0 P w K mg base A outer s H → BindsTo s fd args (ps.zip us) → Vals vs us → sp vs H Q E →
    codeAny (model P w) A (.call (.ref f) args) (CR CX0 outer P w H s Q E) s
theorem FnG.of {P : Program} {w : World} {K : PySem.W.Frag} {mg : Str → Option Value} {base : Heap} {k : Nat} {f : Addr} {fd : FuncData} {ps : List Str} {sp : Sp} (F : FnOk P w K mg base CX0 k f fd ps sp) : FnG P w K mg base k f fd ps sp :=
  ⟨F.len, fun A outer s H args us vs Q E hr _ => F.run A outer s H args us vs Q E hr⟩
section
variable {P : Program} {w : World} {K : PySem.W.Frag} {mg : Str → Option Value} {base : Heap} {g : Gp}
theorem fng_ok {x qual : Str} {st : Stmt} {f : Addr} {fd : FuncData} {N ps : List Str} {k : Nat} {sp : Sp} (F : Fun K x qual st f fd) (SC : FnScope N ps (defScope st)) (len : ∀ vs H Q E, sp vs H Q E → vs.length = ps.length)
    (body : ∀ (cdv : Value) (A : Around) (outer : List Env) (s : Shared) (H : Hp) (vs : List V) (Q : VK) (E : XK), Room k (A.deeper (PyProof.Rows.envOfC qual (defScope st) s.heap.objs.size f cdv)) → Calm (A.deeper (PyProof.Rows.envOfC qual (defScope st) s.heap.objs.size f cdv)) → sp vs H Q E →
      ∃ t, PSs (cxOf CX0 P w K mg base N qual (defScope st) f cdv A outer s H E).nox (defBody st) t ∧ t { nx := fun _ H' => Q .non H', rt := Q } (L2.start N vs) H) : FnG P w K mg base (k + 1) f fd ps sp := by
  obtain ⟨oc, od, kV, doc, pm, an, cdv, ct, osl, rfl, lk, hcd⟩ := F.ex
  refine ⟨len, fun A outer s H args us vs Q E room calm env0 bind vals want => ?_⟩
  have l0 := len _ _ _ _ want
  have kin : K.In s.heap := env0.mod.kin.keeps fun b o z => (env0.bs b o z).1
  have nolim : s.heap.NoLimit := env0.mod.nolimit.keeps fun b o z => (env0.bs b o z).1
  have kinds : ∀ y ∈ ps.zip us, (defScope st).names.lookup y.1 = some .local ∨ ((defScope st).names.lookup y.1 = some .cell ∧ ((cellsFrom (s.heap.objs.size + 1) (defScope st).names []).lookup y.1).isSome = true) := by
    rintro ⟨n, v⟩ hy
    exact (SC.par n (List.of_mem_zip hy).1).imp id fun c => ⟨c, PySem.W.cellsFrom_some _ _ _ (.inl c)⟩
  refine codeAny_call_function room.depth (kin _ _ lk) rfl SC.co SC.gen rfl (PySem.W.codeRec_of kin hcd) (bind _ _ _ _ ?_)
  refine wpAny_newFunctionEnv_cells SC.kind kinds fun env he s1 inside => ?_
  subst he
  refine ⟨nolim.keeps inside.toInCall.keep, codeAny_func ?_⟩
  obtain ⟨t, ht, good⟩ := body cdv A outer s H vs Q E (room.deeper _) calm want
  have I0 : Inv (cxOf CX0 P w K mg base N qual (defScope st) f cdv A outer s H E) [] (L2.start N vs) H s1 := inv_start SC room.hd env0 l0 vals inside
  refine wpAny_mono (ht.nox.run [] s1 (L2.start N vs) H _ I0 good) (fun fl s' res => ?_) fun e s' res => res
  cases fl with
  | ret u =>
    obtain ⟨v, σ', H', J, rv, q⟩ := res
    exact ⟨v, H', J.os, J.bare, J.base, J.hok, rv, q⟩
  | next =>
    obtain ⟨σ', H', J, q⟩ := res
    exact ⟨.non, H', J.os, J.bare, J.base, J.hok, rfl, q⟩
  | brk => exact res.choose_spec.choose_spec.2.elim
  | cont => exact res.choose_spec.choose_spec.2.elim
end
end G
namespace G
open PySem L2
/-- the law's own call, from a promise that wants calm -/
theorem law_callG {P : Program} {w : World} {K : PySem.W.Frag} {mg mb : Str → Option Value} {k : Nat} {fa a : Addr} {fd : FuncData} {x : Str} {sp : Sp} {s₁ : Shared} {vs : List Value} {ns : List Int}
    (kin : K.In s₁.heap) (gl : s₁.heap.Ns mainGlobals mg) (bl : s₁.heap.Ns builtinsNs mb) (boot : ∀ x : Str, x ≠ "__name__" → mb x = bootBuiltins x) (lim : s₁.heap.NoLimit) (gens : s₁.gens = #[])
    (scr : s₁.heap.get? a = some { cls := .type "list", data := .seq vs.toArray }) (isI : PyProof.Rows.IntsAre vs ns) (short : ns.length ≤ sizeLine) (room : Room k PySem.callerA)
    (F : ∀ base : Heap, K.In base → base.Ns mainGlobals mg → FnG P w K mg base k fa fd [x] sp) (bind : ∀ (s : Shared) (u : Value), BindsTo s fd ⟨[u], []⟩ [(x, u)])
    (want : ∀ H : Hp, Only H → SqL K H a (ns.map V.int) → sp [.ref a] H (fun v _ => v = .bl true) fun _ _ _ => False) :
    codeAny (model P w) PySem.callerA (.call (.ref fa) ⟨[.ref a], []⟩) (fun r s' => r = .ok (.ret (.bool true)) ∧ OldK s₁.heap s'.heap ∧ s'.os = s₁.os ∧ PyProof.Rows.AllBare s'.gens) s₁ := by
  have isV := vals_ints isI
  have lens := isI.length
  have from' : ∀ H : Hp, Only H → SqL K H a (ns.map V.int) → HOk P w H s₁.heap → (∀ b, H b ≠ none → b = a) → (H a ≠ none → K.lookup a = none) →
      codeAny (model P w) PySem.callerA (.call (.ref fa) ⟨[.ref a], []⟩) (fun r s' => r = .ok (.ret (.bool true)) ∧ OldK s₁.heap s'.heap ∧ s'.os = s₁.os ∧ PyProof.Rows.AllBare s'.gens) s₁ := by
    intro H only sq ok mine notK
    have hid : ∀ {b : Addr} {o : Obj}, s₁.heap.get? b = some o → H b = none → (hidT s₁.heap H).get? b = some o := fun z n => hidT_get z n
    have isA : ∀ {b : Addr} {u : HO}, H b = some u → b = a := fun {b u} z => mine b (by rw [z]; simp)
    have dicts : ∀ {b : Addr} {o : Obj} {es : Array DictEntry} {ep : Nat}, s₁.heap.get? b = some o → o.data = .dict es ep → H b = none := by
      intro b o es ep z d
      cases q : H b with
      | none => rfl
      | some u =>
        have e := isA q
        subst e
        rw [scr] at z
        cases z
        exact absurd d (fun y => nomatch y)
    have names : ∀ {b : Addr} {m : Str → Option Value}, s₁.heap.Ns b m → (hidT s₁.heap H).Ns b m := by
      rintro b m ⟨o, es, ep, z, d, rest⟩
      exact ⟨o, es, ep, hid z (dicts z d), d, rest⟩
    have kinB : K.In (hidT s₁.heap H) := by
      intro b o z
      refine hid (kin b o z) ?_
      cases q : H b with
      | none => rfl
      | some u =>
        have e := isA q
        subst e
        rw [notK (by rw [q]; simp)] at z
        cases z
    have md : Mod K mg (hidT s₁.heap H) := by
      obtain ⟨mc, h1, h2⟩ := lim
      exact ⟨kinB, names gl, ⟨mb, names bl, boot⟩, ⟨mc, names h1, h2⟩⟩
    have env0 : Env0 P w K mg (hidT s₁.heap H) PySem.callerA [] s₁ H := ⟨rfl, md, fun b o z => of_hidT z, Nat.le_of_eq (hidT_size _ _), trivial, (fun b hb => nomatch (show b ∈ ([] : List Addr) from hb)), ok, .of_eq gens⟩
    refine codeAny_mono ((F _ kinB (names gl)).run PySem.callerA [] s₁ H ⟨[.ref a], []⟩ [.ref a] [.ref a] _ _ room rfl env0 (bind s₁ (.ref a)) (.cons rfl .nil) (want H only sq)) fun r s' res => ?_
    cases r with
    | error e => exact res.elim
    | ok fl =>
      cases fl with
      | ret u =>
        obtain ⟨v, H', os, bare, un, ok', rel, q⟩ := res
        have q' : v = .bl true := q
        subst q'
        obtain rfl : u = Value.bool true := rel
        refine ⟨rfl, OldK.of_keep fun b o z => ?_, os, bare⟩
        cases q : H b with
        | none => exact un.keep b o z q (fun y => nomatch (show b ∈ ([] : List Addr) from y)) (by simp)
        | some u =>
          rcases only b with y | ⟨ob, xs, y⟩
          · rw [q] at y; cases y
          · obtain ⟨e1, _⟩ := ok b _ y
            obtain ⟨e2, _⟩ := ok' b _ (un.frzs b ob _ y)
            rw [z] at e1
            cases e1
            exact e2
      | next => exact False.elim res
      | brk => exact False.elim res
      | cont => exact False.elim res
  cases hk : K.lookup a with
  | some o =>
    have z := kin a o hk
    rw [scr] at z
    cases z
    exact from' (fun _ => none) (fun _ => .inl rfl) (.inr ⟨_, vs.toArray, _, hk, rfl, rfl, rfl, by rw [List.size_toArray, lens]; exact short, by simpa using isV⟩) (fun b u y => nomatch (show (none : Option HO) = some u from y)) (fun b y => absurd rfl y) fun y => absurd rfl y
  | none =>
    let H0 : Hp := fun b => if b = a then some (.frz { cls := .type "list", data := .seq vs.toArray } (.lst (ns.map V.int))) else none
    have at' : H0 a = some (.frz { cls := .type "list", data := .seq vs.toArray } (.lst (ns.map V.int))) := if_pos rfl
    have off : ∀ {b : Addr}, b ≠ a → H0 b = none := fun h => if_neg h
    have inA : ∀ {b : Addr}, H0 b ≠ none → b = a := fun {b} h => Classical.byContradiction fun n => h (off n)
    refine from' H0 (fun b => ?_) (.inl (.inr ⟨_, at'⟩)) (fun b u y => ?_) (fun b y => inA y) fun _ => hk
    · by_cases hb : b = a
      · rw [hb]; exact .inr ⟨_, _, at'⟩
      · exact .inl (off hb)
    · have hb : b = a := inA (by rw [y]; simp)
      rw [hb, at'] at y
      cases y
      rw [hb]
      exact ⟨scr, by rw [List.length_map]; exact short, vs, _, isV, scr⟩
end G
namespace G
open PySem L2
theorem walk_ofG {l : PySem.W.OpenLaw} {n k : Nat} {q : Program} {loose : List Str} {XP : (Str → Option Value) → Heap → Prop} {YP : World → Heap → Prop} {d : DefRec} {K : Params → PySem.W.Frag} {sp : World → Sp} {x : Str}
    (most : l.most = some n) (few : n ≤ sizeLine) (nodef : d.params.defaults = []) (room : Room k PySem.callerA) (kin : ∀ (w : World) (h : Heap), YP w h → (K w.params).In h)
    (F : ∀ (w : World) (mg : Str → Option Value) (fa : Addr) (h : Heap), (K w.params).In h → h.Ns mainGlobals mg → mg d.name = some (.ref fa) →
      ∃ fd : FuncData, (∀ (s : Shared) (u : Value), BindsTo s fd ⟨[u], []⟩ [(x, u)]) ∧ ∀ base : Heap, (K w.params).In base → base.Ns mainGlobals mg → FnG l.prog w (K w.params) mg base k fa fd [x] (sp w))
    (want : ∀ (w : World) (H : Hp) (a : Addr) (ns : List Int), ns.length ≤ n → Only H → SqL (K w.params) H a (ns.map V.int) → sp w [.ref a] H (fun v _ => v = .bl true) fun _ _ _ => False) :
    PySem.W.WalkO q loose XP YP l.row.toRowW d [] (fun f vs => PySem.call f vs) := by
  refine Att.attach_call most nodef fun w s₀ s₁ mg mb fa o pm cd doc a vs ns G Y _ _ _ isf obj isI len gens => ?_
  have kx := kin w _ Y
  obtain ⟨fd, bd, ok⟩ := F w mg fa _ kx G.T.g isf
  exact law_callG kx G.T.g G.T.b G.T.builtins G.T.nolimit gens obj isI (Nat.le_trans len few) room ok bd fun H only sq => want w H a ns len only sq
section
variable {g : Gp} {X : Cx} {k : Nat} {f : Addr} {fd : FuncData} {ps : List Str} {S : Spec} {x : Str} {p pos : Pos} {e : Expr} {es : List Expr} {da : DA}
theorem pe_callG {sp : Sp} {t : TA} (F : FnG X.prog X.w X.K X.mg X.base k f fd ps sp) (hr : Room k X.A) (hc : Calm X.A) (hg : Gl X x) (hm : X.mg x = some (.ref f)) (hk : PySem.W.keepIn X.K (.ref f) = true) (hb : Binds X.K fd ps []) (ha : PA X (e :: es) t)
    (hdb : (x == ("__debug__" : Str)) = false := by decide) (he : starEach (e :: es) X.env = (false, eval e X.env) :: starEach es X.env := by rfl) (hpl : (backTo pos (starEach es X.env)).any (·.1) = false := by rfl) :
    PE X (.Call (.Name x p) (e :: es) [] pos) (tCall sp [] E0 t) := by
  refine ⟨fun pins s σ H Q I h => ?_⟩
  refine wpAny_Call_Name_kw (ld_glob I hg hm ?_ hdb)
  refine PySem.W.callWith_K (h₀ := X.base) I.ok.mod.kin hk (thn (ha.run pos pins s σ H _ I h) fun us s1 ⟨vs, H1, I1, rv, q⟩ => ⟨I1.kIn, ?_⟩) he hpl
  have q : sp (vs ++ []) H1 Q E0 := q
  rw [List.append_nil] at q
  have hl : us.length = ps.length := by rw [← rv.length]; exact F.len _ _ _ _ q
  have hb' := hb s1 us I1.kIn (by simpa using hl)
  rw [List.append_nil] at hb'
  refine wpAny_call (codeAny_mono (F.run X.A X.stack s1 H1 ⟨us, []⟩ us vs Q E0 hr hc I1.env0 hb' rv q) fun r s' res => ?_)
  cases r with
  | error z => exact res.elim
  | ok fl =>
    cases fl with
    | ret u => exact I1.after res
    | next => exact False.elim res
    | brk => exact False.elim res
    | cont => exact False.elim res
theorem ge_callG (F : FnG X.prog X.w X.K X.mg X.base k f fd ps (spOf X.K g S)) (hr : Room k X.A) (hc : Calm X.A) (hg : Gl X x) (hm : X.mg x = some (.ref f)) (hk : PySem.W.keepIn X.K (.ref f) = true) (hb : Binds X.K fd ps [])
    (ha : GA g X (e :: es) da) (hdb : (x == ("__debug__" : Str)) = false := by decide) (he : starEach (e :: es) X.env = (false, eval e X.env) :: starEach es X.env := by rfl) (hpl : (backTo pos (starEach es X.env)).any (·.1) = false := by rfl) :
    GE g X (.Call (.Name x p) (e :: es) [] pos) (dCall S da) := PE.weak (pe_callG F hr hc hg hm hk hb ha hdb he hpl) call_weak
end
end G
namespace G
open PySem L2
/-! ### repr of a list or a tuple, where nothing is being shown -/
theorem cr_repr {X : Cx} (calm : Calm X.A) (hu : X.A.units + 64 < cLine) : CallR X (.builtin "repr") (fun xs H Q => ∃ (a : Addr) (d : PyData), xs = [.ref a] ∧ Dp X.K H (.ref a) d ∧ d.showable = true ∧ d.hasDict = false ∧ d.depth ≤ 60 ∧ d.shown.length ≤ LL ∧ Q (.str d.shown) H) := by
  intro pins s σ H xs us Q I r h
  obtain ⟨a, d, rfl, dp, sh, nd, dep, len, q⟩ := h
  obtain ⟨u, rfl, ru⟩ := vals1 r
  obtain ⟨as, rd⟩ := Dp.reads I d _ u dp ru
  cases ru
  refine PySem.repr_of_reads' rd sh (fun e => by rw [nd] at e; cases e) calm (by omega) (fun _ _ z => z) (fun h' t tk hk => ?_) (ll len)
  exact ⟨.str d.shown, H, I.kept hk, ⟨t, rfl⟩, q⟩
end G
namespace G
open PySem L2
section
variable {P : Program} {w : World} {K : PySem.W.Frag} {mg : Str → Option Value} {base : Heap} {g : Gp}
theorem def_okG {x qual : Str} {st : Stmt} {f : Addr} {fd : FuncData} {N ps : List Str} {k : Nat} {S : Spec} (F : Fun K x qual st f fd) (SC : FnScope N ps (defScope st)) (len : ∀ as m Q, S as m Q → as.length = ps.length)
    (body : ∀ (cdv : Value) (A : Around) (outer : List Env) (s : Shared) (H : Hp) (E : XK), Room k (A.deeper (PyProof.Rows.envOfC qual (defScope st) s.heap.objs.size f cdv)) → Calm (A.deeper (PyProof.Rows.envOfC qual (defScope st) s.heap.objs.size f cdv)) →
      ∃ d, GSs g (cxOf CX0 P w K mg base N qual (defScope st) f cdv A outer s H E).nox (defBody st) d ∧ ∀ as m Q, S as m Q → d (pad N as) m { nx := fun _ m' => Q .non m', rt := Q }) :
    FnG P w K mg base (k + 1) f fd ps (spOf K g S) := by
  refine fng_ok F SC (fun vs H Q E h => ?_) (fun cdv A outer s H vs Q E hr calm h => ?_)
  · obtain ⟨c, F1, as, m, Q', _, ar, _, hs, _⟩ := h
    rw [← ar.length]; exact len as m Q' hs
  · obtain ⟨c, F1, as, m, Q', ex, ar, ck, hs, kk⟩ := h
    obtain ⟨d, gs, hd⟩ := body cdv A outer s H E hr calm
    obtain ⟨rel, no⟩ := start_rel (N := N) ex ar ck
    have toF : ∀ {O' : Addr → Prop} {F' H' : Hp}, Evo c (Own (pad N as) (L2.start N vs)) F1 H O' F' H' → Fresh c F1 H F' H' := fun v => ⟨v.ff, v.fh, fun a o h n => v.hh a o h n (no a), fun a o h => (v.new a o h).imp id fun z => z.elim id fun y => (no a y).elim, v.nc⟩
    refine ⟨_, gs, c, F1, _, m, _, rel, hd as m Q' hs, ⟨fun σ' H' F' env' m' r' v q => kk .non H' F' m' .non (toF v) r'.ck .non q, fun _ _ _ _ _ _ _ q => q.elim, fun _ _ _ _ _ _ _ q => q.elim, fun v H' F' m' y ck' ev rp q => kk v H' F' m' y (toF ev) ck' rp q⟩⟩
end
end G
/-! sorted of tuples, the first of which is the empty one (all lots of a web begin so) -/
namespace G
open PySem L2
open PySem.W (dataLe AllAlike Sortable EachIs dataLt alike alikeAll)
open PySem.SeqAt PyProof.Rows in
/-- one tuple against another one, as sorting asks where all keys are of one type -/
theorem lt_tups {prog : Program} {w : World} {A : Around} {E : Value → Shared → Prop} {s : Shared} {ks ls : List PyData} {u v : Value} {au av : List Addr} {Q : Bool → Shared → Prop} (ru : Reads s.heap u (.tuple ks) au) (rv : Reads s.heap v (.tuple ls) av)
    (hal : alikeAll ks ls = true) (hroom : A.units + min (PyData.tuple ks).depth (PyData.tuple ls).depth < cLine) (want : Q (dataLt (.tuple ks) (.tuple ls)) s) : wpAny (model prog w) A (oneLt' true u v) Q E s := by
  cases ru with
  | @tuple pu ou ius nu _ _ g1 g2 g3 g4 =>
    cases rv with
    | @tuple pv ov ivs nv _ _ f1 f2 f3 f4 =>
      have lu : ius.size = ks.length := by simpa using ReadsAll.length _ _ _ g4
      have lv : ivs.size = ls.length := by simpa using ReadsAll.length _ _ _ f4
      rw [PySem.W.dataLt_tuple, ← PySem.W.firstLt_toks ks ls hal, ← lu, ← lv] at want
      rw [oneLt'_eq]
      simp only [if_true]
      refine wpAny_bind (wpAny_cRoomFor (room_here hroom) ?_)
      obtain ⟨cu, du, tu, su⟩ := ou
      obtain ⟨cv, dv, tv, sv⟩ := ov
      simp only at g2 g3 f2 f3
      subst g2 g3 f2 f3
      have eqs : ∀ j (h1 : j < ius.size) (h2 : j < ivs.size), EqAt A.in1 s ius[j] ivs[j] (pairEq ks ls j) := fun j j1 j2 => by
        have := PySem.W.eqAt_alikeAll ks ls A.in1 s ius.toList ivs.toList _ _ g4 f4 hal (room_in hroom) j (by simpa using j1) (by simpa using j2)
        simpa using this
      have lts : ∀ j (h1 : j < ius.size) (h2 : j < ivs.size), pairEq ks ls j = false → RcLt A.in1 s ius[j] ivs[j] (dataLt (ks.getD j .none) (ls.getD j .none)) := fun j j1 j2 hj => by
        have := PySem.W.rcLt_alikeAll ks ls A.in1 s ius.toList ivs.toList _ _ g4 f4 hal (room_in hroom) j (by simpa using j1) (by simpa using j2) hj
        simpa using this
      exact wpAny_bind (wpAny_callSpecialIfBound?_slot (T := "tuple") ⟨_, g1, rfl⟩ F.slot_tuple_lt (call_meets F.slot_tuple_lt ⟨_, g1, rfl⟩ F.entry_tuple_lt (F.args_tuple_lt_2 _ _) (tuple_ltAt pu pv ius ivs nu nv du dv su sv _ _) ⟨g1, f1, eqs, lts, wpAny_truthy_bool want⟩))
open PySem.SeqAt PyProof.Rows in
theorem first_looks {prog : Program} {w : World} {A : Around} {E : Value → Shared → Prop} {s : Shared} {v : Value} {ks : List PyData} {au : List Addr} (r : Reads s.heap v (.tuple ks) au) : ∃ o : Option Value, (ks = [] → o = none) ∧ ∀ Q' : Option Value → Shared → Prop, Q' o s → wpAny (model prog w) A (firstOfTuple' v) Q' E s := by
  have lk := PySem.W.looks_reads (M := model prog w) r
  cases r with
  | @tuple p o its n _ _ g1 g2 g3 g4 =>
    have hn : its.size = ks.length := by simpa using ReadsAll.length _ _ _ g4
    refine ⟨its[0]?, fun e => ?_, fun Q' q => ?_⟩
    · subst e
      exact Array.getElem?_eq_none (by rw [hn]; exact Nat.le_refl _)
    · rw [PySem.W.kas_first_eq]
      refine wpAny_bind (lk.here ?_)
      have ht : (PySem.W.dataType (PyData.tuple ks) != Value.type "tuple") = false := by simp [PySem.W.dataType]
      rw [ht, if_neg (by simp)]
      exact wpAny_bind (wpAny_listItems g1 g3 (wpAny_pure q))
open PySem.SeqAt PyProof.Rows in
theorem firsts_go {prog : Program} {w : World} {A : Around} {E : Value → Shared → Prop} {s : Shared} : ∀ {vs : List Value} {ds : List PyData}, EachIs (fun v d => ∃ as, Reads s.heap v d as) vs ds → (∀ d ∈ ds, ∃ ks, d = .tuple ks) →
    ∃ os : List (Option Value), os.length = vs.length ∧ (ds.head? = some (.tuple []) → os.head? = some none) ∧ ∀ Q' : List (Option Value) → Shared → Prop, Q' os s → wpAny (model prog w) A (vs.mapM firstOfTuple') Q' E s
  | _, _, .nil, _ => ⟨[], rfl, fun h => by simp at h, fun Q' q => by rw [List.mapM_nil]; exact wpAny_pure q⟩
  | _, _, .cons (b := d) ⟨as, r⟩ t, h => by
    obtain ⟨ks, e⟩ := h d (by simp)
    subst e
    obtain ⟨os, h1, _, h3⟩ := firsts_go (prog := prog) (w := w) (A := A) (E := E) t fun d' hd => h d' (by simp [hd])
    obtain ⟨o, q1, q2⟩ := first_looks (prog := prog) (w := w) (A := A) (E := E) r
    refine ⟨o :: os, by simp [h1], fun z => ?_, fun Q' q => ?_⟩
    · simp at z
      simp [q1 z]
    · rw [List.mapM_cons]
      exact wpAny_bind (q2 _ (wpAny_bind (h3 _ (wpAny_pure q))))
open PySem.SeqAt PyProof.Rows in
theorem sorts0 {prog : Program} {w : World} {A : Around} {s : Shared} {vs : List Value} {ds : List PyData} (e : EachIs (fun v d => ∃ as, Reads s.heap v d as) vs ds) (hal : AllAlike ds) (ht : ∀ d ∈ ds, ∃ ks, d = .tuple ks) (h0 : ds.head? = some (.tuple []))
    (hu : ∀ d, d ∈ ds → A.units + d.depth < cLine) : PySem.W.SortsAt prog w A s (PySem.W.dataKind s.heap ds) vs := by
  refine ⟨fun v hv => ?_, oneType', fun E x y a b Q ha hb hq => ?_, fun h2 E Q hq => ?_⟩
  · obtain ⟨d, hd, as, r⟩ := e.left v hv
    exact ⟨_, PySem.W.dataKind_some hal hd r⟩
  · obtain ⟨d, as, hd, ra, rfl⟩ := PySem.W.dataKind_inv ha
    obtain ⟨d', as', hd', rb, rfl⟩ := PySem.W.dataKind_inv hb
    have al := hal d hd d' hd'
    have hr := hu d hd
    obtain ⟨ks, rfl⟩ := ht d hd
    obtain ⟨ls, rfl⟩ := ht d' hd'
    rw [keyLt'_oneType]
    exact lt_tups ra rb (by simpa [alike] using al) (by omega) hq
  · obtain ⟨os, n1, n2, n3⟩ := firsts_go (prog := prog) (w := w) (A := A) (E := E) e ht
    rw [keyKind'_eq, List.mapM_toArray, map_eq_pure_bind]
    refine wpAny_bind (wpAny_bind (n3 _ (wpAny_pure ?_)))
    have hh := n2 h0
    have e0 : os.toArray[0]? = some none := by
      cases os with
      | nil => simp at hh
      | cons o r => simp at hh; simp [hh]
    rw [if_neg (by
      cases os with
      | nil => simp at hh
      | cons o r => simp at hh; simp [hh]), e0]
    rw [if_neg (by simp)]
    rw [oneTypeOnly'_eq, List.mapM_toArray, map_eq_pure_bind]
    refine wpAny_bind (wpAny_bind (wpAny_bind (PySem.W.kas_mapM (r := Value.type "tuple") _ (fun v hv Q' q => ?_) (wpAny_pure ?_))))
    · obtain ⟨d, hd, as, r⟩ := e.left v hv
      obtain ⟨ks, rfl⟩ := ht d hd
      exact (PySem.W.looks_reads r).here q
    · obtain ⟨v1, rest, rfl⟩ : ∃ v1 rest, vs = v1 :: rest := by
        cases vs with
        | nil => simp at h2
        | cons a b => exact ⟨a, b, rfl⟩
      have z0 : (List.map (fun _ => Value.type "tuple") (v1 :: rest)).toArray[0]? = some (Value.type "tuple") := by simp
      rw [z0]
      have za : ((List.map (fun _ => Value.type "tuple") (v1 :: rest)).toArray.all fun x => x == Value.type "tuple") = true := by
        simp only [List.all_toArray, List.all_map, List.all_eq_true]
        exact fun _ _ => beq_self_eq_true _
      simp only [za, if_true]
      exact wpAny_pure (wpAny_pure hq)
def rSort0 (K : PySem.W.Frag) : List V → Hp → VK → Prop := fun vs H Q => ∃ (a : Addr) (ps : List (V × PyData)), vs = [.ref a] ∧ SqL K H a (ps.map (·.1)) ∧ (∀ p ∈ ps, Dp K H p.1 p.2 ∧ p.2.depth ≤ 60) ∧ AllAlike (ps.map (·.2)) ∧ (∀ d ∈ ps.map (·.2), ∃ ks, d = .tuple ks) ∧ (ps.map (·.2)).head? = some (.tuple []) ∧ ps.length ≤ LL ∧
  ∀ p, H p = none → Q (.ref p) (upd H p (.lst ((sortV ps).map (·.1))))
theorem cr_sort0 {X : Cx} (hu : X.A.units + 64 < cLine) : CallR X (.builtin "sorted") (rSort0 X.K) := by
  intro pins s σ H vs us Q I r h
  obtain ⟨a, ps, rfl, hs, hd, ha, ht, h0, hl, q⟩ := h
  obtain ⟨its, rv, pl, _⟩ := I.list hs
  rw [Vals.ref1 r]
  have e1 : EachIs (fun u (b : V × PyData) => RelV b.1 u) its ps := each_of_vals (f := fun p : V × PyData => p.1) rv fun b _ u h => h
  have e2 : EachIs (fun u (b : V × PyData) => ∃ as, Reads (PySem.W.sortingHeap (PySem.W.copyHeap s.heap its) (s.heap.objs.size + 1) its) u b.2 as) its ps := each_of_vals (f := fun p : V × PyData => p.1) rv fun b hb u h => by
    obtain ⟨as, ra⟩ := Dp.reads I b.2 b.1 u (hd b hb).1 h
    exact ⟨as, PyProof.Rows.Reads.keeps (fun _ _ => PySem.W.sorting_copy_old) ra⟩
  have S : PySem.W.SortsAt X.prog X.w X.A.in1.in1 { s with heap := PySem.W.sortingHeap (PySem.W.copyHeap s.heap its) (s.heap.objs.size + 1) its } _ its :=
    sorts0 (s := { s with heap := PySem.W.sortingHeap (PySem.W.copyHeap s.heap its) (s.heap.objs.size + 1) its }) (PySem.W.each_map (R := fun v d => ∃ as, Reads (PySem.W.sortingHeap (PySem.W.copyHeap s.heap its) (s.heap.objs.size + 1) its) v d as) (fun p : V × PyData => p.2) e2) ha ht h0 (fun d hd' => by
      obtain ⟨b, hb, rfl⟩ := List.mem_map.mp hd'
      have z := (hd b hb).2
      have y : X.A.in1.in1.units ≤ X.A.units + 2 := by first | exact Nat.le_refl _ | simp [Around.in1]
      omega)
  have hlen : its.length = ps.length := e1.length
  refine PySem.W.sorted_vals pl.isList S (by rw [hlen]; exact ll hl) ?_
  have eo := PySem.W.sortVals_data (enc := fun p : V × PyData => p.2) false e1 e2 ha
  generalize hout : PySem.W.sortVals _ false its its = out at eo
  obtain ⟨ep, he'⟩ := PyProof.Rows.sortedAll_at s.heap its out.toArray
  have hn := I.hok.fresh (Nat.le_succ s.heap.objs.size)
  have hL : ((sortV ps).map (·.1)).length ≤ sizeLine := by
    unfold sortV
    rw [List.length_map, List.length_mergeSort]
    exact ll hl
  exact ⟨.ref _, upd H (s.heap.objs.size + 1) (.lst ((sortV ps).map (·.1))), I.laid (t' := s.toks) (fun _ _ => PyProof.Rows.sortedAll_old) (Nat.le_succ _) ⟨hL, out, ep, vals_of_each (f := fun p : V × PyData => p.1) eo, he'⟩, rfl, q _ hn⟩
def D.isT : D → Bool | .tup _ => true | _ => false
def sortOk0 (ds : List D) : Bool := alikeL ds && ds.all D.isT && (match ds with | .tup [] :: _ => true | _ => false) && ds.all (·.okd 60) && decide (ds.length ≤ LL)
def sorted0D : List D → Option (List D)
  | [.lst ds] => if sortOk0 ds then some (sortL ds) else none
  | _ => none
theorem zip_dp {K : PySem.W.Frag} {g : Gp} {F H : Hp} (e : Ex F H) : ∀ {es : List D} {ys : List V}, RepL K g F es ys → es.all (·.okd 60) = true → ∀ q ∈ ys.zip (es.map D.py), Dp K H q.1 q.2 ∧ q.2.depth ≤ 60
  | _, _, .nil, _, q, hq => by simp at hq
  | d :: r, _, .cons h1 t1, o, q, hq => by
    simp only [List.all_cons, Bool.and_eq_true] at o
    simp only [List.map_cons, List.zip_cons_cons, List.mem_cons] at hq
    rcases hq with rfl | hq
    · exact ⟨rep_dp e d 60 _ o.1 h1, (okd_lay d 60 o.1).2⟩
    · exact zip_dp e t1 o.2 q hq
theorem cn_sorted0 {K : PySem.W.Frag} {g : Gp} : CallN K g (rSort0 K) sorted0D := fun c F H xs ds vs Q' e nc rp hz k => by
  unfold sorted0D at hz
  split at hz
  · rename_i es
    split at hz
    · rename_i ok
      cases hz
      unfold sortOk0 at ok
      simp only [Bool.and_eq_true, decide_eq_true_eq] at ok
      obtain ⟨⟨⟨⟨o1, o2⟩, o5⟩, o3⟩, o4⟩ := ok
      cases rp with
      | cons h t =>
        cases t
        obtain ⟨p, ys, rfl, g1, g2, _⟩ := h
        have hl := g2.length
        have z1 : (ys.zip (es.map D.py)).map (·.1) = ys := List.map_fst_zip (by rw [List.length_map]; omega)
        have z2 : (ys.zip (es.map D.py)).map (·.2) = es.map D.py := List.map_snd_zip (by rw [List.length_map]; omega)
        refine ⟨p, ys.zip (es.map D.py), rfl, by rw [z1]; exact SqL.of g1, zip_dp e g2 o3, ?_, ?_, ?_, ?_, fun l hl' => ?_⟩
        · rw [z2]
          intro d hd d' hd'
          obtain ⟨a, ha, rfl⟩ := List.mem_map.mp hd
          obtain ⟨b, hb, rfl⟩ := List.mem_map.mp hd'
          unfold alikeL at o1
          exact List.all_eq_true.mp (List.all_eq_true.mp o1 a ha) b hb
        · rw [z2]
          intro d hd
          obtain ⟨a, ha, rfl⟩ := List.mem_map.mp hd
          have := List.all_eq_true.mp o2 a ha
          cases a with
          | tup l => exact ⟨pyL l, by simp only [D.py]⟩
          | _ => cases this
        · rw [z2]
          split at o5
          · simp [D.py, pyL]
          · cases o5
        · rw [List.length_zip, List.length_map]; omega
        · exact k l _ F _ (new_lay e hl').1 hl' (new_lay e hl' (ys := (sortV (ys.zip (es.map D.py))).map (·.1))).2.1 upd_same (sort_rep g2)
    · cases hz
  · cases hz
end G
/-! new objects (lists, dicts) of any kind; a, b, c = e, [..], {..} -/
namespace G
open PySem L2
/-- a new object that is nobody's -/
def tNw (K : PySem.W.Frag) (g : Gp) (d : DE) : TE := fun σ H Q' => ∃ c F env m Q, Rel K g c F env m σ H ∧ d env m Q ∧
  ∀ p H' F' m' x u, Rel K g c F' env m' σ H' → Fresh c F H F' H' → H p = none → F' p = none → c ≠ some p → H' p = some u → ObR K g F' x u → Q x m' → Q' (.ref p) H'
def GNw (g : Gp) (X : Cx) (e : Expr) (d : DE) : Prop := PE X e (tNw X.K g d)
section
variable {g : Gp} {X : Cx} {a b e : Expr} {es : List Expr} {d : DE} {dl : DL} {dr : DA} {pos : Pos}
theorem gnw_n (h : GN g X e dl) : GNw g X e (dNew dl) := PE.weak h fun σ H Q ⟨c, F, env, m, Q1, r, hd, k⟩ => ⟨c, F, env, m, _, r, hd, fun p H' F' m' ds xs r' f h0 hp hc h1 h2 q => k p H' F' m' (.lst ds) _ r' f h0 hp hc h1 (show ObR X.K g F' (.lst ds) (.lst xs) from ⟨xs, rfl, h2⟩) q⟩
theorem fix_fresh' {K : PySem.W.Frag} {c : Option Addr} {F H F' H' : Hp} {p : Addr} {u : HO} (f : Fresh c F H F' H') (h0 : H p = none) (hp : F' p = none) (hc : c ≠ some p) (h1 : H' p = some u) : Fresh c F H (upd F' p u) H' where
  ff := f.ff.trans (Evl.Ex.new hp)
  fh := fun a o z => by
    by_cases y : a = p
    · subst y; rw [upd_same] at z; rw [← z]; exact h1
    · rw [upd_ne y] at z; exact f.fh a o z
  hh := f.hh
  new := fun a o z => by
    by_cases y : a = p
    · subst y; exact .inr h0
    · rw [upd_ne y] at z; exact f.new a o z
  nc := fun a z => by
    have y : a ≠ p := fun e => hc (by rw [← e]; exact z)
    rw [upd_ne y]; exact f.nc a z
theorem ge_nw (h : GNw g X e d) : GE g X e d := PE.weak h fun σ H Q ⟨c, F, env, m, Q1, r, hd, k⟩ => ⟨c, F, env, m, _, r, hd, fun p H' F' m' x u r' f h0 hp hc h1 h2 q => by
  have f2 := fix_fresh' (K := X.K) f h0 hp hc h1
  refine k (.ref p) H' _ m' x (r.fresh f2 fun a z => ?_) f2 (h2.fix upd_same (Evl.Ex.new hp)) q
  obtain ⟨b1, ys, b2, b3⟩ := r'.ck a z
  exact ⟨f2.nc a z, ys, b2, b3⟩⟩
/-- x = a new object -/
def dAsgW (i : Nat) (d : DE) : DS := fun env m E => d env m fun x m1 => E.nx (env.set i (.ow x)) m1
theorem gs_setW {i : Nat} {x : Str} {pos' : Pos} (hN : X.N.Nodup) (hi : X.N[i]? = some x) (hx : Loc X.env.scope x) (he : GNw g X e d) (hs : swapsWith e (some (.Name x pos')) pos.line X.env = pure false := by rfl)
    (hf : X.fn x = true ∨ X.env.scope.names.lookup x = some .local := by first | exact .inl rfl | exact .inr rfl | assumption) : GS g X (.Assign [.Name x pos'] e pos) (dAsgW i d) :=
  PS.weak (ps_set hN hi hx he hs hf) fun D σ H ⟨c, F, env, m, E, r, h, o⟩ => ⟨c, F, env, m, _, r, h, fun p H' F' m' y u r' f h0 hp hc h1 h2 q => by
    refine o.nx _ H' F' _ m' (r'.setOw hp h1 h2 hc (not_own r h0)) ?_ q
    have v := r.evo f
    refine ⟨v.ff, v.fh, v.hh, v.new, v.nc, fun a z => ?_⟩
    rcases own_setO r.len z with rfl | y
    · exact ⟨hc, .inr h0⟩
    · exact v.own a y⟩

/-! ### mixed elements -/
def ownA : List Sl → List V → List Addr
  | s :: ss, v :: vs => s.adr (some (some v)) ++ ownA ss vs
  | _, _ => []
inductive ItR (K : PySem.W.Frag) (g : Gp) (c : Option Addr) (H0 F H : Hp) : List Sl → List V → Prop
  | nil : ItR K g c H0 F H [] []
  | cons {s : Sl} {v : V} {ss : List Sl} {vs : List V} : SlR K g c F H s (some (some v)) → (∀ a ∈ s.adr (some (some v)), H0 a = none ∧ a ∉ ownA ss vs) → ItR K g c H0 F H ss vs → ItR K g c H0 F H (s :: ss) (v :: vs)
theorem ItR.own {K : PySem.W.Frag} {c : Option Addr} {H0 F H : Hp} : ∀ {ss : List Sl} {vs : List V}, ItR K g c H0 F H ss vs → ∀ p ∈ ownA ss vs, H0 p = none ∧ c ≠ some p
  | _, _, .nil, p, h => by simp [ownA] at h
  | _, _, .cons h1 h2 t, p, h => by
    simp only [ownA, List.mem_append] at h
    rcases h with h | h
    · exact ⟨(h2 p h).1, (h1.at h).2.1⟩
    · exact t.own p h
theorem ItR.length {K : PySem.W.Frag} {c : Option Addr} {H0 F H : Hp} : ∀ {ss : List Sl} {vs : List V}, ItR K g c H0 F H ss vs → vs.length = ss.length
  | _, _, .nil => rfl
  | _, _, .cons _ _ t => by rw [List.length_cons, List.length_cons, t.length]
theorem len2 {α : Type} {l : List α} (h : l.length = 2) : ∃ a b, l = [a, b] := by
  match l, h with
  | [a, b], _ => exact ⟨a, b, rfl⟩
theorem len3 {α : Type} {l : List α} (h : l.length = 3) : ∃ a b c, l = [a, b, c] := by
  match l, h with
  | [a, b, c], _ => exact ⟨a, b, c, rfl⟩
theorem ItR.lower {K : PySem.W.Frag} {c : Option Addr} {H0 H1 F H : Hp} (k : ∀ p, H1 p = none → c ≠ some p → H0 p = none) : ∀ {ss : List Sl} {vs : List V}, ItR K g c H1 F H ss vs → ItR K g c H0 F H ss vs
  | _, _, .nil => .nil
  | _, _, .cons h1 h2 t => .cons h1 (fun a ha => ⟨k a (h2 a ha).1 (h1.at ha).2.1, (h2 a ha).2⟩) (t.lower k)
theorem ItR.up {K : PySem.W.Frag} {c : Option Addr} {H0 F H H' : Hp} (e : Ex H H') : ∀ {ss : List Sl} {vs : List V}, ItR K g c H0 F H ss vs → ItR K g c H0 F H' ss vs
  | _, _, .nil => .nil
  | _, _, .cons h1 h2 t => .cons (h1.keep (fun _ _ z => z) fun a ha => by
      obtain ⟨q1, _, u, q2⟩ := h1.at ha
      exact ⟨q1, by rw [q2, e a u q2]⟩) h2 (t.up e)
def tMx (K : PySem.W.Frag) (g : Gp) (d : DA) : TA := fun σ H Q' => ∃ c F env m Q, Rel K g c F env m σ H ∧ d env m Q ∧
  ∀ vs H' F' m' ss, Rel K g c F' env m' σ H' → Fresh c F H F' H' → ItR K g c H F' H' ss vs → Q ss m' → Q' vs H'
def GMx (g : Gp) (X : Cx) (es : List Expr) (d : DA) : Prop := PA X es (tMx X.K g d)
def dConsW (d : DE) (r : DA) : DA := fun env m Q => d env m fun x m1 => r env m1 fun as m2 => Q (.ow x :: as) m2
theorem fresh_back {c : Option Addr} {F H F' H' : Hp} (f : Fresh c F H F' H') : ∀ p, H' p = none → c ≠ some p → H p = none := fun p h hc => by
  cases y : H p with
  | none => rfl
  | some u => rw [f.hh p u y hc] at h; cases h
theorem gmx_nil : GMx g X [] dNilA := PA.weak pa_nil fun σ H Q ⟨c, F, env, m, Q1, rl, hd, k⟩ => k [] H F m [] rl (Fresh.refl rl.sub rl.ck) .nil hd
theorem gmx_val (ha : GE g X e d) (hr : GMx g X es dr) (hs : starEach (e :: es) X.env = (false, eval e X.env) :: starEach es X.env := by rfl) : GMx g X (e :: es) (dConsA d dr) := PA.weak (pa_cons ha hr hs) fun σ H Q ⟨c, F, env, m, Q1, rl, hd, k⟩ =>
  ⟨c, F, env, m, _, rl, hd, fun v H1 F1 m1 x r1 f1 rp q1 => ⟨c, F1, env, m1, _, r1, q1, fun vs H2 F2 m2 as r2 f2 it q2 => k _ H2 F2 m2 _ r2 (f1.trans f2) (.cons (s := .val x) ⟨v, rfl, rp.mono f2.ff⟩ (fun a ha => by simp [Sl.adr] at ha) (it.lower (fresh_back f1))) q2⟩⟩
theorem gmx_new (ha : GNw g X e d) (hr : GMx g X es dr) (hs : starEach (e :: es) X.env = (false, eval e X.env) :: starEach es X.env := by rfl) : GMx g X (e :: es) (dConsW d dr) := PA.weak (pa_cons ha hr hs) fun σ H Q ⟨c, F, env, m, Q1, rl, hd, k⟩ =>
  ⟨c, F, env, m, _, rl, hd, fun p H1 F1 m1 x u r1 f1 h0 hp hc hu ob q1 => ⟨c, F1, env, m1, _, r1, q1, fun vs H2 F2 m2 as r2 f2 it q2 => by
    have nF : F2 p = none := by
      cases z : F2 p with
      | none => rfl
      | some o =>
        rcases f2.new p o z with y | y
        · rw [hp] at y; cases y
        · rw [hu] at y; cases y
    exact k _ H2 F2 m2 _ r2 (f1.trans f2) (.cons (s := .ow x) ⟨p, u, rfl, nF, f2.hh _ _ hu hc, ob.mono f2.ff, hc⟩ (fun a ha => by
      rw [show (Sl.ow x).adr (some (some (.ref p))) = [p] from rfl, List.mem_singleton] at ha
      subst ha
      exact ⟨h0, fun z => by rw [(it.own a z).1] at hu; cases hu⟩) (it.lower (fresh_back f1))) q2⟩⟩
/-! the targets -/
def setE : Env' → List Nat → List Sl → Env'
  | env, i :: is, s :: ss => setE (env.set i s) is ss
  | env, _, _ => env
def setS : St → List Nat → List V → St
  | σ, i :: is, v :: vs => setS (σ.set i (some v)) is vs
  | σ, _, _ => σ
theorem items_set {K : PySem.W.Frag} {c : Option Addr} {H0 F H : Hp} {m : Nat} : ∀ {ss : List Sl} {vs : List V} (is : List Nat) {env : Env'} {σ : St}, ItR K g c H0 F H ss vs → Rel K g c F env m σ H → (∀ p ∈ ownA ss vs, ¬ Own env σ p) →
    Rel K g c F (setE env is ss) m (setS σ is vs) H ∧ ∀ a, Own (setE env is ss) (setS σ is vs) a → Own env σ a ∨ a ∈ ownA ss vs
  | _, _, [], env, σ, it, r, _ => by
    cases it <;> exact ⟨by simpa [setE, setS] using r, fun a h => .inl (by simpa [setE, setS] using h)⟩
  | _, _, i :: is, env, σ, .nil, r, _ => ⟨r, fun a h => .inl h⟩
  | _, _, i :: is, env, σ, .cons hs h2 t, r, no => by
    have r1 := r.setS (i := i) (fun a ha => no a (by simp [ownA, ha])) hs
    obtain ⟨h1, h3⟩ := items_set is t r1 fun q hq z => by
      rcases own_set1 r.len z with z | z
      · exact (h2 q z).2 hq
      · exact no q (by simp [ownA, hq]) z
    refine ⟨h1, fun a h => ?_⟩
    rcases h3 a h with z | z
    · rcases own_set1 r.len z with z | z
      · exact .inr (by simp [ownA, z])
      · exact .inl z
    · exact .inr (by simp [ownA, z])
theorem items_end {K : PySem.W.Frag} {c : Option Addr} {F H F1 H1 : Hp} {m m1 : Nat} {env : Env'} {σ : St} {ss : List Sl} {vs : List V} (is : List Nat) (r : Rel K g c F env m σ H) (r1 : Rel K g c F1 env m1 σ H1) (f1 : Fresh c F H F1 H1) (it : ItR K g c H F1 H1 ss vs) :
    Rel K g c F1 (setE env is ss) m1 (setS σ is vs) H1 ∧ Evo c (Own env σ) F H (Own (setE env is ss) (setS σ is vs)) F1 H1 := by
  obtain ⟨h1, h2⟩ := items_set is it r1 fun p hp => not_own r (it.own p hp).1
  have v := r.evo f1
  refine ⟨h1, v.ff, v.fh, v.hh, v.new, v.nc, fun a z => ?_⟩
  rcases h2 a z with y | y
  · exact v.own a y
  · exact ⟨(it.own a y).2, .inr (it.own a y).1⟩
def dMix (is : List Nat) (d : DA) : DS := fun env m E => d env m fun ss m1 => ss.length = is.length ∧ E.nx (setE env is ss) m1
/-- a, b = .. (plain locals) -/
theorem gs_mix2 {i j : Nat} {x y : Str} {px py pt : Pos} {kt k2 pt2} (hc : X.calm = true) (hN : X.N.Nodup) (hi : X.N[i]? = some x) (hj : X.N[j]? = some y) (hij : i ≠ j)
    (hx : X.env.scope.names.lookup x = some .local) (hy : X.env.scope.names.lookup y = some .local) (ha : GMx g X [a, b] dr)
    (hw : swappedStores [.Tuple [.Name x px, .Name y py] kt pt] (.Tuple [a, b] k2 pt2) X.env = pure (some [x, y]))
    (hs : swapsWithSole [.Tuple [.Name x px, .Name y py] kt pt] (.Tuple [a, b] k2 pt2) pos.line X.env = pure false := by rfl) :
    GS g X (.Assign [.Tuple [.Name x px, .Name y py] kt pt] (.Tuple [a, b] k2 pt2) pos) (dMix [i, j] dr) := PS.weak (ps_par hc hN hi hj hij hx hy ha hw hs) fun D σ H ⟨c, F, env, m, E, r, h, o⟩ =>
  ⟨c, F, env, m, _, r, h, fun vs H1 F1 m1 ss r1 f1 it ⟨hl, q⟩ => by
    obtain ⟨ra, ev⟩ := items_end [i, j] r r1 f1 it
    obtain ⟨v1, v2, rfl⟩ := len2 (it.length.trans hl)
    obtain ⟨s1, s2, rfl⟩ := len2 hl
    exact ⟨v1, v2, rfl, o.nx _ H1 F1 _ m1 ra ev q⟩⟩
theorem gs_mix3 {cc : Expr} {i j l : Nat} {x y z : Str} {px py pz pt : Pos} {kt k2 pt2} (hc : X.calm = true) (hN : X.N.Nodup) (hi : X.N[i]? = some x) (hj : X.N[j]? = some y) (hl : X.N[l]? = some z) (hij : i ≠ j) (hil : i ≠ l) (hjl : j ≠ l)
    (hx : X.env.scope.names.lookup x = some .local) (hy : X.env.scope.names.lookup y = some .local) (hz : X.env.scope.names.lookup z = some .local) (ha : GMx g X [a, b, cc] dr)
    (hw : swappedStores [.Tuple [.Name x px, .Name y py, .Name z pz] kt pt] (.Tuple [a, b, cc] k2 pt2) X.env = pure (some [x, y, z]))
    (hs : swapsWithSole [.Tuple [.Name x px, .Name y py, .Name z pz] kt pt] (.Tuple [a, b, cc] k2 pt2) pos.line X.env = pure false := by rfl) :
    GS g X (.Assign [.Tuple [.Name x px, .Name y py, .Name z pz] kt pt] (.Tuple [a, b, cc] k2 pt2) pos) (dMix [i, j, l] dr) := PS.weak (ps_par3 hc hN hi hj hl hij hil hjl hx hy hz ha hw hs) fun D σ H ⟨c, F, env, m, E, r, h, o⟩ =>
  ⟨c, F, env, m, _, r, h, fun vs H1 F1 m1 ss r1 f1 it ⟨hl, q⟩ => by
    obtain ⟨ra, ev⟩ := items_end [i, j, l] r r1 f1 it
    obtain ⟨v1, v2, v3, rfl⟩ := len3 (it.length.trans hl)
    obtain ⟨s1, s2, s3, rfl⟩ := len3 hl
    exact ⟨v1, v2, v3, rfl, o.nx _ H1 F1 _ m1 ra ev q⟩⟩
/-- the same, not plain locals -/
theorem gs_mixT2 {i j : Nat} {x y : Str} {px py pt : Pos} {kt k2 pt2} (hc : X.calm = true) (hN : X.N.Nodup) (hi : X.N[i]? = some x) (hj : X.N[j]? = some y)
    (hx : Loc X.env.scope x) (hy : Loc X.env.scope y) (ha : GMx g X [a, b] dr)
    (hs : swapsWithSole [.Tuple [.Name x px, .Name y py] kt pt] (.Tuple [a, b] k2 pt2) pos.line X.env = pure false := by rfl) (hw : swappedStores [.Tuple [.Name x px, .Name y py] kt pt] (.Tuple [a, b] k2 pt2) X.env = pure none := by rfl)
    (hh : (assignEach [.Tuple [.Name x px, .Name y py] kt pt] X.env).map (·.2) = [assign (.Tuple [.Name x px, .Name y py] kt pt) X.env] := by rfl)
    (hf : X.fn x = true ∨ X.env.scope.names.lookup x = some .local := by first | exact .inl rfl | exact .inr rfl | assumption) (hf2 : X.fn y = true ∨ X.env.scope.names.lookup y = some .local := by first | exact .inl rfl | exact .inr rfl | assumption)
    (hn : (assignEach [.Name x px, .Name y py] X.env).length = 2 := by rfl) (hst : (assignEach [.Name x px, .Name y py] X.env).findIdx? (·.1) = none := by rfl)
    (he1 : (assignEach [.Name x px, .Name y py] X.env).map (·.2) = assign (.Name x px) X.env :: (assignEach [.Name y py] X.env).map (·.2) := by rfl) (he2 : (assignEach [.Name y py] X.env).map (·.2) = assign (.Name y py) X.env :: (assignEach [] X.env).map (·.2) := by rfl) :
    GS g X (.Assign [.Tuple [.Name x px, .Name y py] kt pt] (.Tuple [a, b] k2 pt2) pos) (dMix [i, j] dr) :=
  PS.weak (ps_asg (pe_tup ha) (pg_tup hc (pgs_cons (pg_name hN hi hx hf) (pgs_cons (pg_name hN hj hy hf2) pgs_nil he2) he1) hn hst) hs hw hh) fun D σ H ⟨c, F, env, m, E, r, h, o⟩ =>
  ⟨c, F, env, m, _, r, h, fun vs H1 F1 m1 ss r1 f1 it ⟨hl, q⟩ => by
    obtain ⟨v1, v2, rfl⟩ := len2 (it.length.trans hl)
    refine ⟨ll (show 2 ≤ LL by decide), fun t ht => ⟨t, _, rfl, SqT.of upd_same, rfl, v1, _, rfl, v2, _, rfl, rfl, ?_⟩⟩
    have n := New.lay (F := F1) (o := .tup [v1, v2]) r1.sub ht
    have it2 : ItR X.K g c H F1 (upd H1 t (.tup [v1, v2])) ss [v1, v2] := it.up n.hh
    obtain ⟨ra, ev⟩ := items_end [i, j] r (r1.new n) (f1.trans (n.fresh r1.ck)) it2
    obtain ⟨s1, s2, rfl⟩ := len2 hl
    exact o.nx _ _ F1 _ m1 ra ev q⟩
theorem gs_mixT3 {cc : Expr} {i j l : Nat} {x y z : Str} {px py pz pt : Pos} {kt k2 pt2} (hc : X.calm = true) (hN : X.N.Nodup) (hi : X.N[i]? = some x) (hj : X.N[j]? = some y) (hl : X.N[l]? = some z)
    (hx : Loc X.env.scope x) (hy : Loc X.env.scope y) (hz : Loc X.env.scope z) (ha : GMx g X [a, b, cc] dr)
    (hs : swapsWithSole [.Tuple [.Name x px, .Name y py, .Name z pz] kt pt] (.Tuple [a, b, cc] k2 pt2) pos.line X.env = pure false := by rfl) (hw : swappedStores [.Tuple [.Name x px, .Name y py, .Name z pz] kt pt] (.Tuple [a, b, cc] k2 pt2) X.env = pure none := by rfl)
    (hh : (assignEach [.Tuple [.Name x px, .Name y py, .Name z pz] kt pt] X.env).map (·.2) = [assign (.Tuple [.Name x px, .Name y py, .Name z pz] kt pt) X.env] := by rfl)
    (hf : X.fn x = true ∨ X.env.scope.names.lookup x = some .local := by first | exact .inl rfl | exact .inr rfl | assumption) (hf2 : X.fn y = true ∨ X.env.scope.names.lookup y = some .local := by first | exact .inl rfl | exact .inr rfl | assumption) (hf3 : X.fn z = true ∨ X.env.scope.names.lookup z = some .local := by first | exact .inl rfl | exact .inr rfl | assumption)
    (hn : (assignEach [.Name x px, .Name y py, .Name z pz] X.env).length = 3 := by rfl) (hst : (assignEach [.Name x px, .Name y py, .Name z pz] X.env).findIdx? (·.1) = none := by rfl)
    (he1 : (assignEach [.Name x px, .Name y py, .Name z pz] X.env).map (·.2) = assign (.Name x px) X.env :: (assignEach [.Name y py, .Name z pz] X.env).map (·.2) := by rfl) (he2 : (assignEach [.Name y py, .Name z pz] X.env).map (·.2) = assign (.Name y py) X.env :: (assignEach [.Name z pz] X.env).map (·.2) := by rfl) (he3 : (assignEach [.Name z pz] X.env).map (·.2) = assign (.Name z pz) X.env :: (assignEach [] X.env).map (·.2) := by rfl) :
    GS g X (.Assign [.Tuple [.Name x px, .Name y py, .Name z pz] kt pt] (.Tuple [a, b, cc] k2 pt2) pos) (dMix [i, j, l] dr) :=
  PS.weak (ps_asg (pe_tup ha) (pg_tup hc (pgs_cons (pg_name hN hi hx hf) (pgs_cons (pg_name hN hj hy hf2) (pgs_cons (pg_name hN hl hz hf3) pgs_nil he3) he2) he1) hn hst) hs hw hh) fun D σ H ⟨c, F, env, m, E, r, h, o⟩ =>
  ⟨c, F, env, m, _, r, h, fun vs H1 F1 m1 ss r1 f1 it ⟨hl, q⟩ => by
    obtain ⟨v1, v2, v3, rfl⟩ := len3 (it.length.trans hl)
    refine ⟨ll (show 3 ≤ LL by decide), fun t ht => ⟨t, _, rfl, SqT.of upd_same, rfl, v1, _, rfl, v2, _, rfl, v3, _, rfl, rfl, ?_⟩⟩
    have n := New.lay (F := F1) (o := .tup [v1, v2, v3]) r1.sub ht
    have it2 : ItR X.K g c H F1 (upd H1 t (.tup [v1, v2, v3])) ss [v1, v2, v3] := it.up n.hh
    obtain ⟨ra, ev⟩ := items_end [i, j, l] r (r1.new n) (f1.trans (n.fresh r1.ck)) it2
    obtain ⟨s1, s2, s3, rfl⟩ := len3 hl
    exact o.nx _ _ F1 _ m1 ra ev q⟩
end
end G
/-! dicts of one's own: d[k], d[k] = e, dict([(k, v) ..]), k in d -/
namespace G
open PySem L2
def kvGet (kds : List (Key × D)) (k : Key) : Option D := (kds.find? fun kv => decide (kv.1 = k)).map (·.2)
def kvPut (kds : List (Key × D)) (k : Key) (d : D) : List (Key × D) := if (kds.any fun kv => decide (kv.1 = k)) = true then kds.map (fun kv => if kv.1 = k then (kv.1, d) else kv) else kds ++ [(k, d)]
/-- the pairs of a dict, by data -/
inductive KvR (K : PySem.W.Frag) (g : Gp) (F : Hp) : List (Key × D) → List (Key × V) → Prop
  | nil : KvR K g F [] []
  | cons {k : Key} {d : D} {v : V} {kds : List (Key × D)} {kvs : List (Key × V)} : Rep K g F d v → KvR K g F kds kvs → KvR K g F ((k, d) :: kds) ((k, v) :: kvs)
section
variable {K : PySem.W.Frag} {g : Gp} {F F' H : Hp}
theorem KvR.of : ∀ {kds : List (Key × D)} {kvs : List (Key × V)}, kvs.map (·.1) = kds.map (·.1) → RepL K g F (kds.map (·.2)) (kvs.map (·.2)) → KvR K g F kds kvs
  | [], [], _, _ => .nil
  | [], _ :: _, h, _ => by simp at h
  | _ :: _, [], h, _ => by simp at h
  | (k, d) :: kds, (k', v) :: kvs, h, r => by
    simp only [List.map_cons, List.cons.injEq] at h
    obtain ⟨rfl, h⟩ := h
    cases r with
    | cons r t => exact .cons r (KvR.of h t)
theorem KvR.to : ∀ {kds : List (Key × D)} {kvs : List (Key × V)}, KvR K g F kds kvs → kvs.map (·.1) = kds.map (·.1) ∧ RepL K g F (kds.map (·.2)) (kvs.map (·.2))
  | _, _, .nil => ⟨rfl, .nil⟩
  | _, _, .cons r t => ⟨by simp [t.to.1], .cons r t.to.2⟩
theorem KvR.length {kds : List (Key × D)} {kvs : List (Key × V)} (h : KvR K g F kds kvs) : kvs.length = kds.length := by
  have := congrArg List.length h.to.1
  simpa using this
theorem KvR.mono (e : Ex F F') : ∀ {kds : List (Key × D)} {kvs : List (Key × V)}, KvR K g F kds kvs → KvR K g F' kds kvs
  | _, _, .nil => .nil
  | _, _, .cons r t => .cons (r.mono e) (t.mono e)
theorem KvR.get {k : Key} {d : D} : ∀ {kds : List (Key × D)} {kvs : List (Key × V)}, KvR K g F kds kvs → kvGet kds k = some d → ∃ v, valV kvs k = some v ∧ Rep K g F d v
  | _, _, .nil, h => by simp [kvGet] at h
  | (k', d') :: kds, (_, v') :: kvs, .cons r t, h => by
    by_cases e : k' = k
    · subst e
      simp [kvGet, List.find?_cons] at h
      subst h
      exact ⟨v', valV_pos rfl, r⟩
    · have h' : kvGet kds k = some d := by simpa [kvGet, List.find?_cons, e] using h
      obtain ⟨v, h1, h2⟩ := t.get h'
      exact ⟨v, by rw [valV_neg e]; exact h1, h2⟩
theorem KvR.getN {k : Key} : ∀ {kds : List (Key × D)} {kvs : List (Key × V)}, KvR K g F kds kvs → kvGet kds k = none → valV kvs k = none
  | _, _, .nil, h => valV_nil
  | (k', d') :: kds, (_, v') :: kvs, .cons r t, h => by
    by_cases e : k' = k
    · subst e
      simp [kvGet, List.find?_cons] at h
    · have h' : kvGet kds k = none := by simpa [kvGet, List.find?_cons, e] using h
      rw [valV_neg e]; exact t.getN h'
theorem KvR.any (k : Key) : ∀ {kds : List (Key × D)} {kvs : List (Key × V)}, KvR K g F kds kvs → (kvs.any fun kv => decide (kv.1 = k)) = kds.any fun kv => decide (kv.1 = k)
  | _, _, .nil => rfl
  | _, _, .cons _ t => by simp only [List.any_cons, t.any k]
theorem KvR.snoc {k : Key} {d : D} {v : V} (r : Rep K g F d v) : ∀ {kds : List (Key × D)} {kvs : List (Key × V)}, KvR K g F kds kvs → KvR K g F (kds ++ [(k, d)]) (kvs ++ [(k, v)])
  | _, _, .nil => .cons r .nil
  | _, _, .cons r' t => .cons r' (t.snoc r)
theorem KvR.repl {k : Key} {d : D} {v : V} (r : Rep K g F d v) : ∀ {kds : List (Key × D)} {kvs : List (Key × V)}, KvR K g F kds kvs → KvR K g F (kds.map fun kv => if kv.1 = k then (kv.1, d) else kv) (kvs.map fun kv => if kv.1 = k then (kv.1, v) else kv)
  | _, _, .nil => .nil
  | (k', d') :: _, _, .cons r' t => by
    simp only [List.map_cons]
    by_cases e : k' = k
    · rw [if_pos e, if_pos e]; exact .cons r (t.repl r)
    · rw [if_neg e, if_neg e]; exact .cons r' (t.repl r)
theorem KvR.put {k : Key} {d : D} {v : V} (r : Rep K g F d v) {kds : List (Key × D)} {kvs : List (Key × V)} (h : KvR K g F kds kvs) : KvR K g F (kvPut kds k d) (putK kvs k v) := by
  unfold kvPut putK
  rw [h.any k]
  split
  · exact h.repl r
  · exact h.snoc r
def kvMerge (kds more : List (Key × D)) : List (Key × D) := more.foldl (fun acc kv => kvPut acc kv.1 kv.2) kds
theorem KvR.merge : ∀ {more : List (Key × D)} {moreV : List (Key × V)} {kds : List (Key × D)} {kvs : List (Key × V)}, KvR K g F more moreV → KvR K g F kds kvs → KvR K g F (kvMerge kds more) (mergeK kvs moreV)
  | _, _, _, _, .nil, h => h
  | _, _, _, _, .cons r t, h => by
    unfold kvMerge mergeK
    simp only [List.foldl_cons]
    exact KvR.merge t (h.put r)
end
section
variable {g : Gp} {X : Cx} {a b e : Expr} {es : List Expr} {d da db dv dk : DE} {dl : DL} {dr : DA} {pos : Pos}
/-- d[k] -/
def dixD : D → D → Option D
  | .dic kds, k => k.key.bind (kvGet kds)
  | _, _ => none
theorem ge_dix (hu : X.A.units + 64 < cLine) (ha : GB g X a da) (hb : GE g X b db) (hs : NoSl b := by exact fun _ _ => rfl) : GE g X (.Subscript a b pos) (dOp dixD da db) := PE.weak (pe_dget (by omega) ha hb hs) fun σ H Q ⟨c, F, env, m, Q1, rl, hd, k⟩ =>
  ⟨c, F, env, m, _, rl, hd, fun v H1 F1 m1 x r1 f1 rp1 q1 => ⟨c, F1, env, m1, _, r1, q1, fun w H2 F2 m2 y r2 f2 rp2 ⟨z, hz, q2⟩ => by
    cases x with
    | dic kds =>
      obtain ⟨key, hk, hg⟩ := Option.bind_eq_some_iff.mp hz
      obtain ⟨p, kvs, rfl, h1, h2, h3, h4⟩ := (rp1.mono f2).dic'
      obtain ⟨v', e1, e2⟩ := (KvR.of h2 h3).get hg
      rw [key_rep hk rp2]
      exact ⟨p, v', rfl, by rw [← e1]; exact DGet.k h1, k v' H2 F2 m2 z r2 (f1.trans f2) e2 q2⟩
    | _ => exact nomatch (show (none : Option D) = some z from hz)⟩⟩
/-- d[k] = e -/
def dSetD (i : Nat) (dv dk : DE) : DS := fun env m E => dv env m fun x m1 => ∃ kds, env[i]? = some (.ow (.dic kds)) ∧ dk env m1 fun k m2 => ∃ key, k.key = some key ∧ kds.length < LL ∧ E.nx (env.set i (.ow (.dic (kvPut kds key x)))) m2
theorem owd_at {K : PySem.W.Frag} {c : Option Addr} {F H : Hp} {env : Env'} {m : Nat} {σ : St} {i : Nat} {kds : List (Key × D)} (r : Rel K g c F env m σ H) (ho : env[i]? = some (.ow (.dic kds))) : ∃ p kvs, σ[i]? = some (some (.ref p)) ∧ H p = some (.dK kvs) ∧ KvR K g F kds kvs ∧ c ≠ some p := by
  obtain ⟨p, kvs, e, _, h2, h3, h4, h5⟩ := (r.slot i _ ho).owd'
  exact ⟨p, kvs, e, h2, KvR.of h3 h4, h5⟩
theorem gs_setD (hu : X.A.units + 64 < cLine) (i : Nat) {x : Str} {v k : Expr} {p1 ps : Pos} (hv' : GE g X v dv) (hk : GE g X k dk) (hN : X.N[i]? = some x := by rfl) (hv : Vis X.env.scope x := by first | exact Or.inl rfl | exact Or.inr (Or.inl rfl) | exact Or.inr (Or.inr rfl)) (hd : (x == ("__debug__" : Str)) = false := by decide)
    (hcd : (x == ("__classdict__" : Str)) = false := by decide) (ha : ∀ w, assign (.Subscript (.Name x p1) k ps) X.env w = (do
      let ov ← holding [w] (eval (.Name x p1) X.env)
      let iv ← holding [w, ov] (eval k X.env)
      standAt ps
      holding [w, ov, iv] (setItem ov iv w)
      release [w, ov, iv] []) := by intro _; rfl) (hs : swapsWithSole [.Subscript (.Name x p1) k ps] v pos.line X.env = pure false := by rfl) (hw : swappedStores [.Subscript (.Name x p1) k ps] v X.env = pure none := by rfl)
    (h1 : (assignEach [.Subscript (.Name x p1) k ps] X.env).map (·.2) = [assign (.Subscript (.Name x p1) k ps) X.env] := by rfl) : GS g X (.Assign [.Subscript (.Name x p1) k ps] v pos) (dSetD i dv dk) :=
  PS.weak (ps_asg hv' (pg_sub (pe_var hN hv hd hcd) hk (set_dict (by omega)) ha) hs hw h1) fun D σ H ⟨c, F, env, m, E, r, h, o⟩ => ⟨c, F, env, m, _, r, h, fun u H1 F1 m1 y r1 f1 rp ⟨kds, ho, q1⟩ => by
    obtain ⟨p, kvs, es, hp, kr, nc⟩ := owd_at r1 ho
    refine ⟨.ref p, es, c, F1, env, m1, _, r1, q1, fun iv H2 F2 m2 k' r2 f2 rk ⟨key, ek, hl, q2⟩ => ?_⟩
    obtain ⟨p', kvs', es', hp', kr', nc'⟩ := owd_at r2 ho
    rw [es] at es'
    cases es'
    rw [key_rep ek rk]
    have kp := kr'.put (k := key) (rp.mono f2.ff)
    obtain ⟨r3, v3⟩ := r2.mutW (ds' := .dic (kvPut kds key y)) (ys := .dK (putK kvs' key u)) ho es (show ObR X.K g F2 (.dic _) (.dK _) from ⟨_, rfl, kp.to⟩)
    exact ⟨p, _, rfl, DPut.k hp' (ll' (by rw [kr'.length]; exact hl)), o.nx σ _ F2 _ m2 r3 ((r.evo (f1.trans f2)).trans v3) q2⟩⟩
/-- dict(a list of pairs): a new dict -/
def prs : List D → Option (List (Key × D))
  | [] => some []
  | .tup [k, d] :: r => k.key.bind fun key => (prs r).map fun l => (key, d) :: l
  | _ => none
def dDictP (d : DE) : DE := fun env m Q => d env m fun x m1 => ∃ ds ps, x = .lst ds ∧ prs ds = some ps ∧ Q (.dic (kvMerge [] ps)) m1
theorem prs_rep {K : PySem.W.Frag} {F H : Hp} (e : Ex F H) : ∀ {ds : List D} {vs : List V} {ps : List (Key × D)}, RepL K g F ds vs → prs ds = some ps → ∃ (as : List Addr) (kvs : List (Key × V)), vs = as.map V.ref ∧ Paired (fun p (kv : Key × V) => SqT K H p [kV kv.1, kv.2]) as kvs ∧ KvR K g F ps kvs
  | _, _, _, .nil, h => by
    simp [prs] at h
    subst h
    exact ⟨[], [], rfl, .nil, .nil⟩
  | d :: r, _, ps, .cons h1 t1, h => by
    unfold prs at h
    split at h
    · rename_i z; cases z
    · rename_i k d' r' z
      cases z
      obtain ⟨key, hk, h⟩ := Option.bind_eq_some_iff.mp h
      obtain ⟨l, hl, rfl⟩ := Option.map_eq_some_iff.mp h
      obtain ⟨as, kvs, h2, h3, h4⟩ := prs_rep e t1 hl
      cases h1 with
      | @tup p xs _ hs rl =>
        cases rl with
        | cons ra rl =>
          cases rl with
          | cons rb rl =>
            cases rl
            have := key_rep hk ra
            subst this
            exact ⟨p :: as, (key, _) :: kvs, by rw [h2]; rfl, .cons (Evl.ex_t e hs) h3, .cons rb h4⟩
    · cases h
theorem gnw_dictP {p : Pos} (hc : X.calm = true) (hg : Gl X "dict") (hm : X.mg "dict" = none) (he : GB g X e d) (hs : starEach [e] X.env = (false, eval e X.env) :: starEach [] X.env := by rfl) : GNw g X (.Call (.Name "dict" p) [e] [] pos) (dDictP d) :=
  PE.weak (pe_callTy (call_dictP hc) hg hm (by decide +kernel) (pa_cons he pa_nil hs) (by decide) (by decide) hs rfl) fun σ H Q ⟨c, F, env, m, Q1, rl, hd, k⟩ =>
  ⟨c, F, env, m, _, rl, hd, fun v H1 F1 m1 x r1 f1 rp1 ⟨ds, ps, ex, hp, q⟩ => by
    subst ex
    obtain ⟨a, xs, rfl, h1, h2, h3⟩ := rp1
    obtain ⟨as, kvs, e1, e2, e3⟩ := prs_rep r1.sub h2 hp
    subst e1
    refine ⟨a, as, kvs, rfl, SqL.of h1, e2, fun q0 hq => ?_⟩
    have n := New.lay (F := F1) (o := .dK (mergeK [] kvs)) r1.sub hq
    have hc' : c ≠ some q0 := fun z => by obtain ⟨_, _, y, _⟩ := r1.ck q0 z; rw [y] at hq; cases hq
    exact k q0 _ F1 m1 _ _ (r1.new n) (f1.trans (n.fresh r1.ck)) (fresh_back f1 q0 hq hc') (ex_none r1.sub hq) hc' upd_same (show ObR X.K g F1 (.dic _) (.dK _) from ⟨_, rfl, (KvR.merge e3 .nil).to⟩) q⟩
/-- x.insert(k, e), x a list of one's own -/
def dIns (i : Nat) (dk d : DE) : DS := fun env m E => ∃ ds, env[i]? = some (.own ds) ∧ dk env m fun k m1 => d env m1 fun x m2 => ∃ n : Nat, k = .int n ∧ n ≤ ds.length ∧ ds.length < LL ∧ E.nx (env.set i (.own (ds.take n ++ [x] ++ ds.drop n))) m2
theorem gs_insert (i : Nat) {x : Str} {k : Expr} {p1 p2 p3 : Pos} (hk : GE g X k dk) (he : GE g X e d) (hN : X.N[i]? = some x := by rfl) (hv : Vis X.env.scope x := by first | exact Or.inl rfl | exact Or.inr (Or.inl rfl) | exact Or.inr (Or.inr rfl)) (hd : (x == ("__debug__" : Str)) = false := by decide)
    (hcd : (x == ("__classdict__" : Str)) = false := by decide) (hs : starEach [k, e] X.env = (false, eval k X.env) :: starEach [e] X.env := by rfl) (hs2 : starEach [e] X.env = (false, eval e X.env) :: starEach [] X.env := by rfl) (hbase : attributeBase (.Name x p1) "insert" X.env (eval (.Name x p1) X.env) = eval (.Name x p1) X.env := by rfl)
    (hfew : ((backTo p3 (starEach [k, e] X.env)).all (fun x => !x.1) && (backToKw p3 (keywordEach [] X.env)).all (fun x => x.1.isSome) && decide ([k, e].length + ([] : List Keyword).length + (if ([] : List Keyword).isEmpty then 0 else 1) < 30)) = true := by rfl)
    (hline : (p2.endLine == p3.line) = true := by rfl) (hpl : (backTo p3 (starEach [e] X.env)).any (·.1) = false := by rfl) (hsw : swapsWith (.Call (.Attribute (.Name x p1) "insert" p2) [k, e] [] p3) none pos.line X.env = pure false := by rfl) :
    GS g X (.Expr (.Call (.Attribute (.Name x p1) "insert" p2) [k, e] [] p3) pos) (dIns i dk d) :=
  PS.weak (ps_expr (pe_bm PySem.F.plainAttrs_list PySem.F.slot_list_insert PySem.F.type_list_insert mt_insert (pe_var hN hv hd hcd) (pa_cons hk (pa_cons he pa_nil hs2) hs) hbase hfew hline hs hpl) hsw) fun D σ H ⟨c, F, env, m, E, r, ⟨ds, ho, q⟩, o⟩ => by
    obtain ⟨p, xs, es, hp, rl, nc⟩ := own_at r ho
    refine ⟨.ref p, es, .inl ⟨rfl, xs, SqL.of hp⟩, c, F, env, m, _, r, q, fun kv H1 F1 m1 y r1 f1 rp1 q1 => ⟨c, F1, env, m1, _, r1, q1, fun v H2 F2 m2 z r2 f2 rp2 ⟨n, en, hn, hl, q2⟩ => ?_⟩⟩
    subst en
    cases rp1
    obtain ⟨p', xs', es', hp', rl', nc'⟩ := own_at r2 ho
    rw [es] at es'
    cases es'
    obtain ⟨r3, v3⟩ := r2.mut ho es (((rl'.take n).append (.cons rp2 .nil)).append (rl'.drop n))
    have hl' : xs'.length < LL := by rw [rl'.length]; exact hl
    have hn2 : (n : Int) < 2 ^ 63 := by
      have : n < 100000 := Nat.lt_of_le_of_lt hn hl
      omega
    refine ⟨p, xs', (n : Nat), v, rfl, rfl, hp', ll' hl', by omega, hn2, ?_⟩
    rw [Int.toNat_natCast]
    exact o.nx σ _ F2 _ m2 r3 ((r.evo (f1.trans f2)).trans v3) q2
end
end G
/-! len(set(a list of texts)) -/
namespace G
open PySem L2
/-- texts met, each once -/
def metS (l : List Str) : List Str := l.foldl (fun acc z => if acc.any (· == z) then acc else acc ++ [z]) []
theorem metS_snoc (l : List Str) (z : Str) : metS (l ++ [z]) = if (metS l).any (· == z) then metS l else metS l ++ [z] := by
  unfold metS; rw [List.foldl_append]; rfl
theorem metS_le (l : List Str) : (metS l).length ≤ l.length := by
  have : ∀ (l acc : List Str), (l.foldl (fun acc z => if acc.any (· == z) then acc else acc ++ [z]) acc).length ≤ acc.length + l.length := by
    intro l
    induction l with
    | nil => intro acc; simp
    | cons z r ih =>
      intro acc
      simp only [List.foldl_cons, List.length_cons]
      split
      · have := ih acc; omega
      · have := ih (acc ++ [z]); simp only [List.length_append, List.length_singleton] at this; omega
  have := this l []
  simpa [metS] using this
open PySem.Spec PyProof.Rows in
theorem set_loopS {prog : Program} {w : World} {A : Around} {R : Result → Shared → Prop} {It : Addr} {fpt wrt : List Addr} {Gn : Array GenState → Array GenState → Prop} {N : Nat} {Pv : Nat → Value → Prop} {Stt : Nat → Shared → Prop}
    (W : WalksS prog w A.in1 It fpt wrt Gn N Pv Stt) (B : Addr) (hB : B ∉ fpt) (zs : List Str) (hz : zs.length = N) (hb : N + 1 < scanBound) (hv : ∀ i v, Pv i v → ∃ t, v = .str (zs.getD i Str.empty) t) :
    ∀ (k i : Nat) (s : Shared), N - i = k → i ≤ N → Stt i s → s.heap.SetOf (PySem.strKind prog w) B (fun y => (metS (zs.take i)).any (· == y)) (metS (zs.take i)).length →
      (∀ s', Moved (B :: wrt) Gn s s' → s'.heap.SetOf (PySem.strKind prog w) B (fun y => (metS zs).any (· == y)) (metS zs).length → R (.ok (.ret .none)) s') →
      codeAny (model prog w) A (.builtin "set.update.loop" ⟨[.ref B, .ref It], []⟩) R s := by
  have hBw : B ∉ wrt := fun h => hB (W.sub _ h)
  have more : ∀ x ∈ wrt, x ∈ B :: wrt := fun x hx => List.mem_cons_of_mem _ hx
  intro k
  induction k with
  | zero =>
    intro i s e hi st hS fin
    obtain rfl : i = N := by omega
    refine codeAny_builtin PyProof.Rows.F.entry_set_update_loop ?_
    rw [Around.under_plainId PyProof.Rows.F.plain_set_update_loop _]
    show wpAny _ A.in1 (pyNext (.ref It) >>= _) _ _ s
    refine wpAny_bind (W.done s _ _ st fun s1 mv => ?_)
    show wpAny _ A.in1 (ret Value.none) _ _ s1
    rw [List.take_of_length_le (by omega)] at hS
    exact wpAny_pure (fin s1 (mv.mono more) (by
      obtain ⟨ob, es, ep, tb, hob, rest⟩ := hS
      exact ⟨ob, es, ep, tb, mv.heap B _ hBw hob, rest⟩))
  | succ k ih =>
    intro i s e hi st hS fin
    have lt : i < N := by omega
    refine codeAny_builtin PyProof.Rows.F.entry_set_update_loop ?_
    rw [Around.under_plainId PyProof.Rows.F.plain_set_update_loop _]
    show wpAny _ A.in1 (pyNext (.ref It) >>= _) _ _ s
    refine wpAny_bind (W.item i s _ _ lt st fun v s1 pv st1 mv => ?_)
    obtain ⟨t, rfl⟩ := hv i v pv
    have hS1 : s1.heap.SetOf (PySem.strKind prog w) B (fun y => (metS (zs.take i)).any (· == y)) (metS (zs.take i)).length := by
      obtain ⟨ob, es, ep, tb, hob, rest⟩ := hS
      exact ⟨ob, es, ep, tb, mv.heap B _ hBw hob, rest⟩
    show wpAny _ A.in1 (holding [Value.str (zs.getD i Str.empty) t] (setAdd B (.str (zs.getD i Str.empty) t)) >>= _) _ _ s1
    refine wpAny_bind (wpAny_holding ?_)
    unfold setAdd
    refine wpAny_holding (wpAny_bind ((PySem.strKind prog w).pyHash (k := zs.getD i Str.empty) (strKind_is _ _ _ _) ?_))
    have room : (metS (zs.take i)).length + 1 < scanBound := by
      have := metS_le (zs.take i)
      rw [List.length_take] at this
      omega
    refine wpAny_setAddHashed_of (knd := PySem.strKind prog w) (s := { s1 with toks := s1.toks + 1 }) (strKind_is _ _ _ _) rfl hS1 room fun h2 same hS2 => ?_
    have tk : zs.take (i + 1) = zs.take i ++ [zs.getD i Str.empty] := by
      rw [List.take_succ_eq_append_getElem (by omega), List.getD_eq_getElem?_getD, List.getElem?_eq_getElem (by omega)]
      rfl
    have hS3 : h2.SetOf (PySem.strKind prog w) B (fun y => (metS (zs.take (i + 1))).any (· == y)) (metS (zs.take (i + 1))).length := by
      rw [tk, metS_snoc]
      refine SetOf_congr hS2 (fun y => ?_) ?_
      · by_cases q : (metS (zs.take i)).any (· == zs.getD i Str.empty) = true
        · rw [if_pos q]
          by_cases z : y = zs.getD i Str.empty
          · subst z; rw [q]; simp
          · rw [decide_eq_false z, Bool.or_false]
        · rw [if_neg q, List.any_append]
          by_cases z : y = zs.getD i Str.empty
          · subst z; simp
          · have : (zs.getD i Str.empty == y) = false := by simpa [beq_iff_eq] using fun h : zs.getD i Str.empty = y => z h.symm
            simp only [List.any_cons, List.any_nil, Bool.or_false, this, decide_eq_false z]
      · split
        · rfl
        · simp
    refine wpAny_pure ⟨plainId_quiet PyProof.Rows.F.plain_set_update_loop _, ih (i + 1) _ (by omega) lt (W.frame _ s1 _ _ st1 (Nat.le_succ _) fun x hx o q => ?_) hS3 fun s3 mv3 hS4 => fin s3 (Moved.trans W.gtrans ((mv.mono more).then_heap (Nat.le_succ _) fun x o hx q => ?_) mv3) hS4⟩
    · rw [same.2 x fun h : x = B => hB (by rw [← h]; exact hx)]
      exact q
    · rw [same.2 x fun h : x = B => hx (by rw [h]; exact List.mem_cons_self)]
      exact q
open PySem.Spec PyProof.Rows in
theorem set_ofList {prog : Program} {w : World} {A : Around} {E : Value → Shared → Prop} {s : Shared} {l : Addr} {its : Array Value} {zs : List Str} {Q : Value → Shared → Prop} (hh : A.handled = none) (hl : s.heap.IsList l its) (hi : StrsAre its.toList zs) (hb : zs.length + 1 < scanBound)
    (fin : ∀ (h' : Heap) (tk : Nat), h'.SetOf (PySem.strKind prog w) s.heap.objs.size (fun y => (metS zs).any (· == y)) (metS zs).length → (∀ b o, b < s.heap.objs.size → s.heap.get? b = some o → h'.get? b = some o) → Q (.ref s.heap.objs.size) { s with heap := h', toks := tk }) :
    wpAny (model prog w) A (call (.type "set") [.ref l]) Q E s := by
  obtain ⟨cm, tlm, mro⟩ := PySem.F.called_set.mro
  have made := PySem.F.called_set.made
  have sub := PySem.F.called_set.sub
  refine wpAny_call (codeAny_of_tree ?_)
  show wpAny _ _ (callAny (.type "set") _) _ _ _
  refine wpAny_pure ⟨Code.quiet_builtin _ (by decide +kernel), codeAny_builtin PySem.F.entry_type_call ?_⟩
  rw [Around.under_plain (weight_type_call_type "set" [.ref l] []) rfl]
  have nt := PySem.F.called_set.notType
  have cc := PySem.F.called_set.canCreate
  have tc := PySem.F.typeCall_set_1 (.ref l)
  repeat (any_goals (first | assumption | wp_step))
  refine codeAny_mono (code_set_new_1 (.ref l) (E := E) (Q₁ := fun ob s1 => ∃ lv : Bool, ob = .ref s.heap.objs.size ∧ s1 = { s with heap := s.heap.push { cls := .type "set", dict := none, data := .set #[] 0 (.fresh 0 0 lv) } }) fun lv => ⟨lv, rfl, rfl⟩) fun r s1 hr => ?_
  cases r with
  | error e => exact hr
  | ok fl =>
    cases fl with
    | ret ob =>
      obtain ⟨lv, rfl, rfl⟩ := hr
      have gS : (s.heap.push { cls := .type "set", dict := none, data := .set #[] 0 (.fresh 0 0 lv) }).get? s.heap.objs.size = some { cls := .type "set", dict := none, data := .set #[] 0 (.fresh 0 0 lv) } := Heap.get?_push_size _ rfl
      have ty : Shared.TypeIs { s with heap := s.heap.push { cls := .type "set", dict := none, data := .set #[] 0 (.fresh 0 0 lv) } } (.ref s.heap.objs.size) "set" := ⟨_, gS, rfl⟩
      have li := PySem.F.called_set.init.lookup
      have bi := PySem.F.called_set.init.bind (.ref s.heap.objs.size)
      repeat (any_goals (first | assumption | wp_step))
      refine codeAny_mono (codeAny_call_builtin (R := wants (fun r s2 => r = .none ∧ ∃ h' tk, s2 = { s with heap := h', toks := tk } ∧ h'.SetOf (PySem.strKind prog w) s.heap.objs.size (fun y => (metS zs).any (· == y)) (metS zs).length ∧ (∀ b o, b < s.heap.objs.size → s.heap.get? b = some o → h'.get? b = some o)) E)
        PySem.F.called_set.init.plain PySem.F.entry_set_init (check_set_init_1 ty ?_)) fun r2 s2 hr2 => ?_
      · obtain ⟨⟨ocl, odi, oda, osl⟩, hol, hcl, nl, hdl⟩ := hl
        simp only at hcl hdl
        subst hcl; subst hdl
        have hol1 : (s.heap.push { cls := .type "set", dict := none, data := .set #[] 0 (.fresh 0 0 lv) }).get? l = some { cls := .type "list", dict := odi, data := .seq its nl, slots := osl } := Heap.get?_push_of_some _ hol
        have s1 := PySem.F.sub_list_set
        have s2 := PySem.F.sub_list_frozenset
        have s3 : (Value.type "list" == Value.type "dict") = false := by decide
        have isl : (s.heap.push { cls := .type "set", dict := none, data := .set #[] 0 (.fresh 0 0 lv) }).IsList l its := ⟨_, hol1, rfl, nl, rfl⟩
        unfold Builtin.«set.__init__» noKeywords Builtin.Frozenset.updateFrom
        generalize hPI : pyIter = PI
        wp_walk
        subst hPI
        refine wpAny_pyIter_list isl (wpAny_bind (wpAny_runValue ?_))
        have lS : l < s.heap.objs.size := Heap.lt_size hol
        have h3 : A.in1.in1.in1.handled = none := by simp [hh]
        have nI : l ≠ (s.heap.push { cls := .type "set", dict := none, data := .set #[] 0 (.fresh 0 0 lv) }).objs.size := by
          rw [Heap.size_push]; exact Nat.ne_of_lt (Nat.lt_succ_of_lt lS)
        have nS : s.heap.objs.size ∉ [(s.heap.push { cls := .type "set", dict := none, data := .set #[] 0 (.fresh 0 0 lv) }).objs.size, l] := by
          rw [Heap.size_push]
          simp only [List.mem_cons, List.not_mem_nil, or_false, not_or]
          refine ⟨Nat.ne_of_lt (Nat.lt_succ_self _), Nat.ne_of_gt lS⟩
        have sz : zs.length = its.size := by rw [← StrsAre.len_eq hi, Array.length_toList]
        have vl : ∀ (i : Nat) (v : Value), its[i]? = some v → ∃ t, v = .str (zs.getD i Str.empty) t := fun i v q => SS.strs_at hi i v (by rw [Array.getElem?_toList]; exact q)
        refine set_loopS ((Walks.list h3 _ l nI its).toS) s.heap.objs.size nS zs sz (by omega) vl (its.size - 0) 0 _ (by omega) (Nat.zero_le _) ⟨⟨_, Heap.get?_push_size _ rfl, rfl, rfl⟩, isl.push _⟩ ?_ ?_
        · have gt : ((s.heap.push { cls := .type "set", dict := none, data := .set #[] 0 (.fresh 0 0 lv) }).push { cls := .type "list_iterator", data := .fields #[.ref l, .int 0 0] }).get? s.heap.objs.size = some { cls := .type "set", dict := none, data := .set #[] 0 (.fresh 0 0 lv) } := Heap.get?_push_of_some _ gS
          exact SetOf_congr ((setObjOf_fresh (knd := PySem.strKind prog w) lv).setOf gt (by unfold scanBound; omega)) (fun _ => rfl) rfl
        · intro sE mv hE
          obtain ⟨hp2, gn2, dr2, tk2, os2⟩ := sE
          have e1 : gn2 = s.gens := mv.gens
          have e2 : dr2 = s.drawn := mv.drawn
          have e3 : os2 = s.os := mv.os
          subst e1; subst e2; subst e3
          show wpAny _ _ _ _ _ _
          refine wpAny_pure ?_
          show wpAny _ _ (ret Value.none) _ _ _
          refine wpAny_pure ⟨rfl, hp2, tk2, rfl, hE, fun b o hb q => mv.heap b o ?_ (Heap.get?_push_of_some _ (Heap.get?_push_of_some _ q))⟩
          rw [Heap.size_push]
          simp only [List.mem_cons, List.not_mem_nil, or_false, not_or]
          refine ⟨Nat.ne_of_lt hb, Nat.ne_of_lt (Nat.lt_succ_of_lt hb)⟩
      · cases r2 with
        | error e => exact hr2
        | ok fl2 =>
          cases fl2 with
          | ret r =>
            obtain ⟨rfl, h', tk, rfl, hE, hk⟩ := hr2
            repeat (any_goals (first | assumption | wp_step))
            exact fin _ _ hE hk
          | _ => exact hr2.elim
    | _ => exact hr.elim
/-- len(set(x)), x a list of texts -/
def strsE : List D → Option (List Str)
  | [] => some []
  | .str z :: r => (strsE r).map (z :: ·)
  | _ => none
theorem strsE_map : ∀ zs : List Str, strsE (zs.map D.str) = some zs
  | [] => rfl
  | z :: r => by rw [List.map_cons]; unfold strsE; rw [strsE_map r]; rfl
theorem strsE_inv : ∀ {ds : List D} {zs : List Str}, strsE ds = some zs → ds = zs.map D.str
  | [], _, h => by simp [strsE] at h; subst h; rfl
  | .str z :: r, _, h => by
    unfold strsE at h
    obtain ⟨l, hl, rfl⟩ := Option.map_eq_some_iff.mp h
    rw [strsE_inv hl]; rfl
  | .non :: _, _, h => by simp [strsE] at h
  | .bl _ :: _, _, h => by simp [strsE] at h
  | .int _ :: _, _, h => by simp [strsE] at h
  | .tup _ :: _, _, h => by simp [strsE] at h
  | .lst _ :: _, _, h => by simp [strsE] at h
  | .dic _ :: _, _, h => by simp [strsE] at h
  | .web _ _ :: _, _, h => by simp [strsE] at h
def dLenSetS (d : DE) : DE := fun env m Q => d env m fun x m1 => ∃ ds zs, x = .lst ds ∧ strsE ds = some zs ∧ zs.length ≤ 50 ∧ Q (.int ((metS zs).length : Nat)) m1
theorem ge_lenSetS {g : Gp} {X : Cx} {a : Expr} {d : DE} {p p2 q pos : Pos} (hc : X.calm = true) (hg : Gl X "len") (hm : X.mg "len" = none) (hg2 : Gl X "set") (hm2 : X.mg "set" = none) (ha : GB g X a d)
    (na : starEach [a] X.env = (false, eval a X.env) :: starEach [] X.env := by rfl) : GE g X (.Call (.Name "len" p) [.Call (.Name "set" p2) [a] [] q] [] pos) (dLenSetS d) := by
  refine ⟨fun pins s σ H Q I ⟨c, F, env, m, Q1, rl, hd, k⟩ => ?_⟩
  refine PyProof.Rows.Call_ (ld_blt I hg hm PySem.boot_len (PyProof.Rows.callWith_builtin1 (PyProof.Rows.args_cons ?_ rfl) rfl rfl))
  refine PyProof.Rows.Call_ (ld_blt I hg2 hm2 PyProof.Rows.boot_set ?_)
  refine PyProof.Rows.callWith_type1 (PyProof.Rows.args_cons (thn (ha.run pins s σ H _ I ⟨c, F, env, m, _, rl, hd, fun v H' F' m' x r' f' rp q' => (⟨F', m', x, r', f', rp, q'⟩ : ∃ F' m' x, Rel X.K g c F' env m' σ H' ∧ Fresh c F H F' H' ∧ RepT X.K g c F' H' x v ∧ ∃ ds zs, x = .lst ds ∧ strsE ds = some zs ∧ zs.length ≤ 50 ∧ Q1 (.int ((metS zs).length : Nat)) m')⟩) fun v s1 ⟨x, H1, I1, r1, F1, m1, y, rr, ff, rp, ds, zs, ey, hz, hl, q1⟩ => PyProof.Rows.args_nil ?_) na) na rfl
  subst ey
  have := strsE_inv hz
  subst this
  obtain ⟨a', xs, rfl, h1, h2, _⟩ := rp
  have ex := repL_strs h2
  subst ex
  cases r1
  obtain ⟨its, rv, pl, _⟩ := I1.list (SqL.of h1)
  refine set_ofList (I1.ok.hd hc) pl.isList (zs := zs) (by simpa using strsAre_of rv) (by unfold scanBound; omega) fun h' tk hS hk => PyProof.Rows.args_nil ?_
  obtain ⟨o, es', ep, t, ho, hex, hdat, _, _, _, hf, hn⟩ := hS
  have I2 : Inv X pins σ H1 { s1 with heap := h', toks := tk } := I1.kept fun b o e => hk b o (Heap.lt_size e) e
  have le := metS_le zs
  exact call_len_set ho hex hdat hf (by rw [hn]; omega) ⟨.int ((metS zs).length : Nat), H1, I2.tok _, ⟨_, by rw [hn]⟩, k _ H1 F1 m1 _ rr ff (.int _) q1⟩
end G
/-! repr of lists and tuples by data; tuple(range(n)) -/
namespace G
open PySem L2
theorem slen (a b : Str) : (a ++ b).length = a.length + b.length := Str.length_append a b
theorem textFrom_le : ∀ (ts : List Str) (B k : Nat) (acc : Str), (∀ t ∈ ts, t.length ≤ B) → (textFrom k acc ts).length ≤ acc.length + ts.length * (B + 2)
  | [], B, k, acc, _ => by show acc.length ≤ _; omega
  | t :: r, B, k, acc, h => by
    have ih := textFrom_le r B (k + 1) (acc ++ (if k > 0 then ", " else "" : String) ++ t) fun x hx => h x (by simp [hx])
    have ht := h t (by simp)
    have e : (acc ++ (if k > 0 then ", " else "" : String) ++ t).length ≤ acc.length + 2 + t.length := by
      rw [slen, slen]
      split
      · show acc.length + 2 + t.length ≤ _; omega
      · show acc.length + 0 + t.length ≤ _; omega
    show (textFrom (k + 1) (acc ++ (if k > 0 then ", " else "" : String) ++ t) r).length ≤ _
    rw [List.length_cons, Nat.succ_mul]
    omega
theorem listText_le (ts : List Str) (B : Nat) (h : ∀ t ∈ ts, t.length ≤ B) : (listText ts).length ≤ 2 + ts.length * (B + 2) := by
  unfold listText
  rw [slen]
  have := textFrom_le ts B 0 "[" h
  have e1 : ((("[" : String) : Str)).length = 1 := rfl
  have e2 : ((("]" : String) : Str)).length = 1 := rfl
  omega
theorem join_le : ∀ (ts : List Str) (B : Nat), (∀ t ∈ ts, t.length ≤ B) → (Str.join ", " ts).length ≤ ts.length * (B + 2)
  | [], B, _ => Nat.zero_le _
  | [x], B, h => by
    have := h x (by simp)
    show x.length ≤ _
    simp only [List.length_singleton]
    omega
  | x :: y :: r, B, h => by
    have ih := join_le (y :: r) B fun t ht => h t (by simp [List.mem_cons.mp ht])
    have hx := h x (by simp)
    have e2 : (((", " : String) : Str)).length = 2 := rfl
    show (x ++ ", " ++ Str.join ", " (y :: r)).length ≤ _
    rw [slen, slen, e2, List.length_cons, Nat.succ_mul]
    omega
theorem tupleText_le (ts : List Str) (B : Nat) (h : ∀ t ∈ ts, t.length ≤ B) : (tupleText ts).length ≤ 3 + ts.length * (B + 2) := by
  unfold tupleText
  rw [slen, slen]
  have := join_le ts B h
  have e1 : ((("(" : String) : Str)).length = 1 := rfl
  have e2 : ((if (ts.length == 1) = true then ",)" else ")" : String) : Str).length ≤ 2 := by split <;> decide
  omega
theorem shownAll_map (ds : List PyData) : PyData.shownAll ds = ds.map PyData.shown := by
  induction ds with
  | nil => simp [PyData.shownAll]
  | cons d r ih => simp [PyData.shownAll, ih]
theorem pyL_map (ds : List D) : pyL ds = ds.map D.py := by
  induction ds with
  | nil => simp [pyL]
  | cons d r ih => simp [pyL, ih]
theorem shown_lst_le {ds : List D} {B : Nat} (h : ∀ d ∈ ds, d.py.shown.length ≤ B) : (D.lst ds).py.shown.length ≤ 2 + ds.length * (B + 2) := by
  simp only [D.py, PyData.shown]
  rw [shownAll_map, pyL_map, List.map_map]
  have := listText_le (ds.map (PyData.shown ∘ D.py)) B fun t ht => by
    obtain ⟨d, hd, rfl⟩ := List.mem_map.mp ht
    exact h d hd
  simpa using this
theorem shown_tup_le {ds : List D} {B : Nat} (h : ∀ d ∈ ds, d.py.shown.length ≤ B) : (D.tup ds).py.shown.length ≤ 3 + ds.length * (B + 2) := by
  simp only [D.py, PyData.shown]
  rw [shownAll_map, pyL_map, List.map_map]
  have := tupleText_le (ds.map (PyData.shown ∘ D.py)) B fun t ht => by
    obtain ⟨d, hd, rfl⟩ := List.mem_map.mp ht
    exact h d hd
  simpa using this
theorem shown_small : ∀ n < 64, (D.int ((n : Nat) : Int)).py.shown.length ≤ 2 := by decide +kernel
/-- what can be shown: no dict, no web -/
def showD : D → Bool := fun d => d.okd 60 && d.py.showable && !d.py.hasDict
def reprD : List D → Option D
  | [.lst ds] => if showD (.lst ds) = true ∧ (D.lst ds).py.shown.length ≤ LL then some (.str (D.lst ds).py.shown) else none
  | [.tup ds] => if showD (.tup ds) = true ∧ (D.tup ds).py.shown.length ≤ LL then some (.str (D.tup ds).py.shown) else none
  | _ => none
theorem cd_repr {K : PySem.W.Frag} {g : Gp} : CallD K g (fun xs H Q => ∃ (a : Addr) (d : PyData), xs = [.ref a] ∧ Dp K H (.ref a) d ∧ d.showable = true ∧ d.hasDict = false ∧ d.depth ≤ 60 ∧ d.shown.length ≤ LL ∧ Q (.str d.shown) H) reprD := fun c F H xs z vs Q' e nc rp hz k => by
  have go : ∀ (d : D) (v : V), showD d = true → d.py.shown.length ≤ LL → RepT K g c F H d v → ∀ a, v = .ref a → ∃ (a : Addr) (q : PyData), [v] = [V.ref a] ∧ Dp K H (.ref a) q ∧ q.showable = true ∧ q.hasDict = false ∧ q.depth ≤ 60 ∧ q.shown.length ≤ LL ∧ (Q' (.str d.py.shown) H → Q' (.str q.shown) H) := fun d v h1 h2 r a ev => by
    subst ev
    unfold showD at h1
    simp only [Bool.and_eq_true, Bool.not_eq_true'] at h1
    exact ⟨a, d.py, rfl, repT_dp e h1.1.1 r, h1.1.2, h1.2, (okd_lay d 60 h1.1.1).2, h2, id⟩
  unfold reprD at hz
  split at hz
  · split at hz
    · rename_i h
      cases hz
      cases rp with
      | cons h0 t =>
        cases t
        obtain ⟨p, _, ep, _⟩ := id h0
        obtain ⟨a, q, e1, e2, e3, e4, e5, e6, e7⟩ := go _ _ h.1 h.2 h0 p ep
        exact ⟨a, q, e1, e2, e3, e4, e5, e6, e7 (k _ H F (New.refl e) (.str _))⟩
    · cases hz
  · split at hz
    · rename_i h
      cases hz
      cases rp with
      | cons h0 t =>
        cases t
        obtain ⟨p, _, ep, _⟩ := RepT.tup' h0
        obtain ⟨a, q, e1, e2, e3, e4, e5, e6, e7⟩ := go _ _ h.1 h.2 h0 p ep
        exact ⟨a, q, e1, e2, e3, e4, e5, e6, e7 (k _ H F (New.refl e) (.str _))⟩
    · cases hz
  · cases hz
/-- tuple(range(n)) -/
def dTupRg (d : DE) : DE := fun env m Q => d env m fun x m1 => ∃ n : Nat, x = .int (n : Nat) ∧ n ≤ LL ∧ Q (.tup (rangeD 0 (n : Nat))) m1
theorem rg_rep {K : PySem.W.Frag} {g : Gp} {F : Hp} (a b : Int) : RepL K g F (rangeD a b) (rgV a b) := by
  unfold rangeD rgV
  induction List.range (b - a).toNat with
  | nil => exact .nil
  | cons i r ih => exact .cons (.int _) ih
theorem ge_tupRg {g : Gp} {X : Cx} {e : Expr} {d : DE} {p p2 pos pos2 : Pos} (hc : X.calm = true) (hg : Gl X "tuple") (hm : X.mg "tuple" = none) (hg2 : Gl X "range") (hm2 : X.mg "range" = none) (he : GE g X e d) (na : starEach [e] X.env = (false, eval e X.env) :: starEach [] X.env := by rfl)
    (nb : starEach [.Call (.Name "range" p2) [e] [] pos2] X.env = (false, eval (.Call (.Name "range" p2) [e] [] pos2) X.env) :: starEach [] X.env := by rfl) : GE g X (.Call (.Name "tuple" p) [.Call (.Name "range" p2) [e] [] pos2] [] pos) (dTupRg d) :=
  PE.weak (pe_tupRg hc hg hm (prg_1 hg2 hm2 he na) nb) fun σ H Q ⟨c, F, env, m, Q1, rl, hd, k⟩ => ⟨c, F, env, m, _, rl, hd, fun v H1 F1 m1 x r1 f1 rp ⟨n, ex, hn, q⟩ => by
    subst ex
    cases rp
    have hn' : n ≤ 100000 := hn
    refine ⟨(n : Nat), rfl, RgOk.of_le (by omega) (by omega) (by omega) (by omega), fun p0 hp => ?_⟩
    have n1 := New.fix (F := F1) (o := .tup (rgV 0 (n : Nat))) r1.sub hp
    exact k _ _ _ m1 _ (r1.new n1) (f1.trans (n1.fresh r1.ck)) (.tup (SqT.of upd_same) (rg_rep 0 _)) q⟩
end G
/-! sorted of a tuple -/
namespace G
open PySem L2
open PySem.W (dataLe AllAlike Sortable EachIs dataLt alike alikeAll)
def rSortTp (K : PySem.W.Frag) : List V → Hp → VK → Prop := fun vs H Q => ∃ (a : Addr) (ps : List (V × PyData)), vs = [.ref a] ∧ SqT K H a (ps.map (·.1)) ∧ (∀ p ∈ ps, Dp K H p.1 p.2 ∧ p.2.depth ≤ 60) ∧ AllAlike (ps.map (·.2)) ∧ Sortable (ps.map (·.2)) ∧ ps.length ≤ LL ∧
  ∀ p, H p = none → Q (.ref p) (upd H p (.lst ((sortV ps).map (·.1))))
theorem cr_sortTp {X : Cx} (hu : X.A.units + 64 < cLine) : CallR X (.builtin "sorted") (rSortTp X.K) := by
  intro pins s σ H vs us Q I r h
  obtain ⟨a, ps, rfl, hs, hd, ha, hk2, hl, q⟩ := h
  obtain ⟨its, rv, pl, _⟩ := I.tuple hs
  rw [Vals.ref1 r]
  have lp : its.length = ps.length := by rw [← rv.length, List.length_map]
  have hlen : its.length ≤ sizeLine := by rw [lp]; exact ll hl
  obtain ⟨ob, hob, hcl, n0, hdat⟩ := id pl
  refine PySem.Calls.call_function_entry PyProof.Rows.kind_sorted PyProof.Rows.plain_sorted PyProof.Rows.entry_sorted (PyProof.Rows.args_sorted1 _) ?_
  unfold Builtin.«sorted»
  refine wpAny_bind (m := checkCount "sorted" 1 1 _) (wpAny_pure ?_)
  refine wpAny_bind (wpAny_collect_seq (A := X.A.in1) a (T := "tuple") (.inr rfl) hob hcl hdat (fun h' hk => ?_) (by simpa using hlen))
  show wpAny _ _ (newList its.toArray.toList >>= _) _ _ _
  rw [List.toList_toArray]
  refine wpAny_bind (wpAny_newList ?_ hlen)
  have e1 : EachIs (fun u (b : V × PyData) => RelV b.1 u) its ps := each_of_vals (f := fun p : V × PyData => p.1) rv fun b _ u h => h
  have er0 : ∀ h2 : Heap, (∀ b o, s.heap.get? b = some o → h2.get? b = some o) → EachIs (fun u (b : V × PyData) => ∃ as, Reads h2 u b.2 as) its ps := fun h2 k2 => each_of_vals (f := fun p : V × PyData => p.1) rv fun b hb u h => by
    obtain ⟨as, ra⟩ := Dp.reads I b.2 b.1 u (hd b hb).1 h
    exact ⟨as, PyProof.Rows.Reads.keeps k2 ra⟩
  have hdp : ∀ d ∈ ps.map (·.2), X.A.in1.in1.units + d.depth < cLine := fun d hd' => by
    obtain ⟨b, hb, rfl⟩ := List.mem_map.mp hd'
    have z := (hd b hb).2
    show X.A.units + 1 + 1 + b.2.depth < cLine
    omega
  let sB : Shared := { s with heap := h'.push { cls := .type "list", data := .seq its.toArray } }
  have oa : sB.heap.get? h'.objs.size = some (PyProof.Rows.seqObj "list" its.toArray 0) := Heap.get?_push_size _ rfl
  have kB : ∀ b o, s.heap.get? b = some o → (PySem.W.sortingHeap sB.heap h'.objs.size its).get? b = some o := fun b o e => by
    have e' := hk b o e
    exact PySem.W.sortingHeap_old (Nat.ne_of_lt (Heap.lt_size e')) (Heap.get?_push_of_some _ e')
  refine wpAny_bind (wpAny_holding (wpAny_call_entry PyProof.Rows.slot_list_sort ⟨_, oa, rfl⟩ PyProof.Rows.entry_list_sort ?body (PyProof.Rows.args_list_sort _)))
  case body =>
    refine PySem.W.list_sort_vals oa (PySem.W.SortsAt.data (PySem.W.each_map (R := fun v d => ∃ as, Reads _ v d as) (fun p : V × PyData => p.2) (er0 _ kB)) ha hk2 hdp) hlen ?_
    refine ⟨_, rfl, wpAny_pure ⟨_, rfl, ?_⟩⟩
    have eo := PySem.W.sortVals_data (h' := PySem.W.sortingHeap sB.heap h'.objs.size its) (enc := fun p : V × PyData => p.2) false e1 (er0 _ kB) ha
    generalize hout : PySem.W.sortVals (PySem.W.dataKind (PySem.W.sortingHeap sB.heap h'.objs.size its) (ps.map (·.2))) false its its = out at eo
    obtain ⟨ep, he⟩ := PyProof.Rows.sortedHeap_at (out := out.toArray) oa
    have old : ∀ b o, s.heap.get? b = some o → (PyProof.Rows.sortedHeap sB.heap h'.objs.size its out.toArray).get? b = some o := fun b o e => by
      have e' := hk b o e
      have hlt := Heap.lt_size e'
      rw [PyProof.Rows.sortedHeap_old (Nat.ne_of_lt hlt) (by show b < (h'.push _).objs.size; rw [Heap.size_push]; exact Nat.lt_succ_of_lt hlt)]
      exact Heap.get?_push_of_some _ e'
    have hp : ∀ u, s.heap.get? h'.objs.size ≠ some u := fun u e => absurd (Heap.lt_size (hk _ u e)) (Nat.lt_irrefl _)
    have hL : ((sortV ps).map (·.1)).length ≤ sizeLine := by
      unfold sortV
      rw [List.length_map, List.length_mergeSort, ← lp]
      exact hlen
    obtain ⟨hn, J⟩ := laidN (o := .lst ((sortV ps).map (·.1))) (t' := s.toks) (g' := s.gens) (d' := s.drawn) I old hp I.bare ⟨hL, _, ep, vals_of_each (f := fun p : V × PyData => p.1) eo, he⟩
    exact ⟨.ref _, _, J, rfl, q _ hn⟩
theorem sortable_of {es : List D} (o2 : es.all D.neT = true ∨ es.all D.noT = true) : Sortable (es.map D.py) := by
  rcases o2 with o2 | o2
  · refine .inl fun d hd => ?_
    obtain ⟨a, ha, rfl⟩ := List.mem_map.mp hd
    have := List.all_eq_true.mp o2 a ha
    cases a with
    | tup l => cases l with
      | nil => cases this
      | cons x r => exact ⟨x.py, pyL r, by simp only [D.py, pyL]⟩
    | _ => cases this
  · refine .inr fun d hd => ?_
    obtain ⟨a, ha, rfl⟩ := List.mem_map.mp hd
    have := List.all_eq_true.mp o2 a ha
    cases a with
    | non => cases this
    | tup l => cases this
    | dic l => cases this
    | web a b => cases this
    | _ => simp only [D.py]; exact ⟨(fun z => nomatch z), fun _ z => nomatch z⟩
def sortedTD : List D → Option (List D)
  | [.tup ds] => if sortOk ds then some (sortL ds) else none
  | _ => none
theorem cn_sortedT {K : PySem.W.Frag} {g : Gp} : CallN K g (rSortTp K) sortedTD := fun c F H xs ds vs Q' e nc rp hz k => by
  unfold sortedTD at hz
  split at hz
  · rename_i es
    split at hz
    · rename_i ok
      cases hz
      unfold sortOk at ok
      simp only [Bool.and_eq_true, Bool.or_eq_true, decide_eq_true_eq] at ok
      obtain ⟨⟨⟨o1, o2⟩, o3⟩, o4⟩ := ok
      cases rp with
      | cons h t =>
        cases t
        obtain ⟨p, ys, rfl, g1, g2⟩ := RepT.tup' h
        have hl := g2.length
        have z1 : (ys.zip (es.map D.py)).map (·.1) = ys := List.map_fst_zip (by rw [List.length_map]; omega)
        have z2 : (ys.zip (es.map D.py)).map (·.2) = es.map D.py := List.map_snd_zip (by rw [List.length_map]; omega)
        refine ⟨p, ys.zip (es.map D.py), rfl, by rw [z1]; exact Evl.ex_t e g1, zip_dp e g2 o3, ?_, ?_, ?_, fun l hl' => ?_⟩
        · rw [z2]
          intro d hd d' hd'
          obtain ⟨a, ha, rfl⟩ := List.mem_map.mp hd
          obtain ⟨b, hb, rfl⟩ := List.mem_map.mp hd'
          unfold alikeL at o1
          exact List.all_eq_true.mp (List.all_eq_true.mp o1 a ha) b hb
        · rw [z2]
          exact sortable_of o2
        · rw [List.length_zip, List.length_map]; omega
        · exact k l _ F _ (new_lay e hl').1 hl' (new_lay e hl' (ys := (sortV (ys.zip (es.map D.py))).map (·.1))).2.1 upd_same (sort_rep g2)
    · cases hz
  · cases hz
end G
/-! x in a list of lists, tuples .. -/
namespace G
open PySem L2
theorem units65 {k : Nat} {A : Around} (r : Room k A) : A.units + 65 < cLine := by have := r.un; omega
def inDp (x y : D) : Option Bool := match y with
  | .lst ds => if x.okd 60 && (D.lst ds).okd 60 then some (ds.any fun z => PyData.eqv z.py x.py) else none
  | _ => none
def inDpD (x y : D) : Option D := (inDp x y).map .bl
theorem od_inDp {K : PySem.W.Frag} {g : Gp} : OpD K g (rInD K) inDpD := fun c F H x y z v w Q' e nc rx ry hz k => by
  unfold inDpD inDp at hz
  split at hz
  · rename_i ds
    split at hz
    · rename_i ok
      cases hz
      simp only [Bool.and_eq_true] at ok
      refine ⟨x.py, pyL ds, repT_dp e ok.1 rx, by simpa only [D.py] using repT_dp e ok.2 ry, okd_shaped ok.1, by simpa only [D.py] using okd_shaped ok.2, ?_⟩
      rw [pyL_map, List.any_map]
      exact k _ H F (New.refl e) (.bl _)
    · cases hz
  · cases hz
theorem FnG.imp {P : Program} {w : World} {K : PySem.W.Frag} {mg : Str → Option Value} {base : Heap} {k : Nat} {f : Addr} {fd : FuncData} {ps : List Str} {sp sp' : Sp} (F : FnG P w K mg base k f fd ps sp) (h : ∀ vs H Q E, sp' vs H Q E → sp vs H Q E) : FnG P w K mg base k f fd ps sp' :=
  ⟨fun vs H Q E q => F.len vs H Q E (h vs H Q E q), fun A outer s H args us vs Q E hr c e b v q => F.run A outer s H args us vs Q E hr c e b v (h vs H Q E q)⟩
end G
/-! -e, sum, tuple * int, text.index(sign), x[k] += e -/
namespace G
open PySem L2
section
variable {g : Gp} {X : Cx} {a b e : Expr} {es : List Expr} {d da db dv dk : DE} {dl : DL} {pos p1 : Pos} {K : PySem.W.Frag}
def dNeg (d : DE) : DE := fun env m Q => d env m fun x m1 => ∃ i, x = .int i ∧ Q (.int (-i)) m1
theorem ge_neg (he : GE g X e d) : GE g X (.UnaryOp .USub e pos) (dNeg d) := PE.weak (pe_un un_neg he) fun σ H Q ⟨c, F, env, m, Q1, r, hd, k⟩ => ⟨c, F, env, m, _, r, hd, fun v H1 F1 m1 x r1 f1 rp ⟨i, ex, q⟩ => by
  subst ex
  cases rp
  exact ⟨i, rfl, k _ H1 F1 m1 _ r1 f1 (.int _) q⟩⟩
/-! sum -/
theorem cr_sumT (hc : X.calm = true) : CallR X (.builtin "sum") (fun vs H Q => ∃ (a : Addr) (ns : List Int), vs = [V.ref a] ∧ SqT X.K H a (ns.map V.int) ∧ Q (.int ns.sum) H) := by
  intro pins s σ H vs us Q I r h
  obtain ⟨a, ns, rfl, hs, q⟩ := h
  obtain ⟨its, rv, pl, _⟩ := I.tuple hs
  rw [Vals.ref1 r]
  obtain ⟨ob, hob, hcl, n0, hdat⟩ := id pl
  have hlt : a < s.heap.objs.size := Heap.lt_size hob
  have vals : ∀ (i : Nat) (v : Value), its.toArray[i]? = some v → ∃ t, v = .int (ns.getD i 0) t := fun i v hv => by
    have hv' : its[i]? = some v := by simpa using hv
    have hi : i < ns.length := by
      have h1 := (List.getElem?_eq_some_iff.mp hv').1
      rw [← rv.length, List.length_map] at h1
      exact h1
    obtain ⟨u, hu, ru⟩ := Vals.get rv (i := i) (x := .int (ns.getD i 0)) (by rw [List.getElem?_map, List.getD_eq_getElem?_getD, List.getElem?_eq_getElem hi]; rfl)
    rw [hv'] at hu
    cases hu
    exact ru
  have sums : ∀ k, k ≤ ns.length → preSum (fun i => ns.getD i 0) k = (ns.take k).sum := by
    intro k
    induction k with
    | zero => intro _; simp [preSum]
    | succ k ih =>
      intro hk
      unfold preSum
      rw [ih (by omega), List.take_succ_eq_append_getElem (by omega), List.sum_append, List.getD_eq_getElem?_getD, List.getElem?_eq_getElem (by omega)]
      simp
  have hlen : its.toArray.size = ns.length := by rw [List.size_toArray, ← rv.length, List.length_map]
  refine call_sum_walkG (wpAny_pyIter_tuple pl ⟨_, _, _, _, _, _, fun i => ns.getD i 0, rfl, Walks.tuple (A := X.A.in1) (I.ok.hd hc) _ a (Nat.ne_of_lt hlt) its.toArray, ⟨⟨_, Heap.get?_push_size _ rfl, rfl, rfl⟩, pl.push _⟩, fun b hb => ?_, vals, fun h' tk t' hk => ?_⟩)
  · show b < (s.heap.push _).objs.size
    rw [Heap.size_push]
    simp only [List.mem_cons, List.not_mem_nil, or_false] at hb
    rcases hb with rfl | rfl
    · exact Nat.lt_succ_self _
    · exact Nat.lt_succ_of_lt hlt
  · rw [hlen, sums _ (Nat.le_refl _), List.take_length]
    refine ⟨.int ns.sum, H, I.kept (t' := tk) fun b o e => hk b o (fun hm => ?_) (Heap.get?_push_of_some _ e), ⟨t', rfl⟩, q⟩
    have e1 : b = s.heap.objs.size := List.mem_singleton.mp hm
    have e2 := Heap.lt_size e
    rw [e1] at e2
    exact absurd e2 (Nat.lt_irrefl _)
def sumD : List D → Option D
  | [.lst ds] => (intsD ds).map fun ns => .int ns.sum
  | [.tup ds] => (intsD ds).map fun ns => .int ns.sum
  | _ => none
def rSumG (K : PySem.W.Frag) : List V → Hp → VK → Prop := fun vs H Q => rSum K vs H Q ∨ ∃ (a : Addr) (ns : List Int), vs = [V.ref a] ∧ SqT K H a (ns.map V.int) ∧ Q (.int ns.sum) H
theorem cr_sumG (hc : X.calm = true) : CallR X (.builtin "sum") (rSumG X.K) := (cr_sum hc).or (cr_sumT hc)
theorem cd_sum : CallD K g (rSumG K) sumD := fun c F H xs z vs Q' e nc rp hz k => by
  unfold sumD at hz
  split at hz
  · obtain ⟨ns, h1, rfl⟩ := Option.map_eq_some_iff.mp hz
    have := intsD_map h1
    subst this
    cases rp with
    | cons h t =>
      cases t
      obtain ⟨p, ys, rfl, g1, g2, _⟩ := h
      have := repL_ints g2
      subst this
      exact .inl ⟨p, ns, rfl, SqL.of g1, k _ H F (New.refl e) (.int _)⟩
  · obtain ⟨ns, h1, rfl⟩ := Option.map_eq_some_iff.mp hz
    have := intsD_map h1
    subst this
    cases rp with
    | cons h t =>
      cases t
      obtain ⟨p, ys, rfl, g1, g2⟩ := RepT.tup' h
      have := repL_ints g2
      subst this
      exact .inr ⟨p, ns, rfl, Evl.ex_t e g1, k _ H F (New.refl e) (.int _)⟩
  · cases hz
end
open PySem.StrLaws in
theorem occ_sound (s sub : Str) (hi limit : Nat) (R : Nat → Prop) (hR : ∀ i, i + sub.length ≤ hi → Builtin.Str.subAt s sub i = true → R i) : ∀ (l : List Nat) (st : Array Nat × Nat), (∀ i ∈ st.fst.toList, R i) → ∀ i ∈ (forIn l st (occBody s sub hi limit)).run.fst.toList, R i
  | [], st, h => h
  | j :: l, st, h => by
    rw [List.forIn_cons]
    unfold occBody
    split
    · rename_i hc
      refine occ_sound s sub hi limit R hR l _ fun i hi' => ?_
      simp only [Array.toList_push, List.mem_append, List.mem_singleton] at hi'
      rcases hi' with z | rfl
      · exact h i z
      · exact hR i hc.1.2 hc.2
    · exact occ_sound s sub hi limit R hR l _ h
open PySem.StrLaws in
/-- the first place of a sign -/
theorem occ_one {x : Str} {c : Nat} (h : c ∈ x.cps.toList) : ∃ i rest, Builtin.Str.occurrences x ⟨#[c]⟩ 0 x.length 1 = i :: rest ∧ x.cps.toList[i]? = some c := by
  have h1 := found_one x c
  rw [decide_eq_true h] at h1
  cases e : Builtin.Str.occurrences x ⟨#[c]⟩ 0 x.length 1 with
  | nil => rw [e] at h1; simp at h1
  | cons i rest =>
    refine ⟨i, rest, rfl, ?_⟩
    have := occ_sound x ⟨#[c]⟩ x.length 1 (fun i => x.cps.toList[i]? = some c) (fun i h1 h2 => (subAt_one x c i).mp ⟨h1, h2⟩) (List.range' 0 (x.length + 1 - 0)) (#[], 0) (fun i hi => by simp at hi)
    rw [← occ_eq, e] at this
    exact this i (by simp)
section
variable {g : Gp} {X : Cx} {K : PySem.W.Frag}
/-- text.index(sign) -/
def sindexD : D → List D → Option D
  | .str x, [.str y] => (match y.cps.toList with | [c] => (if c ∈ x.cps.toList then (Builtin.Str.occurrences x y 0 x.length 1).head?.map (fun (i : Nat) => D.int i) else none) | _ => none)
  | _, _ => none
theorem md_sindex : MtD K g (fun x xs H Q => ∃ a b i rest, x = .str a ∧ xs = [.str b] ∧ Builtin.Str.occurrences a b 0 a.length 1 = i :: rest ∧ Q (.int (i : Nat)) H) sindexD := fun c F H x xs z v vs Q' e nc rx rs hz k => by
  unfold sindexD at hz
  split at hz
  · rename_i x y
    split at hz
    · split at hz
      · obtain ⟨i, hi, rfl⟩ := Option.map_eq_some_iff.mp hz
        obtain ⟨rest, er⟩ : ∃ rest, Builtin.Str.occurrences x y 0 x.length 1 = i :: rest := by
          cases h : Builtin.Str.occurrences x y 0 x.length 1 with
          | nil => rw [h] at hi; cases hi
          | cons j r => rw [h] at hi; cases hi; exact ⟨r, rfl⟩
        cases rs with
        | cons r1 rt =>
          cases rt
          rw [rx.str', r1.str']
          exact ⟨x, y, i, rest, rfl, rfl, er, k _ H F (New.refl e) (.int _)⟩
      · cases hz
    · cases hz
  · cases hz
end
end G
/-! x[k] += e of a list of one's own; tuple * int -/
namespace G
open PySem L2
section
variable {g : Gp} {X : Cx} {a b e : Expr} {es : List Expr} {d da db dv dk : DE} {dl : DL} {pos p1 : Pos} {K : PySem.W.Frag}
theorem get_listN : PGet X (fun x y H Q => ∃ (p : Addr) (xs : List V) (n : Nat) (v : V), x = .ref p ∧ y = .int (n : Nat) ∧ SqL X.K H p xs ∧ xs[n]? = some v ∧ Q v H) := by
  intro pins s σ H o i ov iv Q I ro ri h
  obtain ⟨p, xs, n, v, rfl, rfl, hs, hv, q⟩ := h
  cases ro
  obtain ⟨t, rfl⟩ := ri
  obtain ⟨its, r, pl, hz⟩ := I.list hs
  obtain ⟨u, hu, ru⟩ := r.get hv
  have hn : n < its.length := (List.getElem?_eq_some_iff.mp hu).1
  have hl := r.length
  have h63 := line63
  exact wpAny_getItem_list pl.isList (by omega) (by omega) (by simpa using hu) ⟨v, H, I, ru, q⟩
/-- x[k] += e -/
def dAugL (i : Nat) (dk dv : DE) : DS := fun env m E => ∃ ds, env[i]? = some (.own ds) ∧ dk env m fun k m1 => ∃ (n : Nat) (a : Int), k = .int (n : Nat) ∧ ds[n]? = some (.int a) ∧ dv env m1 fun x m2 => ∃ b : Int, x = .int b ∧ E.nx (env.set i (.own (ds.set n (.int (a + b))))) m2
theorem gs_augL (i : Nat) {x : Str} {k v : Expr} {tpos : Pos} (hk : GE g X k dk) (hv' : GE g X v dv) (hN : X.N[i]? = some x := by rfl) (hv : Vis X.env.scope x := by first | exact Or.inl rfl | exact Or.inr (Or.inl rfl) | exact Or.inr (Or.inr rfl)) (hd : (x == ("__debug__" : Str)) = false := by decide)
    (hcd : (x == ("__classdict__" : Str)) = false := by decide) (ha : ∀ ov iv new, augStore k ov iv new = (do holding [new, ov, iv] (setItem ov iv new); release [new, ov, iv] []; pure .next) := by intros; rfl) : GS g X (.AugAssign (.Subscript (.Name x p1) k tpos) .Add v pos) (dAugL i dk dv) :=
  PS.weak (ps_augS (pe_var hN hv hd hcd) hk get_listN hv' ip_add set_list ha) fun D σ H ⟨c, F, env, m, E, r, ⟨ds, ho, h⟩, o⟩ => by
    obtain ⟨p, xs, es, hp, rl, nc⟩ := own_at r ho
    refine ⟨.ref p, es, c, F, env, m, _, r, h, fun kv H1 F1 m1 y r1 f1 rp ⟨n, a, ek, hn, q1⟩ => ?_⟩
    subst ek
    cases rp
    obtain ⟨p1, xs1, es1, hp1, rl1, nc1⟩ := own_at r1 ho
    rw [es] at es1
    cases es1
    obtain ⟨w, hw, rw1⟩ := rl1.get hn
    cases rw1
    refine ⟨p, xs1, n, .int a, rfl, rfl, SqL.of hp1, hw, c, F1, env, m1, _, r1, q1, fun vv H2 F2 m2 z r2 f2 rp2 ⟨b, ez, q2⟩ => ?_⟩
    subst ez
    cases rp2
    refine ⟨a, b, rfl, rfl, ?_⟩
    obtain ⟨p2, xs2, es2, hp2, rl2, nc2⟩ := own_at r2 ho
    rw [es] at es2
    cases es2
    obtain ⟨r3, v3⟩ := r2.mut ho es (rl2.set (.int (a + b)) n)
    have hlt : n < ds.length := (List.getElem?_eq_some_iff.mp hn).1
    have hix : ixN xs2.length (n : Nat) = some n := by
      have := rl2.length
      unfold ixN
      rw [if_pos (by omega), if_pos (by omega), Int.toNat_natCast]
    exact ⟨p, xs2, (n : Nat), n, rfl, rfl, hp2, hix, o.nx σ _ F2 _ m2 r3 ((r.evo (f1.trans f2)).trans v3) q2⟩
end
end G
/-! [..] * n as a list of one's own; (..,) * n -/
namespace G
open PySem L2 PySem.Spec PyProof.Rows
section
variable {g : Gp} {X : Cx} {a b e : Expr} {es : List Expr} {d da db dv dk : DE} {dl : DL} {pos p1 : Pos} {K : PySem.W.Frag}
def dRepL (da db : DE) : DL := fun env m Q => da env m fun x m1 => db env m1 fun y m2 => ∃ ds k, x = .lst ds ∧ y = .int k ∧ 0 ≤ k ∧ k ≤ 1000 ∧ ds.length * k.toNat ≤ LL ∧ Q (List.replicate k.toNat ds).flatten m2
theorem gn_repL (ha : GE g X a da) (hb : GE g X b db) : GN g X (.BinOp a .Mult b pos) (dRepL da db) :=
  PE.weak (pe_op op_rep ha hb) fun σ H Q ⟨c, F, env, m, Q1, r, hd, k⟩ => ⟨c, F, env, m, _, r, hd, fun v H1 F1 m1 x r1 f1 rp q1 => ⟨c, F1, env, m1, _, r1, q1, fun w H2 F2 m2 y r2 f2 rp2 ⟨ds, j, ex, ey, h0, h1, h2, q⟩ => by
    subst ex ey
    cases rp2
    have rp' := rp.mono f2.ff
    cases rp' with
    | lst hp rl =>
      rename_i p xs
      refine ⟨p, j, xs, rfl, rfl, r2.sub _ _ hp, by omega, by omega, ll (by rw [rl.length]; exact h2), fun t ht => ?_⟩
      have n := New.lay (F := F2) (o := .lst (List.replicate j.toNat xs).flatten) r2.sub ht
      have f3 := (f1.trans f2)
      refine k t _ _ m2 _ _ (r2.new n) (f3.trans (n.fresh r2.ck)) ?_ (ex_none r2.sub ht) (fun z => ?_) upd_same (rl.rep _) q
      · cases q : H t with
        | none => rfl
        | some o =>
          by_cases z : c = some t
          · obtain ⟨_, _, e, _⟩ := r2.ck t z; rw [e] at ht; cases ht
          · rw [f3.hh t o q z] at ht; cases ht
      · obtain ⟨_, _, e, _⟩ := r2.ck t z; rw [e] at ht; cases ht⟩⟩
/-! (..,) * n -/
theorem tuple_mulW1 (l : Addr) (items : Array Value) (n : Nat) (dd : Option Addr) (sl : Array (Option Value)) (u : Tok) :
    Meets (Builtin.«tuple.__mul__» ⟨[.ref l, .int 1 u], []⟩) (fun _ R s => s.heap.get? l = some { cls := .type "tuple", dict := dd, data := .seq items n, slots := sl } ∧
      R (.ok (.ret (Value.ref l))) s) :=
  .of_wp fun prog w A R s h => by
    obtain ⟨hp, g, d, tk, os⟩ := s
    obtain ⟨hl, h⟩ := h
    have f1 := AutoSeq1.idx_int
    have c0 : (decide ((1 : Int) < -(2 ^ 63)) || decide ((1 : Int) ≥ 2 ^ 63)) = false := by decide
    have c1 : (items.isEmpty || (1 : Int) == 1) = true := by simp
    wp_walk using wpAny_loadPart' hl
    repeat (first
      | (refine wpAny_ite_false (decide_eq_false (by rw [c0]; exact Bool.false_ne_true)) ?_; wp_walk using wpAny_loadPart' hl)
      | (refine wpAny_ite_true (decide_eq_true c1) ?_; wp_walk using wpAny_loadPart' hl))
    exact ⟨_, rfl, h⟩
def rRepT1 (K : PySem.W.Frag) : R2 := fun x y H Q => ∃ l xs, x = .ref l ∧ y = .int 1 ∧ SqT K H l xs ∧ Q (.ref l) H
theorem op_repT1 : OpR X (binaryOp .Mult) (rRepT1 X.K) := by
  intro pins s σ H x y v u Q I rx ry h
  obtain ⟨l, xs, rfl, rfl, hT, q⟩ := h
  cases rx
  obtain ⟨t, rfl⟩ := ry
  obtain ⟨its, r, ⟨⟨cls, dd, data, sl⟩, ho, hc, n, hd⟩, hs⟩ := I.tuple hT
  simp only at hc hd
  subst hc hd
  refine wpAny_binaryOp_repeat_ref (T := "tuple") (U := "int") (by decide) ⟨_, ho, rfl⟩ (fun s' => typeIs_int s' 1 t) noFill_tuple_mul F.fills_int_mul F.slot_int_rmul repeat_tuple F.slot_int_index.lookup
    (call_meets F.slot_int_rmul (typeIs_int s 1 t) F.entry_int_rmul (F.args_int_rmul_2 _ _) (int_rmul_tuple 1 t l its.toArray n dd sl)
      ⟨ho, rfl, ⟨_, ho, rfl⟩, call_meets F.slot_tuple_mul ⟨_, ho, rfl⟩ F.entry_tuple_mul (F.args_tuple_mul_2 _ _) (tuple_mulW1 l its.toArray n dd sl t) ⟨ho, ?_⟩⟩)
  exact ⟨.ref l, H, I, rfl, q⟩
def mulTD : D → D → Option D
  | .tup ds, .int k => if ds ≠ [] ∧ 1 ≤ k ∧ k ≤ 1000 ∧ ds.length ≤ 1000 then some (.tup (List.replicate k.toNat ds).flatten) else none
  | _, _ => none
theorem or_mulT : OpR X (binaryOp .Mult) (fun x y H Q => rRepT X.K x y H Q ∨ rRepT1 X.K x y H Q) := op_repT.or op_repT1
theorem od_mulT : OpD K g (fun x y H Q => rRepT K x y H Q ∨ rRepT1 K x y H Q) mulTD := fun c F H x y z v w Q' e nc rx ry hz k => by
  unfold mulTD at hz
  split at hz
  · rename_i ds j
    split at hz
    · rename_i h
      cases hz
      cases rx with
      | tup hp rl =>
      rename_i p xs
      by_cases h1 : j = 1
      · subst h1
        refine .inr ⟨p, xs, rfl, ry.int', Evl.ex_t e hp, k _ H F (New.refl e) ?_⟩
        have : (List.replicate (1 : Int).toNat ds).flatten = ds := by simp
        rw [this]
        exact .tup hp rl
      · refine .inl ⟨p, j, xs, rfl, ry.int', Evl.ex_t e hp, ?_, by omega, by omega, by rw [rl.length]; exact h.2.2.2, fun t ht => ?_⟩
        · intro z
          have := rl.length
          rw [z] at this
          exact h.1 (List.eq_nil_of_length_eq_zero (by simpa using this.symm))
        · have n := New.fix (o := .tup (List.replicate j.toNat xs).flatten) e ht
          exact k _ _ _ n (.tup (SqT.of upd_same) ((rl.rep _).mono n.ff))
    · cases hz
  · cases hz
end
end G
/-! tables of one's own: lists of lists that are changed -/
namespace G
open PySem L2
abbrev DR := Env' → Nat → (List (List D) → Nat → Prop) → Prop
/-- a new table that is nobody's -/
structure TabNew (K : PySem.W.Frag) (g : Gp) (c : Option Addr) (H F' H' : Hp) (p : Addr) (qs : List Addr) (rows : List (List D)) : Prop where
  p0 : H p = none
  pF : F' p = none
  pc : c ≠ some p
  pH : H' p = some (.lst (qs.map V.ref))
  pq : p ∉ qs
  nd : qs.Nodup
  rs : RowsR K g c F' H' rows qs
  q0 : ∀ q ∈ qs, H q = none
theorem TabNew.slr {K : PySem.W.Frag} {g : Gp} {c : Option Addr} {H F' H' : Hp} {p : Addr} {qs : List Addr} {rows : List (List D)} (t : TabNew K g c H F' H' p qs rows) : SlR K g c F' H' (.tb qs rows) (some (some (.ref p))) := ⟨p, rfl, t.pF, t.pc, t.pH, t.pq, t.nd, t.rs⟩
theorem TabNew.zero {K : PySem.W.Frag} {g : Gp} {c : Option Addr} {H F' H' : Hp} {p : Addr} {qs : List Addr} {rows : List (List D)} (t : TabNew K g c H F' H' p qs rows) : ∀ a ∈ (Sl.tb qs rows).adr (some (some (.ref p))), H a = none := fun a ha => by
  rw [show (Sl.tb qs rows).adr (some (some (.ref p))) = p :: qs from rfl] at ha
  rcases List.mem_cons.mp ha with rfl | ha
  · exact t.p0
  · exact t.q0 a ha
def tNt (K : PySem.W.Frag) (g : Gp) (d : DR) : TE := fun σ H Q' => ∃ c F env m Q, Rel K g c F env m σ H ∧ d env m Q ∧
  ∀ p qs rows H' F' m', Rel K g c F' env m' σ H' → Fresh c F H F' H' → TabNew K g c H F' H' p qs rows → Q rows m' → Q' (.ref p) H'
def GNt (g : Gp) (X : Cx) (e : Expr) (d : DR) : Prop := PE X e (tNt X.K g d)
def LtR (f : D → Env' → Option Env') (de : DL) (env : Env') : List D → Nat → (List (List D) → Nat → Prop) → Prop
  | [], m, Q => Q [] m
  | d :: ds, m, Q => ∃ env2, f d env = some env2 ∧ de env2 m fun row m2 => LtR f de env ds m2 fun rows m3 => Q (row :: rows) m3
def dLt (di : DL) (f : D → Env' → Option Env') (de : DL) (vs : List Nat) : DR := fun env m Q => di env m fun its m1 => its.length ≤ LL ∧ LtR f de (wipeE env vs) its m1 Q
theorem Fresh.stay {c : Option Addr} {F H F' H' : Hp} {a : Addr} {u : HO} (f : Fresh c F H F' H') (h1 : F a = none) (h2 : c ≠ some a) (h3 : H a = some u) : F' a = none ∧ H' a = some u := by
  refine ⟨?_, f.hh a u h3 h2⟩
  cases q : F' a with
  | none => rfl
  | some o =>
    rcases f.new a o q with z | z
    · rw [h1] at z; cases z
    · rw [h3] at z; cases z
theorem RowsR.length {K : PySem.W.Frag} {g : Gp} {c : Option Addr} {F H : Hp} : ∀ {rows : List (List D)} {qs : List Addr}, RowsR K g c F H rows qs → qs.length = rows.length
  | _, _, .nil => rfl
  | _, _, .cons _ _ _ _ t => by rw [List.length_cons, List.length_cons, t.length]
theorem RowsR.mono {K : PySem.W.Frag} {g : Gp} {c : Option Addr} {F H F' H' : Hp} (f : Fresh c F H F' H') {rows : List (List D)} {qs : List Addr} (h : RowsR K g c F H rows qs) : RowsR K g c F' H' rows qs := h.keep f.ff fun a ha => by
  obtain ⟨h1, h2, u, h3⟩ := h.at ha
  have := f.stay h1 h2 h3
  exact ⟨this.1, by rw [this.2, h3]⟩
theorem RowsR.snoc {K : PySem.W.Frag} {g : Gp} {c : Option Addr} {F H : Hp} {row : List D} {q : Addr} {xs : List V} (h1 : F q = none) (h2 : c ≠ some q) (h3 : H q = some (.lst xs)) (h4 : RepL K g F row xs) : ∀ {rows : List (List D)} {qs : List Addr}, RowsR K g c F H rows qs → RowsR K g c F H (rows ++ [row]) (qs ++ [q])
  | _, _, .nil => .cons h1 h2 h3 h4 .nil
  | _, _, .cons a1 a2 a3 a4 t => .cons a1 a2 a3 a4 (t.snoc h1 h2 h3 h4)
section
variable {g : Gp} {X : Cx} {elt tg iter : Expr} {ifs : List Expr} {scope : Scope} {own : List (Str × Nat)} {pos : Pos} {di : DL} {T : TG} {f : D → Env' → Option Env'} {js : List Nat} {de : DL}
theorem lct_weak (vs : List Nat) (hj : ∀ j ∈ js, j ∈ vs) (hg : ∀ (c : Option Addr) (F : Hp) (env : Env') (m : Nat) (σ : St) (H : Hp) (d : D) (v : V) (env2 : Env') (Q : St → Hp → Prop), Rel X.K g c F env m σ H → Rep X.K g F d v → f d env = some env2 →
    (∀ σ2, Rel X.K g c F env2 m σ2 H → (∀ a, Own env2 σ2 a → Own env σ a) → σ2.length = σ.length → (∀ i, i ∉ js → σ2[i]? = σ[i]?) → Q σ2 H) → T v σ H Q) :
    ∀ σ H Q, tNt X.K g (dLt di f de vs) σ H Q → tLc (tI X.K g true di) T (tT X.K g dYes) (tN X.K g de) vs σ H Q := fun σ H Q ⟨c, F, env, m, Q1, r, h, k⟩ =>
  ⟨c, F, env, m, _, r, h, fun J H1 F1 m1 its lk r1 f1 _ hk w ⟨hz, q⟩ => fun Dl hD => by
    have nD : F1 Dl = none := ex_none r1.sub hD
    have cD : c ≠ some Dl := fun z => by obtain ⟨_, xs, e, _⟩ := r1.ck Dl z; rw [hD] at e; cases e
    have hD0 : H Dl = none := by
      cases z : H Dl with
      | none => rfl
      | some o => rw [f1.hh Dl o z cD] at hD; cases hD
    have lay := New.lay (F := F1) (o := .lst []) r1.sub hD
    refine ⟨fun i kk H' => ∃ F' m' qs rows, kk = its.length - i ∧ i ≤ its.length ∧ Fresh c F1 H1 F' H' ∧ Ck g c m' F' H' ∧ F' Dl = none ∧ H' Dl = some (.lst (qs.map V.ref)) ∧ RowsR X.K g c F' H' rows qs ∧ qs.Nodup ∧ Dl ∉ qs ∧ (∀ q ∈ qs, H1 q = none) ∧ rows.length ≤ i ∧ LtR f de (wipeE env vs) (its.drop i) m' (fun ys m3 => Q1 (rows ++ ys) m3),
      ⟨its.length, F1, m1, [], [], rfl, Nat.zero_le _, lay.fresh r1.ck, r1.ck.new lay, nD, upd_same, .nil, List.nodup_nil, by simp, by simp, by simp, by simpa using q⟩, ?_⟩
    rintro i kk H' ⟨F', m', qs, rows, rfl, hi, fr, ck, nF, hA, rA, nd, nDq, q0, lA, q'⟩
    have r' := r1.fresh fr ck
    have lk' : ∀ p ∈ lk, H' p.1 = some p.2 := fun p hp => fr.hh p.1 p.2 (hk p hp).1 (hk p hp).2
    obtain ⟨go, stop⟩ := w i F' H' fr.ff r'.sub lk'
    by_cases hlt : i < its.length
    · have hd : its[i]? = some its[i] := List.getElem?_eq_getElem hlt
      rw [List.drop_eq_getElem_cons hlt] at q'
      obtain ⟨g1, g2⟩ := go _ hd
      obtain ⟨env2, e2, q2⟩ := q'
      refine .inr ⟨g1, fun H2 => ∃ F2 m2 qs2 rows2, Fresh c F1 H1 F2 H2 ∧ Ck g c m2 F2 H2 ∧ F2 Dl = none ∧ H2 Dl = some (.lst (qs2.map V.ref)) ∧ RowsR X.K g c F2 H2 rows2 qs2 ∧ qs2.Nodup ∧ Dl ∉ qs2 ∧ (∀ q ∈ qs2, H1 q = none) ∧ rows2.length ≤ i + 1 ∧ LtR f de (wipeE env vs) (its.drop (i + 1)) m2 (fun ys m3 => Q1 (rows2 ++ ys) m3), fun H2 ⟨F2, m2, qs2, rows2, a1, a2, a3, a4, a5, a6, a7, a8, a9, a10⟩ => ⟨its.length - (i + 1), by omega, F2, m2, qs2, rows2, rfl, by omega, a1, a2, a3, a4, a5, a6, a7, a8, a9, a10⟩, fun x H3 y => ?_⟩
      obtain ⟨F3, n3, rp3⟩ := g2 x H3 y
      have r3 := (r'.wipe vs).new n3
      have fr3 := fr.trans (n3.fresh ck)
      have ck3 := ck.new n3
      refine hg c F3 _ m' _ H3 _ x env2 _ r3 rp3 e2 fun σ4 r4 o4 l4 a4 => ⟨?_, ?_⟩
      · refine Eq.trans (wipe_same l4 fun j hj' => a4 j fun z => hj' (hj j z)) (wipe_wipe σ vs)
      · refine ⟨c, F3, env2, m', fun b m1 => b = true ∧ m1 = m', r4, ⟨rfl, rfl⟩, fun b H5 F5 m5 r5 f5 ⟨hb, hm⟩ => ?_⟩
        subst hb hm
        refine ⟨c, F5, env2, _, _, r5, q2, fun p H6 F6 m6 row xs r6 f6 p0 pF pc pH prep q6 => ?_⟩
        have f7 : Fresh c F' H' F6 H6 := ((n3.fresh ck).trans f5).trans f6
        have fr6 : Fresh c F1 H1 F6 H6 := fr.trans f7
        obtain ⟨k1, k2⟩ := f7.stay nF cD hA
        have hp' : H' p = none := by
          cases z : H' p with
          | none => rfl
          | some o => rw [f5.hh p o (n3.hh p o z) pc] at p0; cases p0
        have pD : p ≠ Dl := fun e => by rw [e, hA] at hp'; cases hp'
        have pq : p ∉ qs := fun e => by obtain ⟨_, _, u, z⟩ := rA.at e; rw [z] at hp'; cases hp'
        have hp1 : H1 p = none := by
          cases z : H1 p with
          | none => rfl
          | some o => rw [fr.hh p o z pc] at hp'; cases hp'
        have rA6 := rA.mono f7
        have lq : qs.length = rows.length := rA.length
        refine ⟨qs.map V.ref, k2, ll' (by rw [List.length_map]; omega), F6, m6, qs ++ [p], rows ++ [row], ⟨fr6.ff, fun a o z => ?_, fun a o z n => ?_, fr6.new, fr6.nc⟩, fun a z => ?_, k1, ?_, ?_, ?_, ?_, ?_, ?_, ?_⟩
        · have : a ≠ Dl := fun e => by subst e; rw [k1] at z; cases z
          rw [upd_ne this]; exact fr6.fh a o z
        · have : a ≠ Dl := fun e => by subst e; rw [hD] at z; cases z
          rw [upd_ne this]; exact fr6.hh a o z n
        · have : a ≠ Dl := fun e => by subst e; exact cD z
          obtain ⟨b1, xs, b2, b3⟩ := r6.ck a z
          exact ⟨b1, xs, by rw [upd_ne this]; exact b2, b3⟩
        · rw [upd_same, List.map_append]; rfl
        · refine RowsR.snoc pF pc (by rw [upd_ne pD]; exact pH) prep (rA6.keep (fun _ _ z => z) fun a ha => ⟨(rA6.at ha).1, ?_⟩)
          exact upd_ne fun e => nDq (by rw [← e]; exact ha)
        · exact List.nodup_append.mpr ⟨nd, List.nodup_cons.mpr ⟨by simp, List.nodup_nil⟩, fun a ha b hb e => pq (by rw [List.mem_singleton] at hb; rw [← hb, ← e]; exact ha)⟩
        · rw [List.mem_append, List.mem_singleton]
          rintro (z | z)
          · exact nDq z
          · exact pD z.symm
        · intro q hq
          rcases List.mem_append.mp hq with hq | hq
          · exact q0 q hq
          · rw [List.mem_singleton] at hq; rw [hq]; exact hp1
        · rw [List.length_append, List.length_singleton]; omega
        · have : (fun ys m3 => Q1 (rows ++ [row] ++ ys) m3) = fun ys m3 => Q1 (rows ++ row :: ys) m3 := by funext ys m3; rw [List.append_assoc]; rfl
          rw [this]; exact q6
    · have hi' : i = its.length := by omega
      refine .inl ⟨stop hi', ?_⟩
      rw [List.drop_eq_nil_of_le (by omega)] at q'
      have q'' : Q1 (rows ++ []) m' := q'
      rw [List.append_nil] at q''
      have f2 := f1.trans fr
      refine k Dl qs rows H' F' m' r' f2 ⟨hD0, nF, cD, hA, nDq, nd, rA, fun q hq => ?_⟩ q''
      have h1 := q0 q hq
      cases z : H q with
      | none => rfl
      | some o => rw [f1.hh q o z (rA.at hq).2.1] at h1; cases h1⟩
abbrev AllB' (X : Cx) (scope : Scope) (Z : Cx → Prop) : Prop := ∀ (s : Shared) (H : Hp) (C : Addr) (cl : List (Str × Addr)) (fp : List Addr), Z (X.blk s H scope (compEnvC scope cl C X.env) fp)
theorem gnt_lc {vs : List Nat} (hc : X.calm = true) (hN : X.N.Nodup) (hi : GI true g X tg iter di) (ok : BlkOk X.N X.env.scope scope own) (hg : AllB' X scope fun Y => GG g Y tg T f js) (he : AllB' X scope fun Y => GN g Y elt de)
    (hv : own.map (·.2) = vs := by rfl) (hj : ∀ j ∈ js, j ∈ own.map (·.2) := by decide) (hs : ∀ x, foldedSetIterable iter X.env x = pure x := by intro _; rfl) : GNt g X (.ListComp elt [⟨tg, iter, [], 0⟩] scope pos) (dLt di f de vs) := by
  subst hv
  exact ⟨fun pins s σ H Q I q => (pe_lc (wi := tI X.K g true di) (g := T) (tt := tT X.K g dYes) (te := tN X.K g de) hc hN hi ok (fun s H C cl fp => (hg s H C cl fp).pg) (fun s H C cl fp => gts_nil) (fun s H C cl fp => he s H C cl fp) hs).run pins s σ H Q I (lct_weak (T := T) _ hj (hg s H 0 [] []).ok σ H Q q)⟩
/-- x = a new table -/
def dAsgTb (i : Nat) (d : DR) : DS := fun env m E => d env m fun rows m1 => ∀ qs, E.nx (env.set i (.tb qs rows)) m1
theorem asgTb_weak {t : TE} {i : Nat} {d : DR} (w : ∀ σ H Q, tNt X.K g d σ H Q → t σ H Q) : ∀ D σ H, tSD X.K g (dAsgTb i d) D σ H → tAsg t (gName i) D σ H := fun D σ H ⟨c, F, env, m, E, r, h, o⟩ =>
  w σ H _ ⟨c, F, env, m, _, r, h, fun p qs rows H' F' m' r' f t q => by
    refine o.nx _ H' F' _ m' (r'.setS (fun a ha => ?_) t.slr) ?_ (q qs)
    · exact not_own r (t.zero a ha)
    · have v := r.evo f
      refine ⟨v.ff, v.fh, v.hh, v.new, v.nc, fun a z => ?_⟩
      rcases own_set1 r.len z with y | y
      · exact ⟨(t.slr.at y).2.1, .inr (t.zero a y)⟩
      · exact v.own a y⟩
theorem gs_setTb {e : Expr} {d : DR} {i : Nat} {x : Str} {pos' : Pos} (hN : X.N.Nodup) (hi : X.N[i]? = some x) (hx : Loc X.env.scope x) (he : GNt g X e d) (hs : swapsWith e (some (.Name x pos')) pos.line X.env = pure false := by rfl)
    (hf : X.fn x = true ∨ X.env.scope.names.lookup x = some .local := by first | exact .inl rfl | exact .inr rfl | assumption) : GS g X (.Assign [.Name x pos'] e pos) (dAsgTb i d) := PS.weak (ps_set hN hi hx he hs hf) (asgTb_weak fun _ _ _ h => h)
theorem gs_setLcTb {vs : List Nat} {i : Nat} {y : Str} {py spos : Pos} (hc : X.calm = true) (hN : X.N.Nodup) (hy : X.N[i]? = some y) (hyl : X.env.scope.names.lookup y = some .local)
    (hsw : swapsWith (.ListComp elt [⟨tg, iter, [], 0⟩] scope pos) (some (.Name y py)) spos.line X.env = pure true) (hi : GI true g X tg iter di) (ok : BlkOk X.N X.env.scope scope own) (hg : AllB' X scope fun Y => GG g Y tg T f js) (he : AllB' X scope fun Y => GN g Y elt de)
    (hv : own.map (·.2) = vs := by rfl) (hj : ∀ j ∈ js, j ∈ own.map (·.2) := by decide) (hs : ∀ x, foldedSetIterable iter X.env x = pure x := by intro _; rfl) : GS g X (.Assign [.Name y py] (.ListComp elt [⟨tg, iter, [], 0⟩] scope pos) spos) (dAsgTb i (dLt di f de vs)) := by
  subst hv
  exact ⟨fun pins s σ H D I q => (ps_setLc (wi := tI X.K g true di) (g := T) (tt := tT X.K g dYes) (te := tN X.K g de) hc hN hy hyl hsw hi ok (fun s H C cl fp => (hg s H C cl fp).pg) (fun s H C cl fp => gts_nil) (fun s H C cl fp => he s H C cl fp) hs).run pins s σ H D I (asgTb_weak (lct_weak (T := T) _ hj (hg s H 0 [] []).ok) D σ H q)⟩
/-- an element of a mixed tuple: a new table -/
def dConsT (d : DR) (r : DA) : DA := fun env m Q => d env m fun rows m1 => r env m1 fun as m2 => ∀ qs, Q (.tb qs rows :: as) m2
theorem gmx_tab {e : Expr} {es : List Expr} {d : DR} {dr : DA} (ha : GNt g X e d) (hr : GMx g X es dr) (hs : starEach (e :: es) X.env = (false, eval e X.env) :: starEach es X.env := by rfl) : GMx g X (e :: es) (dConsT d dr) := PA.weak (pa_cons ha hr hs) fun σ H Q ⟨c, F, env, m, Q1, rl, hd, k⟩ =>
  ⟨c, F, env, m, _, rl, hd, fun p qs rows H1 F1 m1 r1 f1 t q1 => ⟨c, F1, env, m1, _, r1, q1, fun vs H2 F2 m2 as r2 f2 it q2 => by
    refine k _ H2 F2 m2 _ r2 (f1.trans f2) (.cons (s := .tb qs rows) (t.slr.mono f2) (fun a ha => ⟨t.zero a ha, fun z => ?_⟩) (it.lower (fresh_back f1))) (q2 qs)
    obtain ⟨_, _, u, hu⟩ := t.slr.at ha
    rw [(it.own a z).1] at hu; cases hu⟩⟩
/-- x[a][b] += e -/
def dAugT (op : Int → Int → Int) (i : Nat) (d1 d2 d3 : DE) : DS := fun env m E => ∃ qs rows, env[i]? = some (.tb qs rows) ∧ d1 env m fun x m1 => ∃ (a : Nat) (row : List D), x = .int (a : Nat) ∧ rows[a]? = some row ∧ d2 env m1 fun y m2 => ∃ (b : Nat) (v : Int), y = .int (b : Nat) ∧ row[b]? = some (.int v) ∧
  d3 env m2 fun z m3 => ∃ w : Int, z = .int w ∧ E.nx (env.set i (.tb qs (rows.set a (row.set b (.int (op v w)))))) m3
theorem tab_at {K : PySem.W.Frag} {c : Option Addr} {F H : Hp} {env : Env'} {m : Nat} {σ : St} {i : Nat} {qs : List Addr} {rows : List (List D)} (r : Rel K g c F env m σ H) (ho : env[i]? = some (.tb qs rows)) :
    ∃ p, σ[i]? = some (some (.ref p)) ∧ F p = none ∧ c ≠ some p ∧ H p = some (.lst (qs.map V.ref)) ∧ p ∉ qs ∧ qs.Nodup ∧ RowsR K g c F H rows qs := r.slot i _ ho
theorem RowsR.get {K : PySem.W.Frag} {c : Option Addr} {F H : Hp} : ∀ {rows : List (List D)} {qs : List Addr} {a : Nat} {row : List D}, RowsR K g c F H rows qs → rows[a]? = some row → ∃ q xs, qs[a]? = some q ∧ H q = some (.lst xs) ∧ RepL K g F row xs
  | _, _, _, _, .nil, h => by simp at h
  | _, _, 0, _, .cons _ _ h3 h4 _, h => by simp at h; subst h; exact ⟨_, _, rfl, h3, h4⟩
  | _, _, a + 1, _, .cons _ _ _ _ t, h => by
    obtain ⟨q, xs, h1, h2, h3⟩ := t.get (a := a) (by simpa using h)
    exact ⟨q, xs, by simpa using h1, h2, h3⟩
theorem RowsR.set {K : PySem.W.Frag} {c : Option Addr} {F H : Hp} {q : Addr} {row : List D} {xs : List V} (rl : RepL K g F row xs) : ∀ {rows : List (List D)} {qs : List Addr} {a : Nat}, RowsR K g c F H rows qs → qs.Nodup → qs[a]? = some q → RowsR K g c F (upd H q (.lst xs)) (rows.set a row) qs
  | _, _, _, .nil, _, h => by simp at h
  | _, _, 0, .cons h1 h2 h3 h4 t, nd, h => by
    simp at h; subst h
    refine .cons h1 h2 upd_same rl (t.keep (fun _ _ z => z) fun a ha => ⟨(t.at ha).1, ?_⟩)
    exact upd_ne fun e => (List.nodup_cons.mp nd).1 (by rw [← e]; exact ha)
  | _, _, a + 1, .cons h1 h2 h3 h4 t, nd, h => by
    rw [List.getElem?_cons_succ] at h
    refine .cons h1 h2 ?_ h4 (t.set rl (a := a) (List.nodup_cons.mp nd).2 h)
    rw [upd_ne fun e => (List.nodup_cons.mp nd).1 (by rw [e]; exact List.mem_of_getElem? h)]; exact h3
theorem Rel.mutT {K : PySem.W.Frag} {c : Option Addr} {F H : Hp} {env : Env'} {m : Nat} {σ : St} {i a : Nat} {q : Addr} {qs : List Addr} {rows : List (List D)} {row : List D} {xs : List V} (r : Rel K g c F env m σ H) (ho : env[i]? = some (.tb qs rows)) (hq : qs[a]? = some q) (rl : RepL K g F row xs) :
    Rel K g c F (env.set i (.tb qs (rows.set a row))) m σ (upd H q (.lst xs)) ∧ Evo c (Own env σ) F H (Own (env.set i (.tb qs (rows.set a row))) σ) F (upd H q (.lst xs)) := by
  obtain ⟨p, hs, h1, h2, h3, h4, h5, h6⟩ := tab_at r ho
  have mq := List.mem_of_getElem? hq
  refine r.mutS ho (fun a => by rw [hs]; rfl) (fun a ha => ?_) ?_
  · rw [hs, show (Sl.tb qs rows).adr (some (some (.ref p))) = p :: qs from rfl] at ha
    exact upd_ne fun e => ha (by rw [e]; exact List.mem_cons_of_mem _ mq)
  · rw [hs]
    exact ⟨p, rfl, h1, h2, by rw [upd_ne fun e => h4 (by rw [e]; exact mq)]; exact h3, h4, h5, h6.set rl h5 hq⟩
theorem gs_augT {op : Operator} {fo : Int → Int → Int} (i : Nat) {x : Str} {e1 e2 e3 : Expr} {d1 d2 d3 : DE} {p1 tpos spos : Pos} (hip : PIp X op (ipI fo)) (h1 : GE g X e1 d1) (h2 : GE g X e2 d2) (h3 : GE g X e3 d3) (hN : X.N[i]? = some x := by rfl) (hv : Vis X.env.scope x := by first | exact Or.inl rfl | exact Or.inr (Or.inl rfl) | exact Or.inr (Or.inr rfl)) (hd : (x == ("__debug__" : Str)) = false := by decide)
    (hcd : (x == ("__classdict__" : Str)) = false := by decide) (hpl : PlainIx e1 := by intro _ _; rfl) (ha : ∀ ov iv new, augStore e2 ov iv new = (do holding [new, ov, iv] (setItem ov iv new); release [new, ov, iv] []; pure .next) := by intros; rfl) : GS g X (.AugAssign (.Subscript (.Subscript (.Name x p1) e1 spos) e2 tpos) op e3 pos) (dAugT fo i d1 d2 d3) :=
  PS.weak (ps_augS (pe_ix ix_list (pe_var hN hv hd hcd) h1 hpl) h2 get_listN h3 hip set_list ha) fun D σ H ⟨c, F, env, m, E, r, ⟨qs, rows, ho, h⟩, o⟩ => by
    obtain ⟨p, hs, _, _, hp, _⟩ := tab_at r ho
    refine ⟨.ref p, hs, c, F, env, m, _, r, h, fun kv H1 F1 m1 y r1 f1 rp ⟨a, row, ek, hrow, q1⟩ => ?_⟩
    subst ek
    cases rp
    obtain ⟨p1, hs1, _, _, hp1, _, _, rs1⟩ := tab_at r1 ho
    rw [hs] at hs1
    cases hs1
    obtain ⟨q, xs, hq, hH, rl⟩ := rs1.get hrow
    refine ⟨p, qs.map V.ref, (a : Nat), .ref q, rfl, rfl, SqL.of hp1, atI_nat (by rw [List.getElem?_map, hq]; rfl), c, F1, env, m1, _, r1, q1, fun kv2 H2 F2 m2 y2 r2 f2 rp2 ⟨b, v, ek2, hv2, q2⟩ => ?_⟩
    subst ek2
    cases rp2
    obtain ⟨p2, hs2, _, _, hp2, _, _, rs2⟩ := tab_at r2 ho
    obtain ⟨q', xs2, hq2, hH2, rl2⟩ := rs2.get hrow
    rw [hq] at hq2
    cases hq2
    obtain ⟨w, hw, rw1⟩ := rl2.get hv2
    cases rw1
    refine ⟨q, xs2, b, .int v, rfl, rfl, SqL.of hH2, hw, c, F2, env, m2, _, r2, q2, fun vv H3 F3 m3 z r3 f3 rp3 ⟨u, ez, q3⟩ => ?_⟩
    subst ez
    cases rp3
    refine ⟨v, u, rfl, rfl, ?_⟩
    obtain ⟨p3, hs3, _, _, hp3, _, _, rs3⟩ := tab_at r3 ho
    obtain ⟨q', xs3, hq3, hH3, rl3⟩ := rs3.get hrow
    rw [hq] at hq3
    cases hq3
    obtain ⟨r4, v4⟩ := r3.mutT ho hq (rl3.set (.int (fo v u)) b)
    have hlt : b < row.length := (List.getElem?_eq_some_iff.mp hv2).1
    have hix : ixN xs3.length (b : Nat) = some b := by
      have := rl3.length
      unfold ixN
      rw [if_pos (by omega), if_pos (by omega), Int.toNat_natCast]
    exact ⟨q, xs3, (b : Nat), b, rfl, rfl, hH3, hix, o.nx σ _ F3 _ m3 r4 ((r.evo ((f1.trans f2).trans f3)).trans v4) q3⟩
end
end G
/-! tables held fast; defs that answer with a new table -/
namespace G
open PySem L2
section
variable {g : Gp} {K : PySem.W.Frag}
theorem rows_rep {c : Option Addr} {F H F' : Hp} (ex : Ex F F') : ∀ {rows : List (List D)} {qs : List Addr}, RowsR K g c F H rows qs → (∀ q ∈ qs, F' q = H q) → RepL K g F' (rows.map D.lst) (qs.map V.ref)
  | _, _, .nil, _ => .nil
  | _, _, .cons h1 h2 h3 h4 t, k => .cons (.lst (by rw [k _ (by simp)]; exact h3) (RepL.mono ex h4)) (rows_rep ex t fun q hq => k q (by simp [hq]))
open Classical in
theorem Rel.freezeT {c : Option Addr} {F H : Hp} {env : Env'} {m : Nat} {σ : St} {i : Nat} {qs : List Addr} {rows : List (List D)} (r : Rel K g c F env m σ H) (ho : env[i]? = some (.tb qs rows)) :
    ∃ F', Rel K g c F' (env.set i (.val (.lst (rows.map D.lst)))) m σ H ∧ Evo c (Own env σ) F H (Own (env.set i (.val (.lst (rows.map D.lst)))) σ) F' H := by
  obtain ⟨p, hs, h1, h2, h3, h4, h5, h6⟩ := tab_at r ho
  let F' : Hp := fun a => if a = p ∨ a ∈ qs then H a else F a
  have F'y : ∀ a, (a = p ∨ a ∈ qs) → F' a = H a := fun a h => if_pos h
  have F'n : ∀ a, ¬ (a = p ∨ a ∈ qs) → F' a = F a := fun a h => if_neg h
  have ex : Ex F F' := fun a o h => by
    rw [F'n a]
    · exact h
    · rintro (z | z)
      · rw [z, h1] at h; cases h
      · rw [(h6.at z).1] at h; cases h
  refine ⟨F', r.holdS ho ex (fun a o z => ?_) (fun a u z => ?_) hs (.lst (by rw [F'y p (.inl rfl)]; exact h3) (rows_rep ex h6 fun q hq => F'y q (.inr hq)))⟩
  · by_cases y : a = p ∨ a ∈ qs
    · rw [F'y a y] at z; exact z
    · rw [F'n a y] at z; exact r.sub a o z
  · by_cases y : a = p ∨ a ∈ qs
    · right
      rw [hs, show (Sl.tb qs rows).adr (some (some (.ref p))) = p :: qs from rfl]
      rcases y with rfl | y
      · simp
      · exact List.mem_cons_of_mem _ y
    · rw [F'n a y] at z; exact .inl z
def dFreezeT (i : Nat) (s : DS) : DS := fun env m E => ∃ qs rows, env[i]? = some (.tb qs rows) ∧ s (env.set i (.val (.lst (rows.map D.lst)))) m E
theorem frT_weak {i : Nat} {s : DS} : ∀ D σ H, tSD K g (dFreezeT i s) D σ H → tSD K g s D σ H := fun D σ H ⟨c, F, env, m, E, r, ⟨qs, rows, ho, h⟩, o⟩ => by
  obtain ⟨F', r', v⟩ := r.freezeT ho
  exact ⟨c, F', _, m, E, r', h, o.shift v⟩
theorem gs_freezeT {X : Cx} (i : Nat) {st : Stmt} {s : DS} (h : GS g X st s) : GS g X st (dFreezeT i s) := PS.weak h frT_weak
end
abbrev SpecT := List Sl → Nat → (List (List D) → Nat → Prop) → Prop
def spOfT (K : PySem.W.Frag) (g : Gp) (S : SpecT) : Sp := fun vs H Q _ => ∃ c F as m Q', Ex F H ∧ ArgsR K g c F as vs ∧ Ck g c m F H ∧ S as m Q' ∧
  ∀ p qs rows H' F' m', Fresh c F H F' H' → Ck g c m' F' H' → TabNew K g c H F' H' p qs rows → Q' rows m' → Q (.ref p) H'
def dCallT (S : SpecT) (da : DA) : DR := fun env m Q => da env m fun as m1 => S as m1 Q
theorem TabNew.lower {K : PySem.W.Frag} {g : Gp} {c : Option Addr} {H0 H F' H' : Hp} {p : Addr} {qs : List Addr} {rows : List (List D)} (k : ∀ a, H a = none → c ≠ some a → H0 a = none) (t : TabNew K g c H F' H' p qs rows) : TabNew K g c H0 F' H' p qs rows :=
  ⟨k p t.p0 t.pc, t.pF, t.pc, t.pH, t.pq, t.nd, t.rs, fun q hq => k q (t.q0 q hq) (t.rs.at hq).2.1⟩
section
variable {g : Gp} {X : Cx} {k : Nat} {f : Addr} {fd : FuncData} {ps : List Str} {S : SpecT} {x : Str} {p pos : Pos} {e : Expr} {es : List Expr} {da : DA}
theorem callT_weak : ∀ σ H Q, tNt X.K g (dCallT S da) σ H Q → tCall (spOfT X.K g S) [] E0 (tAr X.K g da) σ H Q := fun σ H Q ⟨c, F, env, m, Q1, r, h, kk⟩ =>
  ⟨c, F, env, m, _, r, h, fun vs H1 F1 m1 as r1 f1 ar q => by
    refine ⟨c, F1, as, m1, Q1, r1.sub, by rw [List.append_nil]; exact ar, r1.ck, q, fun p qs rows H' F' m' f' ck' t q' => kk p qs rows H' F' m' (r1.fresh f' ck') (f1.trans f') (t.lower (fresh_back f1)) q'⟩⟩
theorem gnt_call (F : FnOk X.prog X.w X.K X.mg X.base CX0 k f fd ps (spOfT X.K g S)) (hr : Room k X.A) (hg : Gl X x) (hm : X.mg x = some (.ref f)) (hk : PySem.W.keepIn X.K (.ref f) = true) (hb : Binds X.K fd ps [])
    (ha : GA g X (e :: es) da) (hdb : (x == ("__debug__" : Str)) = false := by decide) (he : starEach (e :: es) X.env = (false, eval e X.env) :: starEach es X.env := by rfl) (hpl : (backTo pos (starEach es X.env)).any (·.1) = false := by rfl) :
    GNt g X (.Call (.Name x p) (e :: es) [] pos) (dCallT S da) := PE.weak (pe_call F hr hg hm hk hb .nil pass0 ha hdb he hpl) callT_weak
end
section
variable {P : Program} {w : World} {K : PySem.W.Frag} {mg : Str → Option Value} {base : Heap} {g : Gp}
/-- a def of one statement and `return <new table>` -/
theorem def_okT {x qual : Str} {st : Stmt} {f : Addr} {fd : FuncData} {N ps : List Str} {k : Nat} {S : SpecT} (F : Fun K x qual st f fd) (SC : FnScope N ps (defScope st)) (len : ∀ as m Q, S as m Q → as.length = ps.length) {s1 : Stmt} {e : Expr} {pos : Pos} (hbd : defBody st = [s1, .Return (some e) pos])
    (hbody : ∀ (cdv : Value) (A : Around) (outer : List Env) (s : Shared) (H : Hp) (E : XK), Room k (A.deeper (PyProof.Rows.envOfC qual (defScope st) s.heap.objs.size f cdv)) →
      ∃ d1 d2, GS g (cxOf CX0 P w K mg base N qual (defScope st) f cdv A outer s H E).nox s1 d1 ∧ GNt g (cxOf CX0 P w K mg base N qual (defScope st) f cdv A outer s H E).nox e d2 ∧ ∀ as m Q, S as m Q → d1 (pad N as) m { nx := fun env' m' => d2 env' m' Q, rt := fun _ _ => False }) :
    FnOk P w K mg base CX0 (k + 1) f fd ps (spOfT K g S) := by
  refine F.ok SC (fun vs H Q E h => ?_) (fun cdv A outer s H vs Q E hr h => ?_)
  · obtain ⟨c, F, as, m, Q', _, ar, _, hs, _⟩ := h
    rw [← ar.length]; exact len as m Q' hs
  · obtain ⟨c, F, as, m, Q', e1, ar, ck, hs, kk⟩ := h
    obtain ⟨d1, d2, g1, g2, hd⟩ := hbody cdv A outer s H E hr
    obtain ⟨rel, no⟩ := start_rel (N := N) e1 ar ck
    have toF : ∀ {O' : Addr → Prop} {F' H' : Hp}, Evo c (Own (pad N as) (L2.start N vs)) F H O' F' H' → Fresh c F H F' H' := fun v => ⟨v.ff, v.fh, fun a o h n => v.hh a o h n (no a), fun a o h => (v.new a o h).imp id fun z => z.elim id fun y => (no a y).elim, v.nc⟩
    rw [hbd]
    refine ⟨_, pss_cons g1 (pss_one (ps_ret g2)), c, F, _, m, _, rel, hd as m Q' hs, ⟨fun σ' H' F' env' m' r' v q => ?_, fun _ _ _ _ _ _ _ q => q.elim, fun _ _ _ _ _ _ _ q => q.elim, fun v H' F' m' y ck' ev rp q => q.elim⟩⟩
    refine ⟨c, F', env', m', _, r', q, fun p qs rows H2 F2 m2 r2 f2 t q2 => ?_⟩
    have f1 := toF v
    exact kk p qs rows H2 F2 m2 (f1.trans f2) r2.ck (t.lower (fresh_back f1)) q2
end
end G
/-! x[a][b] read and set, x a table of one's own; min of a list -/
namespace G
open PySem L2
section
variable {g : Gp} {X : Cx} {e e1 e2 e3 : Expr} {d1 d2 d3 : DE} {pos p1 spos tpos : Pos} {K : PySem.W.Frag}
def dIxT (i : Nat) (d1 d2 : DE) : DE := fun env m Q => ∃ qs rows, env[i]? = some (.tb qs rows) ∧ d1 env m fun x m1 => ∃ (a : Nat) (row : List D), x = .int (a : Nat) ∧ rows[a]? = some row ∧ d2 env m1 fun y m2 => ∃ (b : Nat) (v : D), y = .int (b : Nat) ∧ row[b]? = some v ∧ Q v m2
theorem ge_ixT (i : Nat) {x : Str} (h1 : GE g X e1 d1) (h2 : GE g X e2 d2) (hN : X.N[i]? = some x := by rfl) (hv : Vis X.env.scope x := by first | exact Or.inl rfl | exact Or.inr (Or.inl rfl) | exact Or.inr (Or.inr rfl)) (hd : (x == ("__debug__" : Str)) = false := by decide)
    (hcd : (x == ("__classdict__" : Str)) = false := by decide) (hpl : PlainIx e1 := by intro _ _; rfl) (hpl2 : PlainIx e2 := by intro _ _; rfl) : GE g X (.Subscript (.Subscript (.Name x p1) e1 spos) e2 pos) (dIxT i d1 d2) :=
  PE.weak (pe_ix ix_list (pe_ix ix_list (pe_var hN hv hd hcd) h1 hpl) h2 hpl2) fun σ H Q ⟨c, F, env, m, Q1, r, ⟨qs, rows, ho, h⟩, kk⟩ => by
    obtain ⟨p, hs, _, _, hp, _⟩ := tab_at r ho
    refine ⟨.ref p, hs, c, F, env, m, _, r, h, fun kv H1 F1 m1 y r1 f1 rp ⟨a, row, ek, hrow, q1⟩ => ?_⟩
    subst ek
    cases rp
    obtain ⟨p1, hs1, _, _, hp1, _, _, rs1⟩ := tab_at r1 ho
    rw [hs] at hs1
    cases hs1
    obtain ⟨q, xs, hq, hH, rl⟩ := rs1.get hrow
    refine ⟨p, qs.map V.ref, (a : Nat), .ref q, rfl, rfl, SqL.of hp1, atI_nat (by rw [List.getElem?_map, hq]; rfl), c, F1, env, m1, _, r1, q1, fun kv2 H2 F2 m2 y2 r2 f2 rp2 ⟨b, v, ek2, hv2, q2⟩ => ?_⟩
    subst ek2
    cases rp2
    obtain ⟨p2, hs2, _, _, hp2, _, _, rs2⟩ := tab_at r2 ho
    obtain ⟨q', xs2, hq2, hH2, rl2⟩ := rs2.get hrow
    rw [hq] at hq2
    cases hq2
    obtain ⟨w, hw, rw1⟩ := rl2.get hv2
    exact ⟨q, xs2, (b : Nat), w, rfl, rfl, SqL.of hH2, atI_nat hw, kk w H2 F2 m2 v r2 (f1.trans f2) rw1 q2⟩
/-- x[a][b] = e -/
def dSetT (i : Nat) (d3 d1 d2 : DE) : DS := fun env m E => d3 env m fun z m1 => ∃ qs rows, env[i]? = some (.tb qs rows) ∧ d1 env m1 fun x m2 => ∃ (a : Nat) (row : List D), x = .int (a : Nat) ∧ rows[a]? = some row ∧ d2 env m2 fun y m3 => ∃ (b : Nat), y = .int (b : Nat) ∧ b < row.length ∧ E.nx (env.set i (.tb qs (rows.set a (row.set b z)))) m3
theorem gs_setT (i : Nat) {x : Str} {ps : Pos} (h3 : GE g X e3 d3) (h1 : GE g X e1 d1) (h2 : GE g X e2 d2) (hN : X.N[i]? = some x := by rfl) (hv : Vis X.env.scope x := by first | exact Or.inl rfl | exact Or.inr (Or.inl rfl) | exact Or.inr (Or.inr rfl)) (hd : (x == ("__debug__" : Str)) = false := by decide)
    (hcd : (x == ("__classdict__" : Str)) = false := by decide) (hpl : PlainIx e1 := by intro _ _; rfl) (ha : ∀ w, assign (.Subscript (.Subscript (.Name x p1) e1 spos) e2 ps) X.env w = (do
      let ov ← holding [w] (eval (.Subscript (.Name x p1) e1 spos) X.env)
      let iv ← holding [w, ov] (eval e2 X.env)
      standAt ps
      holding [w, ov, iv] (setItem ov iv w)
      release [w, ov, iv] []) := by intro _; rfl) (hs : swapsWithSole [.Subscript (.Subscript (.Name x p1) e1 spos) e2 ps] e3 pos.line X.env = pure false := by rfl) (hw : swappedStores [.Subscript (.Subscript (.Name x p1) e1 spos) e2 ps] e3 X.env = pure none := by rfl)
    (h1' : (assignEach [.Subscript (.Subscript (.Name x p1) e1 spos) e2 ps] X.env).map (·.2) = [assign (.Subscript (.Subscript (.Name x p1) e1 spos) e2 ps) X.env] := by rfl) : GS g X (.Assign [.Subscript (.Subscript (.Name x p1) e1 spos) e2 ps] e3 pos) (dSetT i d3 d1 d2) :=
  PS.weak (ps_asg h3 (pg_sub (pe_ix ix_list (pe_var hN hv hd hcd) h1 hpl) h2 set_list ha) hs hw h1') fun D σ H ⟨c, F, env, m, E, r, h, o⟩ => ⟨c, F, env, m, _, r, h, fun u H0 F0 m0 z r0 f0 rp0 ⟨qs, rows, ho, q0⟩ => by
    obtain ⟨p, hs, _, _, hp, _⟩ := tab_at r0 ho
    refine ⟨.ref p, hs, c, F0, env, m0, _, r0, q0, fun kv H1 F1 m1 y r1 f1 rp ⟨a, row, ek, hrow, q1⟩ => ?_⟩
    subst ek
    cases rp
    obtain ⟨p1, hs1, _, _, hp1, _, _, rs1⟩ := tab_at r1 ho
    rw [hs] at hs1
    cases hs1
    obtain ⟨q, xs, hq, hH, rl⟩ := rs1.get hrow
    refine ⟨p, qs.map V.ref, (a : Nat), .ref q, rfl, rfl, SqL.of hp1, atI_nat (by rw [List.getElem?_map, hq]; rfl), c, F1, env, m1, _, r1, q1, fun kv2 H2 F2 m2 y2 r2 f2 rp2 ⟨b, ek2, hb, q2⟩ => ?_⟩
    subst ek2
    cases rp2
    obtain ⟨p2, hs2, _, _, hp2, _, _, rs2⟩ := tab_at r2 ho
    obtain ⟨q', xs2, hq2, hH2, rl2⟩ := rs2.get hrow
    rw [hq] at hq2
    cases hq2
    obtain ⟨r4, v4⟩ := r2.mutT ho hq (rl2.set (rp0.mono (f1.trans f2).ff) b)
    have hix : ixN xs2.length (b : Nat) = some b := by
      have := rl2.length
      unfold ixN
      rw [if_pos (by omega), if_pos (by omega), Int.toNat_natCast]
    exact ⟨q, xs2, (b : Nat), b, rfl, rfl, hH2, hix, o.nx σ _ F2 _ m2 r4 ((r.evo ((f0.trans f1).trans f2)).trans v4) q2⟩⟩
/-! min of a list of ints -/
def minL : List Int → Option Int
  | [] => none
  | n :: r => some (r.foldl min n)
theorem minL_ok {ns : List Int} {m : Int} (h : minL ns = some m) : m ∈ ns ∧ ∀ y ∈ ns, m ≤ y := by
  cases ns with
  | nil => cases h
  | cons n r =>
    cases h
    have : ∀ (r : List Int) (n : Int), (r.foldl min n ∈ n :: r) ∧ ∀ y ∈ n :: r, r.foldl min n ≤ y := by
      intro r
      induction r with
      | nil => intro n; simp
      | cons a r ih =>
        intro n
        obtain ⟨h1, h2⟩ := ih (min n a)
        have hm : min n a ≤ n ∧ min n a ≤ a ∧ (min n a = n ∨ min n a = a) := by omega
        show (r.foldl min (min n a) ∈ n :: a :: r) ∧ ∀ y ∈ n :: a :: r, r.foldl min (min n a) ≤ y
        refine ⟨?_, fun y hy => ?_⟩
        · rcases List.mem_cons.mp h1 with e | e
          · rw [e]
            rcases hm.2.2 with z | z <;> rw [z] <;> simp
          · exact List.mem_cons_of_mem _ (List.mem_cons_of_mem _ e)
        · have h0 := h2 (min n a) (by simp)
          rcases List.mem_cons.mp hy with rfl | hy
          · omega
          · rcases List.mem_cons.mp hy with rfl | hy
            · omega
            · exact h2 y (List.mem_cons_of_mem _ hy)
    exact this r n
def minD1 : List D → Option D
  | [.lst ds] => (intsD ds).bind fun ns => (minL ns).map D.int
  | _ => none
theorem cd_min1 : CallD K g (rMin K) minD1 := fun c F H xs z vs Q' e nc rp hz k => by
  unfold minD1 at hz
  split at hz
  · obtain ⟨ns, h1, h2⟩ := Option.bind_eq_some_iff.mp hz
    obtain ⟨m, h3, rfl⟩ := Option.map_eq_some_iff.mp h2
    have := intsD_map h1
    subst this
    obtain ⟨m1, m2⟩ := minL_ok h3
    cases rp with
    | cons h t =>
      cases t
      obtain ⟨p, ys, rfl, g1, g2, _⟩ := h
      have := repL_ints g2
      subst this
      refine ⟨p, ns, rfl, SqL.of g1, List.length_pos_iff.mpr fun z => (by rw [z] at m1; simp at m1), fun w hw hl => ?_⟩
      have : w = m := Int.le_antisymm (hl m m1) (m2 w hw)
      subst this
      exact k _ H F (New.refl e) (.int _)
  · cases hz
end
end G
/-! dicts: x in d, list(d), {k: v for ..}; a text that grows by what is popped -/
namespace G
open PySem L2
section
variable {K : PySem.W.Frag} {g : Gp} {X : Cx}
def rDIn (neg : Bool) : R2 := fun x y H Q => ∃ a kvs k, x = kV k ∧ y = .ref a ∧ H a = some (.dK kvs) ∧ Q (.bl (if neg then !(valV kvs k).isSome else (valV kvs k).isSome)) H
theorem or_inDk (hu : X.A.units + 64 < cLine) : OpR X (compareOp .In) (rDIn false) := by
  intro pins s σ H x y v u Q I rx ry h
  obtain ⟨a, kvs, k, rfl, rfl, ha, q⟩ := h
  obtain rfl : u = Value.ref a := ry
  exact d_in (by omega) I (DGet.k ha) rx fun s3 I3 => ⟨.bl (valV kvs k).isSome, H, I3, rfl, q⟩
theorem or_notinDk (hu : X.A.units + 64 < cLine) : OpR X (compareOp .NotIn) (rDIn true) := by
  intro pins s σ H x y v u Q I rx ry h
  obtain ⟨a, kvs, k, rfl, rfl, ha, q⟩ := h
  obtain rfl : u = Value.ref a := ry
  exact d_notIn (by omega) I (DGet.k ha) rx fun s3 I3 => ⟨.bl (!(valV kvs k).isSome), H, I3, rfl, q⟩
def dinB : D → D → Option Bool
  | x, .dic kds => x.key.map fun k => (kvGet kds k).isSome
  | _, _ => none
def dinD (x y : D) : Option D := (dinB x y).map .bl
def dnotinD (x y : D) : Option D := (dinB x y).map fun b => .bl (!b)
theorem key_flat {x : D} {k : Key} (h : x.key = some k) : x.flat = true := by
  cases x <;> simp only [D.key] at h <;> first | rfl | cases h
theorem od_dinG {neg : Bool} : OpD K g (rDIn neg) (fun x y => (dinB x y).map fun b => .bl (if neg then !b else b)) := fun c F H x y z v w Q' e nc rx ry hz k => by
  obtain ⟨b, hb, rfl⟩ := Option.map_eq_some_iff.mp hz
  clear hz
  have k' := k _ H F (New.refl e) (.bl _)
  unfold dinB at hb
  split at hb
  · rename_i kds
    obtain ⟨key, hk, rfl⟩ := Option.map_eq_some_iff.mp hb
    obtain ⟨p, kvs, rfl, h1, h2, h3, _⟩ := ry
    have r1 := repT_flat (key_flat hk) rx
    have hkv := KvR.of h2 h3
    refine ⟨p, kvs, key, key_rep hk r1, rfl, h1, ?_⟩
    have : (valV kvs key).isSome = (kvGet kds key).isSome := by
      cases hg : kvGet kds key with
      | some d => obtain ⟨v, e1, _⟩ := hkv.get hg; rw [e1]; rfl
      | none => rw [hkv.getN hg]; rfl
    rw [this]
    exact k'
  · cases hb
theorem od_din : OpD K g (rDIn false) dinD := od_dinG
theorem od_dnotin : OpD K g (rDIn true) dnotinD := od_dinG
def keyD : Key → D | .inl i => .int i | .inr s => .str s
theorem keyD_rep {F : Hp} (k : Key) : Rep K g F (keyD k) (kV k) := by cases k <;> constructor
def listKD : List D → Option (List D)
  | [.dic kds] => some (kds.map fun kv => keyD kv.1)
  | _ => none
theorem keysD_rep {F : Hp} {kds : List (Key × D)} {kvs : List (Key × V)} (h : KvR K g F kds kvs) : RepL K g F (kds.map fun kv => keyD kv.1) (kvs.map fun kv => kV kv.1) := by
    obtain ⟨h1, _⟩ := h.to
    have : (kvs.map fun kv => kV kv.1) = (kds.map (·.1)).map kV := by rw [← h1, List.map_map]; rfl
    rw [this]
    have e2 : (kds.map fun kv => keyD kv.1) = (kds.map (·.1)).map keyD := by rw [List.map_map]; rfl
    rw [e2]
    generalize kds.map (·.1) = ks
    induction ks with
    | nil => exact .nil
    | cons k r ih => exact .cons (keyD_rep k) ih
theorem cn_listK : CallN K g rListD listKD := fun c F H xs ds vs Q' e nc rp hz k => by
  unfold listKD at hz
  split at hz
  · cases hz
    cases rp with
    | cons h t =>
      cases t
      obtain ⟨p, kvs, rfl, h1, h2, h3, _⟩ := h
      exact ⟨p, kvs, rfl, h1, fun l hl => k l _ F _ (new_lay e hl).1 hl (new_lay e hl (ys := kvs.map fun kv => kV kv.1)).2.1 upd_same (keysD_rep (KvR.of h2 h3))⟩
  · cases hz
end
/-! {k: v for ..} -/
def DvR (f : D → Env' → Option Env') (dk dv : DE) (env : Env') : List D → Nat → List (Key × D) → (List (Key × D) → Nat → Prop) → Prop
  | [], m, kds, Q => Q kds m
  | d :: ds, m, kds, Q => ∃ env2, f d env = some env2 ∧ dk env2 m fun x m1 => dv env2 m1 fun y m2 => ∃ k, x.key = some k ∧ DvR f dk dv env ds m2 (kvPut kds k y) Q
def dDc (di : DL) (f : D → Env' → Option Env') (dk dv : DE) (vs : List Nat) : DE := fun env m Q => di env m fun its m1 => its.length ≤ LL ∧ DvR f dk dv (wipeE env vs) its m1 [] fun kds m2 => Q (.dic kds) m2
theorem kvPut_len (kds : List (Key × D)) (k : Key) (d : D) : (kvPut kds k d).length ≤ kds.length + 1 := by
  unfold kvPut
  split
  · rw [List.length_map]; omega
  · rw [List.length_append, List.length_singleton]; omega
section
variable {g : Gp} {X : Cx} {kx vx tg iter : Expr} {scope : Scope} {own : List (Str × Nat)} {pos p dpos : Pos} {di : DL} {T : TG} {f : D → Env' → Option Env'} {js : List Nat} {dk dv : DE}
theorem dcv_weak (vs : List Nat) (hj : ∀ j ∈ js, j ∈ vs) (hg : ∀ (c : Option Addr) (F : Hp) (env : Env') (m : Nat) (σ : St) (H : Hp) (d : D) (v : V) (env2 : Env') (Q : St → Hp → Prop), Rel X.K g c F env m σ H → Rep X.K g F d v → f d env = some env2 →
    (∀ σ2, Rel X.K g c F env2 m σ2 H → (∀ a, Own env2 σ2 a → Own env σ a) → σ2.length = σ.length → (∀ i, i ∉ js → σ2[i]? = σ[i]?) → Q σ2 H) → T v σ H Q) :
    ∀ σ H Q, tNw X.K g (dDc di f dk dv vs) σ H Q → tDc (tI X.K g true di) T (tT X.K g dYes) (tD X.K g dk) (tD X.K g dv) vs σ H Q := fun σ H Q ⟨c, F, env, m, Q1, r, h, k⟩ =>
  ⟨c, F, env, m, _, r, h, fun J H1 F1 m1 its lk r1 f1 _ hk w ⟨hz, q⟩ => fun Dl hD => by
    have nD : F1 Dl = none := ex_none r1.sub hD
    have hD0 : H Dl = none := by
      cases z : H Dl with
      | none => rfl
      | some o =>
        have : c ≠ some Dl := fun e => by obtain ⟨_, xs, e', _⟩ := r1.ck Dl e; rw [hD] at e'; cases e'
        have := f1.hh Dl o z this
        rw [hD] at this; cases this
    have cD : c ≠ some Dl := fun z => by obtain ⟨_, xs, e, _⟩ := r1.ck Dl z; rw [hD] at e; cases e
    refine ⟨fun i kk H' => ∃ F' m' kvs kds, kk = its.length - i ∧ i ≤ its.length ∧ Fresh c F1 H1 F' H' ∧ Ck g c m' F' H' ∧ F' Dl = none ∧ H' Dl = some (.dK kvs) ∧ KvR X.K g F' kds kvs ∧ kds.length ≤ i ∧ DvR f dk dv (wipeE env vs) (its.drop i) m' kds (fun ks m3 => Q1 (.dic ks) m3), ⟨its.length, F1, m1, [], [], rfl, Nat.zero_le _, ?_, ?_, nD, upd_same, KvR.of rfl .nil, Nat.le_refl _, q⟩, ?_⟩
    · have n := New.lay (F := F1) (o := .dK []) r1.sub hD
      exact n.fresh r1.ck
    · exact r1.ck.new (New.lay r1.sub hD)
    · rintro i kk H' ⟨F', m', kvs, kds, rfl, hi, fr, ck, nF, hA, kr, lA, q'⟩
      have r' := r1.fresh fr ck
      have lk' : ∀ p ∈ lk, H' p.1 = some p.2 := fun p hp => fr.hh p.1 p.2 (hk p hp).1 (hk p hp).2
      obtain ⟨go, stop⟩ := w i F' H' fr.ff r'.sub lk'
      by_cases hlt : i < its.length
      · have hd : its[i]? = some its[i] := List.getElem?_eq_getElem hlt
        rw [List.drop_eq_getElem_cons hlt] at q'
        obtain ⟨g1, g2⟩ := go _ hd
        obtain ⟨env2, e2, q2⟩ := q'
        refine .inr ⟨g1, fun H2 => ∃ F2 m2 kvs2 kds2, Fresh c F1 H1 F2 H2 ∧ Ck g c m2 F2 H2 ∧ F2 Dl = none ∧ H2 Dl = some (.dK kvs2) ∧ KvR X.K g F2 kds2 kvs2 ∧ kds2.length ≤ i + 1 ∧ DvR f dk dv (wipeE env vs) (its.drop (i + 1)) m2 kds2 (fun ks m3 => Q1 (.dic ks) m3), fun H2 ⟨F2, m2, kvs2, kds2, a1, a2, a3, a4, a5, a6, a7⟩ => ⟨its.length - (i + 1), by omega, F2, m2, kvs2, kds2, rfl, by omega, a1, a2, a3, a4, a5, a6, a7⟩, fun x H3 y => ?_⟩
        obtain ⟨F3, n3, rp3⟩ := g2 x H3 y
        have r3 := (r'.wipe vs).new n3
        have fr3 := fr.trans (n3.fresh ck)
        have ck3 := ck.new n3
        refine hg c F3 _ m' _ H3 _ x env2 _ r3 rp3 e2 fun σ4 r4 o4 l4 a4 => ⟨?_, ?_⟩
        · refine Eq.trans (wipe_same l4 fun j hj' => a4 j fun z => hj' (hj j z)) (wipe_wipe σ vs)
        · have keep : ∀ {F5 H5 : Hp}, Fresh c F3 H3 F5 H5 → F5 Dl = none ∧ H5 Dl = some (.dK kvs) := fun {F5 H5} f5 => by
            have h3 : H3 Dl = some (.dK kvs) := n3.hh _ _ hA
            refine ⟨?_, f5.hh _ _ h3 cD⟩
            cases z : F5 Dl with
            | none => rfl
            | some o =>
              rcases f5.new Dl o z with y | y
              · rcases n3.new Dl o y with u | u
                · rw [nF] at u; cases u
                · rw [hA] at u; cases u
              · rw [h3] at y; cases y
          refine ⟨c, F3, env2, m', _, r4, (show dYes env2 m' fun b m5 => b = true ∧ dk env2 m5 fun x m1 => dv env2 m1 fun y m2 => ∃ k, x.key = some k ∧ DvR f dk dv (wipeE env vs) (its.drop (i + 1)) m2 (kvPut kds k y) (fun ks m3 => Q1 (.dic ks) m3) from ⟨rfl, q2⟩), fun b H5 F5 m5 r5 f5 ⟨hb, q5⟩ => ?_⟩
          subst hb
          refine ⟨c, F5, env2, m5, _, r5, q5, fun v6 H6 F6 m6 y6 r6 f6 rp6 q6 => ⟨c, F6, env2, m6, _, r6, q6, fun v7 H7 F7 m7 y7 r7 f7 rp7 ⟨key, hkey, q7⟩ => ?_⟩⟩
          obtain ⟨k1, k2⟩ := keep ((f5.trans f6).trans f7)
          have fr6 := ((fr3.trans f5).trans f6).trans f7
          have kr7 : KvR X.K g F7 (kvPut kds key y7) (putK kvs key v7) := KvR.put rp7 (kr.mono (n3.ff.trans ((f5.trans f6).trans f7).ff))
          have hl : kvs.length ≤ i := by rw [kr.length]; exact lA
          refine ⟨kvs, key, key_rep hkey rp6, k2, ll' (by omega), F7, m7, putK kvs key v7, kvPut kds key y7, ⟨fr6.ff, fun a o z => ?_, fun a o z n => ?_, fr6.new, fr6.nc⟩, fun a z => ?_, k1, upd_same, kr7, Nat.le_trans (kvPut_len _ _ _) (by omega), q7⟩
          · have : a ≠ Dl := fun e => by subst e; rw [k1] at z; cases z
            rw [upd_ne this]; exact fr6.fh a o z
          · have : a ≠ Dl := fun e => by subst e; rw [hD] at z; cases z
            rw [upd_ne this]; exact fr6.hh a o z n
          · have : a ≠ Dl := fun e => by subst e; exact cD z
            obtain ⟨b1, xs, b2, b3⟩ := r7.ck a z
            exact ⟨b1, xs, by rw [upd_ne this]; exact b2, b3⟩
      · have hi' : i = its.length := by omega
        rw [List.drop_eq_nil_of_le (by omega)] at q'
        have q'' : Q1 (.dic kds) m' := q'
        obtain ⟨k1, k2⟩ := kr.to
        exact .inl ⟨stop hi', k Dl H' F' m' (.dic kds) (.dK kvs) r' (f1.trans fr) hD0 nF cD hA ⟨kvs, rfl, k1, k2⟩ q''⟩⟩
theorem gnw_dc (hc : X.calm = true) (hN : X.N.Nodup) (hi : GI true g X tg iter di) (ok : BlkOk X.N X.env.scope scope own)
    (hg : ∀ (s : Shared) (H : Hp) (C : Addr) (cl : List (Str × Addr)) (fp : List Addr), GG g (X.blk s H scope (compEnvC scope cl C X.env) fp) tg T f js)
    (hk : ∀ (s : Shared) (H : Hp) (C : Addr) (cl : List (Str × Addr)) (fp : List Addr), GE g (X.blk s H scope (compEnvC scope cl C X.env) fp) kx dk) (he : ∀ (s : Shared) (H : Hp) (C : Addr) (cl : List (Str × Addr)) (fp : List Addr), GE g (X.blk s H scope (compEnvC scope cl C X.env) fp) vx dv)
    (hj : ∀ j ∈ js, j ∈ own.map (·.2) := by decide) (hs : ∀ x, foldedSetIterable iter X.env x = pure x := by intro _; rfl) :
    GNw g X (.DictComp kx vx [⟨tg, iter, [], 0⟩] scope dpos) (dDc di f dk dv (own.map (·.2))) :=
  ⟨fun pins s σ H Q I q => (pe_dc (wi := tI X.K g true di) (g := T) (tt := tT X.K g dYes) (tk := tD X.K g dk) (tv := tD X.K g dv) hc hN hi ok (fun s H C cl fp => (hg s H C cl fp).pg) (fun s H C cl fp => gts_nil) (fun s H C cl fp => hk s H C cl fp) (fun s H C cl fp => he s H C cl fp) hs).run pins s σ H Q I (dcv_weak (T := T) _ hj (hg s H 0 [] []).ok σ H Q q)⟩
theorem gnw_dc' {vs : List Nat} (hc : X.calm = true) (hN : X.N.Nodup) (hi : GI true g X tg iter di) (ok : BlkOk X.N X.env.scope scope own) (hg : AllB X scope fun Y => GG g Y tg T f js) (hk : AllB X scope fun Y => GE g Y kx dk) (he : AllB X scope fun Y => GE g Y vx dv)
    (hv : own.map (·.2) = vs := by rfl) (hj : ∀ j ∈ js, j ∈ own.map (·.2) := by decide) (hs : ∀ x, foldedSetIterable iter X.env x = pure x := by intro _; rfl) :
    GNw g X (.DictComp kx vx [⟨tg, iter, [], 0⟩] scope dpos) (dDc di f dk dv vs) := by
  subst hv; exact gnw_dc hc hN hi ok hg hk he hj hs
end
/-! x = x + y.pop(e), y one's own, x a text -/
section
variable {g : Gp} {X : Cx} {e : Expr} {d : DE} {pos : Pos}
def dCatPop (i j : Nat) (d : DE) : DS := fun env m E => ∃ (a : Str) (es : List D), env[i]? = some (.val (.str a)) ∧ env[j]? = some (.own es) ∧ i ≠ j ∧ d env m fun x m1 => ∃ (k : Nat) (b : Str), x = .int k ∧ es[k]? = some (.str b) ∧ es.length ≤ LL ∧ a.length + b.length ≤ LL ∧ E.nx ((env.set j (.own (es.eraseIdx k))).set i (.val (.str (a ++ b)))) m1
theorem gs_catPop (i j : Nat) {x y : Str} {p0 p1 p2 q1 q2 q3 : Pos} (hnd : X.N.Nodup) (hl : Loc X.env.scope x) (he : GE g X e d) (hN : X.N[i]? = some x := by rfl) (hv : Vis X.env.scope x := by first | exact Or.inl rfl | exact Or.inr (Or.inl rfl) | exact Or.inr (Or.inr rfl)) (hd : (x == ("__debug__" : Str)) = false := by decide)
    (hcd : (x == ("__classdict__" : Str)) = false := by decide) (hN2 : X.N[j]? = some y := by rfl) (hv2 : Vis X.env.scope y := by first | exact Or.inl rfl | exact Or.inr (Or.inl rfl) | exact Or.inr (Or.inr rfl)) (hd2 : (y == ("__debug__" : Str)) = false := by decide)
    (hcd2 : (y == ("__classdict__" : Str)) = false := by decide) (hs : starEach [e] X.env = (false, eval e X.env) :: starEach [] X.env := by rfl)
    (hb2 : attributeBase (.Name y q1) "pop" X.env (eval (.Name y q1) X.env) = eval (.Name y q1) X.env := by rfl) (hl2 : (q2.endLine == q3.line) = true := by rfl)
    (hf2 : ((backTo q3 (starEach [e] X.env)).all (fun x => !x.1) && (backToKw q3 (keywordEach [] X.env)).all (fun x => x.1.isSome) && decide ([e].length + ([] : List Keyword).length + (if ([] : List Keyword).isEmpty then 0 else 1) < 30)) = true := by rfl)
    (hsw : swapsWith (.BinOp (.Name x p1) .Add (.Call (.Attribute (.Name y q1) "pop" q2) [e] [] q3) p2) (some (.Name x p0)) pos.line X.env = pure false := by rfl)
    (hf : X.fn x = true ∨ X.env.scope.names.lookup x = some .local := by first | exact .inl rfl | exact .inr rfl | assumption) :
    GS g X (.Assign [.Name x p0] (.BinOp (.Name x p1) .Add (.Call (.Attribute (.Name y q1) "pop" q2) [e] [] q3) p2) pos) (dCatPop i j d) :=
  PS.weak (ps_set hnd hN hl (pe_op op_add_str (pe_var hN hv hd hcd) (pe_bm PySem.F.plainAttrs_list PySem.F.slot_list_pop PySem.F.type_list_pop mt_popAt (pe_var hN2 hv2 hd2 hcd2) (pa_cons he pa_nil hs) hb2 hf2 hl2 hs rfl)) hsw hf) fun D σ H ⟨c, F, env, m, E, r, ⟨a, es, ho, ho2, hij, q⟩, o⟩ => by
    obtain ⟨v0, e1, rv0⟩ := r.slot i _ ho
    cases rv0
    obtain ⟨p', xs', e2, hp', rl', nc'⟩ := own_at r ho2
    refine ⟨.str a, e1, .ref p', e2, .inl ⟨rfl, xs', SqL.of hp'⟩, c, F, env, m, _, r, q, fun v H1 F1 m1 w r1 f1 rp ⟨k, b, ew, hy, hl, hl2, q1⟩ => ?_⟩
    subst ew
    cases rp
    obtain ⟨pa, xa, ea, ha, ra, na⟩ := own_at r1 ho2
    rw [e2] at ea
    cases ea
    obtain ⟨u, hu, ru⟩ := ra.get hy
    cases ru
    have hk : k < xa.length := (List.getElem?_eq_some_iff.mp hu).1
    have hxl : xa.length ≤ LL := by rw [ra.length]; exact hl
    obtain ⟨r2, v2⟩ := r1.mut ho2 e2 (ra.eraseIdx k)
    have hk2 : (k : Int) < 2 ^ 63 := by
      have : k < 100000 := Nat.lt_of_lt_of_le hk hxl
      omega
    refine ⟨p', xa, (k : Int), k, .str b, rfl, rfl, ha, by omega, hk2, PySem.seqIndex_of (by omega) (by omega), hu, a, b, rfl, rfl, ll hl2, o.nx _ _ F1 _ m1 (r2.setV (.str (a ++ b))) (((r.evo f1).trans v2).trans (evo_setV r2 (Fresh.refl r2.sub r2.ck))) q1⟩
end
end G
/-! (a, b)[::-1] -/
namespace HT
open PySem PyProof.Rows
section
variable {prog : Program} {w : World} {A : Around} {E : Value → Shared → Prop} {s : Shared}
theorem sliceApplied_rev2 {sl : Addr} {tk : Tok} {Q : Int × Int × Nat → Shared → Prop} (hs : s.heap.IsSliceOf sl .none .none (.int (-1) tk))
    (h : Q ((1 : Int), -1, 2) s) : wpAny (model prog w) A (Builtin.Slice.sliceApplied (.ref sl) (pure ((2 : Nat) : Int))) Q E s := by
  obtain ⟨os, hos, hcs, hds⟩ := id hs
  unfold Builtin.Slice.sliceApplied Builtin.Slice.sliceFields
  refine wpAny_bind (wpAny_bind (wpAny_field hos hds (x := .none) rfl (wpAny_bind (wpAny_field hos hds (x := .none) rfl (wpAny_bind (wpAny_field hos hds (x := .int (-1) tk) rfl (wpAny_pure ?_)))))))
  refine wpAny_bind (slicePart_int ?_)
  show wpAny _ _ (if ((-1 : Int) == 0) = true then _ else _) _ _ s
  rw [if_neg (by decide)]
  refine wpAny_bind (slicePart_none (wpAny_bind (slicePart_none (wpAny_bind (wpAny_pure ?_)))))
  exact wpAny_pure h
theorem getItem_pair_rev {t sl : Addr} {a b : Value} {tk : Tok} {Q : Value → Shared → Prop} (ht : IsTup s.heap t #[a, b]) (hs : s.heap.IsSliceOf sl .none .none (.int (-1) tk))
    (h : Q (.ref s.heap.objs.size) { s with heap := s.heap.push { cls := .type "tuple", data := .seq #[b, a] } }) : wpAny (model prog w) A (getItem (.ref t) (.ref sl)) Q E s := by
  have htake : sizeOk (.seq #[b, a]) := by
    show (2 : Nat) ≤ sizeLine
    decide
  obtain ⟨os, hos, hcs, hds⟩ := id hs
  have hTs : s.TypeIs (.ref sl) "slice" := ⟨os, hos, hcs⟩
  unfold getItem
  try with_reducible refine wpAny_holding ?_
  first | refine wpAny_bind (wpAny_pure ?_) | skip
  refine wpAny_bind (wpAny_sequenceKey ht.typeIs (by decide) ?_)
  refine wpAny_bind (wpAny_callSpecial?_slot (name := Str.ofString "__getitem__") ht.typeIs PyProof.Rows.slot_tuple_getitem
    (wpAny_call_entry PyProof.Rows.slot_tuple_getitem ht.typeIs entry_tuple_getitem ?_ (args_tuple_getitem _ _)))
  show wpAny _ _ (Builtin.Tuple.tupleItemsOf (.ref t) >>= _) _ _ s
  refine wpAny_bind (tupleItemsOf_ ht ?_)
  refine wpAny_bind (wpAny_typeOf hTs ?_)
  rw [if_pos (by decide)]
  refine wpAny_bind (sliceApplied_rev2 hs ?_)
  show wpAny _ _ (if ((1 : Int) == 0 && (-1 : Int) == 1 && (2 : Nat) == 2) = true then _ else _) _ _ s
  rw [if_neg (by decide)]
  have e : ((List.range 2).filterMap fun (m : Nat) => (#[a, b] : Array Value)[((1 : Int) + (m : Int) * (-1)).toNat]?).toArray = #[b, a] := rfl
  rw [e]
  first
    | exact wpAny_bind (m := Builtin.Tuple.tupleExact _) (wpAny_newObj_type (wpAny_pure ⟨_, rfl, wpAny_pure h⟩) htake)
    | exact wpAny_bind (m := Builtin.Tuple.tupleExact _) (wpAny_newObj_type (wpAny_bind (wpAny_pure (wpAny_pure ⟨_, rfl, wpAny_pure h⟩))) htake)
    | exact wpAny_bind (wpAny_bind (m := Builtin.Tuple.tupleExact _) (wpAny_newObj_type (wpAny_pure (wpAny_pure ⟨_, rfl, wpAny_pure h⟩)) htake))
    | exact wpAny_bind (wpAny_bind (m := Builtin.Tuple.tupleExact _) (wpAny_newObj_type (wpAny_pure ⟨_, rfl, wpAny_pure h⟩) htake))
end
end HT
namespace G
open PySem L2
section
variable {X : Cx}
def tRevP (K : PySem.W.Frag) (te : TE) : TE := fun σ H Q => te σ H fun x H1 => ∃ a u v, x = .ref a ∧ SqT K H1 a [u, v] ∧ ∀ p, H1 p = none → Q (.ref p) (upd H1 p (.tup [v, u]))
theorem pe_revP {e : Expr} {te : TE} {k : Nat} {p1 p2 p3 pos : Pos} (he : PE X e te) : PE X (.Subscript e (.Slice none none (some (.UnaryOp .USub (.Constant (.int 1) k p1) p2)) p3) pos) (tRevP X.K te) := by
  refine ⟨fun pins s σ H Q I h => ?_⟩
  refine PyProof.Rows.Subscript_ (thn (he.run pins s σ H _ I h) fun v s1 ⟨x, H1, I1, r1, q1⟩ => ?_)
  obtain ⟨a, u, v, ex, hx, q⟩ := q1
  subst ex
  cases r1
  have hst : PO X (some (.UnaryOp .USub (.Constant (.int 1) k p1) p2)) (tPart (tUn (rU fun i => .int (-i)) (tC (.int 1)))) := po_some (pe_un un_neg pe_int)
  refine wpAny_Slice (thn (po_none.run pins s1 σ H1 (fun o H2 => o = none ∧ H2 = H1) I1 ⟨rfl, rfl⟩) fun vl s2 ⟨l, H2, I2, pl, el, e2⟩ => ?_)
  subst el e2
  refine thn (po_none.run pins s2 σ H2 (fun o H3 => o = none ∧ H3 = H2) I2 ⟨rfl, rfl⟩) fun vu s3 ⟨u, H3, I3, pu, eu, e3⟩ => ?_
  subst eu e3
  refine thn (hst.run pins s3 σ H3 (fun o H4 => o = some (-1) ∧ H4 = H3) I3 ⟨1, rfl, -1, rfl, rfl, rfl⟩) fun vs s4 ⟨o, H4, I4, ps, eo, e4⟩ => ?_
  subst eo e4
  have I5 : Inv X pins σ H4 { s4 with heap := s4.heap.push { cls := .type "slice", data := .fields #[vl, vu, vs] } } := I4.kept (t' := s4.toks) fun b ob q => Heap.get?_push_of_some _ q
  have el : vl = .none := by cases pl; rfl
  have eu : vu = .none := by cases pu; rfl
  obtain ⟨tk, es⟩ : ∃ tk, vs = .int (-1) tk := by cases ps; exact ⟨_, rfl⟩
  subst el eu es
  obtain ⟨its, r, ht, hz⟩ := I5.tuple hx
  cases r with
  | cons ra r =>
    cases r with
    | cons rb r =>
      cases r
      refine PyProof.Rows.tail_any (ops := [.ref a, .ref s4.heap.objs.size]) ht.typeIs (PyProof.Rows.slot_tuple_getitem.lookup) ?_ (by with_unfolding_all rfl)
      refine HT.getItem_pair_rev ht (Heap.IsSliceOf.new _ _ _ _) ?_
      refine ⟨.ref _, _, I5.laid (t' := s4.toks) (o := .tup [v, u]) (fun b ob q => Heap.get?_push_of_some _ q) (Nat.le_refl _) ?_, rfl, q _ (I5.hok.fresh (Nat.le_refl _))⟩
      exact ⟨by show 2 ≤ sizeLine; decide, _, .cons rb (.cons ra .nil), PyProof.Rows.IsTup.new _ _⟩
end
section
variable {g : Gp} {X : Cx} {e : Expr} {d : DE} {pos : Pos}
def dRevP (d : DE) : DE := fun env m Q => d env m fun x m1 => ∃ a b, x = .tup [a, b] ∧ Q (.tup [b, a]) m1
theorem ge_revP {k : Nat} {p1 p2 p3 : Pos} (he : GE g X e d) : GE g X (.Subscript e (.Slice none none (some (.UnaryOp .USub (.Constant (.int 1) k p1) p2)) p3) pos) (dRevP d) := PE.weak (pe_revP he) fun σ H Q ⟨c, F, env, m, Q1, rl, hd, kk⟩ =>
  ⟨c, F, env, m, _, rl, hd, fun v H1 F1 m1 x r1 f1 rp ⟨a, b, ex, q⟩ => by
    subst ex
    cases rp with
    | tup hs hl =>
      cases hl with
      | cons h1 t =>
        cases t with
        | cons h2 t =>
          cases t
          refine ⟨_, _, _, rfl, Evl.ex_t r1.sub hs, fun p hp => ?_⟩
          exact (fun n => kk _ _ _ m1 _ (r1.new n) (f1.trans (n.fresh r1.ck)) (.tup (SqT.of upd_same) ((RepL.cons h2 (.cons h1 .nil)).mono n.ff)) q) (New.fix (F := F1) r1.sub hp)⟩
end
end G
namespace G
open PySem L2
/-! an own object of any kind held fast -/
section
variable {K : PySem.W.Frag} {g : Gp} {X : Cx}
def dFreezeW (i : Nat) (s : DS) : DS := fun env m E => ∃ d, env[i]? = some (.ow d) ∧ s (env.set i (.val d)) m E
theorem frW_weak {i : Nat} {s : DS} : ∀ D σ H, tSD K g (dFreezeW i s) D σ H → tSD K g s D σ H := fun D σ H ⟨c, F, env, m, E, r, ⟨ds, ho, h⟩, o⟩ => by
  obtain ⟨F', r', v⟩ := r.freezeW ho
  exact ⟨c, F', _, m, E, r', h, o.shift v⟩
theorem gs_freezeW (i : Nat) {st : Stmt} {s : DS} (h : GS g X st s) : GS g X st (dFreezeW i s) := PS.weak h frW_weak
/-! (..,) * 0 -/
theorem tuple_mulW0 (l : Addr) (items : Array Value) (n : Nat) (dd : Option Addr) (sl : Array (Option Value)) (u : Tok) (hi : items.isEmpty = false) :
    Meets (Builtin.«tuple.__mul__» ⟨[.ref l, .int 0 u], []⟩) (fun _ R s => s.heap.get? l = some { cls := .type "tuple", dict := dd, data := .seq items n, slots := sl } ∧
      R (.ok (.ret (Value.ref s.heap.objs.size))) { s with heap := s.heap.push { cls := Value.type "tuple", data := Data.seq #[] }, toks := s.toks }) :=
  .of_wp fun prog w A R s h => by
    obtain ⟨hp, g, d, tk, os⟩ := s
    obtain ⟨hl, h⟩ := h
    have f1 := AutoSeq1.idx_int
    have c0 : (decide ((0 : Int) < -(2 ^ 63)) || decide ((0 : Int) ≥ 2 ^ 63)) = false := by decide
    have c1 : (items.isEmpty || (0 : Int) == 1) = false := by rw [hi]; rfl
    have c2 : (decide ((0 : Int) ≤ 0) || items.isEmpty) = true := by simp
    have hsz : (#[] : Array Value).size ≤ sizeLine := by decide
    wp_walk using wpAny_loadPart' hl
    repeat (first
      | (refine wpAny_ite_false (decide_eq_false (by rw [c0]; exact Bool.false_ne_true)) ?_; wp_walk using wpAny_loadPart' hl)
      | (refine wpAny_ite_false (decide_eq_false (by rw [c1]; exact Bool.false_ne_true)) ?_; wp_walk using wpAny_loadPart' hl)
      | (refine wpAny_ite_true (decide_eq_true c2) ?_; wp_walk using wpAny_loadPart' hl)
      | (refine wpAny_ite_false (decide_eq_false (Nat.not_lt.mpr hsz)) ?_; wp_walk using wpAny_loadPart' hl))
    exact ⟨_, rfl, h⟩
def rRepT0 (K : PySem.W.Frag) : R2 := fun x y H Q => ∃ l xs, x = .ref l ∧ y = .int 0 ∧ SqT K H l xs ∧ xs ≠ [] ∧ ∀ p, H p = none → Q (.ref p) (upd H p (.tup []))
theorem op_repT0 : OpR X (binaryOp .Mult) (rRepT0 X.K) := by
  intro pins s σ H x y v u Q I rx ry h
  obtain ⟨l, xs, rfl, rfl, hT, hne, q⟩ := h
  cases rx
  obtain ⟨t, rfl⟩ := ry
  obtain ⟨its, r, ⟨⟨cls, dd, data, sl⟩, ho, hc, n, hd⟩, hs⟩ := I.tuple hT
  simp only at hc hd
  subst hc hd
  have hle : its.length = xs.length := r.length.symm
  have hi : its.toArray.isEmpty = false := by
    cases its with
    | nil => exact absurd (List.eq_nil_of_length_eq_zero hle.symm) hne
    | cons a b => rfl
  refine wpAny_binaryOp_repeat_ref (T := "tuple") (U := "int") (by decide) ⟨_, ho, rfl⟩ (fun s' => typeIs_int s' 0 t) noFill_tuple_mul F.fills_int_mul F.slot_int_rmul repeat_tuple F.slot_int_index.lookup
    (call_meets F.slot_int_rmul (typeIs_int s 0 t) F.entry_int_rmul (F.args_int_rmul_2 _ _) (int_rmul_tuple 0 t l its.toArray n dd sl)
      ⟨ho, rfl, ⟨_, ho, rfl⟩, call_meets F.slot_tuple_mul ⟨_, ho, rfl⟩ F.entry_tuple_mul (F.args_tuple_mul_2 _ _) (tuple_mulW0 l its.toArray n dd sl t hi) ⟨ho, ?_⟩⟩)
  refine ⟨.ref _, _, I.laid (t' := s.toks) (o := .tup []) (fun b ob q => Heap.get?_push_of_some _ q) (Nat.le_refl _) ?_, rfl, q _ (I.hok.fresh (Nat.le_refl _))⟩
  exact ⟨Nat.zero_le _, [], .nil, PyProof.Rows.IsTup.new _ _⟩
def mulT0 : D → D → Option D
  | .tup ds, .int k => if ds ≠ [] ∧ k = 0 then some (.tup []) else none
  | _, _ => none
def mulT0D (x y : D) : Option D := match mulT0 x y with | some z => some z | none => mulTD x y
theorem od_mulT0' : OpD K g (rRepT0 K) mulT0 := fun c F H x y z v w Q' e nc rx ry hz k => by
  unfold mulT0 at hz
  split at hz
  · rename_i ds j
    split at hz
    · rename_i h
      cases hz
      obtain ⟨h1, rfl⟩ := h
      cases rx with
      | tup hp rl =>
      rename_i p xs
      refine ⟨p, xs, rfl, ry.int', Evl.ex_t e hp, fun z => ?_, fun t ht => ?_⟩
      · have := rl.length
        rw [z] at this
        exact h1 (List.eq_nil_of_length_eq_zero (by simpa using this.symm))
      · have n := New.fix (o := .tup []) e ht
        exact k _ _ _ n (.tup (SqT.of upd_same) .nil)
    · cases hz
  · cases hz
theorem or_mulT0 : OpR X (binaryOp .Mult) (fun x y H Q => rRepT0 X.K x y H Q ∨ (rRepT X.K x y H Q ∨ rRepT1 X.K x y H Q)) := OpR.or (r := rRepT0 X.K) op_repT0 or_mulT
theorem od_mulT0 : OpD K g (fun x y H Q => rRepT0 K x y H Q ∨ (rRepT K x y H Q ∨ rRepT1 K x y H Q)) mulT0D := fun c F H x y z v w Q' e nc rx ry hz k => by
  unfold mulT0D at hz
  split at hz
  · rename_i z' h
    cases hz
    exact .inl (od_mulT0' c F H x y _ v w Q' e nc rx ry h k)
  · exact .inr (od_mulT c F H x y z v w Q' e nc rx ry hz k)
end
end G
/-! {k: v for a, b in d.items()}, d a dict of one's own; a, b = a list; for a, b in texts or tuples -/
namespace G
open PySem L2
section
variable {K : PySem.W.Frag} {g : Gp}
theorem set_no {env : Env'} {i j : Nat} {s : Sl} (h : (env.set i .no)[j]? = some s) : (i = j ∧ s = .no) ∨ (i ≠ j ∧ env[j]? = some s) := by
  by_cases e : i = j
  · subst e
    have hl : i < (env.set i .no).length := (List.getElem?_eq_some_iff.mp h).1
    rw [List.length_set] at hl
    rw [List.getElem?_set_self hl] at h
    exact .inl ⟨rfl, (Option.some.inj h).symm⟩
  · rw [List.getElem?_set_ne e] at h
    exact .inr ⟨e, h⟩
theorem Rel.lock {c : Option Addr} {F H : Hp} {env : Env'} {m : Nat} {σ : St} {i : Nat} {d : D} {p : Addr} {u : HO} (r : Rel K g c F env m σ H) (ho : env[i]? = some (.ow d)) (hs : σ[i]? = some (some (.ref p))) (hF : F p = none) (hc : c ≠ some p) :
    Rel K g c F (env.set i .no) m σ (upd H p u) := by
  have hp : p ∈ (Sl.ow d).adr σ[i]? := by rw [hs]; simp [Sl.adr]
  refine ⟨fun a o h => ?_, by rw [List.length_set]; exact r.len, fun j s h => ?_, fun j k sj sk a hj hk aj ak => ?_, fun a h => ?_⟩
  · have : a ≠ p := fun e => by rw [e, hF] at h; cases h
    rw [upd_ne this]; exact r.sub a o h
  · rcases set_no h with ⟨_, rfl⟩ | ⟨e, h'⟩
    · trivial
    · refine (r.slot j s h').keep (fun _ _ h => h) fun a ha => ?_
      obtain ⟨h1, _, _⟩ := (r.slot j s h').at ha
      have : a ≠ p := fun z => e (r.sep i j _ _ p ho h' hp (z ▸ ha))
      exact ⟨h1, by rw [upd_ne this]⟩
  · rcases set_no hj with ⟨_, rfl⟩ | ⟨_, hj'⟩
    · simp [Sl.adr] at aj
    · rcases set_no hk with ⟨_, rfl⟩ | ⟨_, hk'⟩
      · simp [Sl.adr] at ak
      · exact r.sep j k sj sk a hj' hk' aj ak
  · obtain ⟨h1, xs, h2, h3⟩ := r.ck a h
    have : a ≠ p := fun e => hc (e ▸ h)
    exact ⟨h1, xs, by rw [upd_ne this]; exact h2, h3⟩
theorem Fresh.unlock {c : Option Addr} {F H F' H' : Hp} {p : Addr} {u w : HO} (f : Fresh c F (upd H p w) F' H') (hF : F p = none) (hc : c ≠ some p) (hp : H p = some u) : Fresh c F H F' (upd H' p u) := by
  have hF' : F' p = none := by
    cases q : F' p with
    | none => rfl
    | some o =>
      rcases f.new p o q with z | z
      · rw [hF] at z; cases z
      · rw [upd_same] at z; cases z
  refine ⟨f.ff, fun a o h => ?_, fun a o h n => ?_, fun a o h => ?_, f.nc⟩
  · have : a ≠ p := fun e => by rw [e, hF'] at h; cases h
    rw [upd_ne this]; exact f.fh a o h
  · by_cases e : a = p
    · subst e; rw [upd_same]; rw [hp] at h; exact h
    · rw [upd_ne e]; exact f.hh a o (by rw [upd_ne e]; exact h) n
  · rcases f.new a o h with z | z
    · exact .inl z
    · by_cases e : a = p
      · subst e; rw [upd_same] at z; cases z
      · rw [upd_ne e] at z; exact .inr z
theorem Ck.unlock {c : Option Addr} {F' H' : Hp} {m : Nat} {p : Addr} {u : HO} (k : Ck g c m F' H') (hc : c ≠ some p) : Ck g c m F' (upd H' p u) := fun a h => by
  obtain ⟨h1, xs, h2, h3⟩ := k a h
  have : a ≠ p := fun e => hc (e ▸ h)
  exact ⟨h1, xs, by rw [upd_ne this]; exact h2, h3⟩
end
def prK (kv : Key × D) : D := .tup [keyD kv.1, kv.2]
def dDcIt (i : Nat) (f : D → Env' → Option Env') (dk dv : DE) (vs : List Nat) : DE := fun env m Q => ∃ kds, env[i]? = some (.ow (.dic kds)) ∧ kds.length ≤ LL ∧ DvR f dk dv (wipeE (env.set i .no) vs) (kds.map prK) m [] fun kds' m2 => Q (.dic kds') m2
section
variable {g : Gp} {X : Cx} {kx vx tg : Expr} {scope : Scope} {own : List (Str × Nat)} {pos p dpos : Pos} {T : TG} {f : D → Env' → Option Env'} {js : List Nat} {dk dv : DE}
theorem KvR.at {K : PySem.W.Frag} {F : Hp} : ∀ {kds : List (Key × D)} {kvs : List (Key × V)} {i : Nat} {k : Key} {v : V}, KvR K g F kds kvs → kvs[i]? = some (k, v) → ∃ d, kds[i]? = some (k, d) ∧ Rep K g F d v
  | kds, kvs, i, k, v, h, e => by
    obtain ⟨h1, h2⟩ := h.to
    have hl := h.length
    have hi : i < kds.length := by have := (List.getElem?_eq_some_iff.mp e).1; omega
    refine ⟨kds[i].2, ?_, ?_⟩
    · have e1 : (kvs.map (·.1))[i]? = some k := by rw [List.getElem?_map, e]; rfl
      rw [h1, List.getElem?_map, List.getElem?_eq_getElem hi] at e1
      rw [List.getElem?_eq_getElem hi]
      have : kds[i].1 = k := Option.some.inj e1
      rw [← this]
    · obtain ⟨w, a, b⟩ := h2.get (i := i) (d := kds[i].2) (by rw [List.getElem?_map, List.getElem?_eq_getElem hi]; rfl)
      rw [List.getElem?_map, e] at a
      cases a
      exact b
theorem dci_weak (i0 : Nat) (vs : List Nat) (hj : ∀ j ∈ js, j ∈ vs) (hg : ∀ (c : Option Addr) (F : Hp) (env : Env') (m : Nat) (σ : St) (H : Hp) (d : D) (v : V) (env2 : Env') (Q : St → Hp → Prop), Rel X.K g c F env m σ H → Rep X.K g F d v → f d env = some env2 →
    (∀ σ2, Rel X.K g c F env2 m σ2 H → (∀ a, Own env2 σ2 a → Own env σ a) → σ2.length = σ.length → (∀ i, i ∉ js → σ2[i]? = σ[i]?) → Q σ2 H) → T v σ H Q) :
    ∀ σ H Q, tNw X.K g (dDcIt i0 f dk dv vs) σ H Q → tLockE (tDc (iItems (tVar i0)) T (tT X.K g dYes) (tD X.K g dk) (tD X.K g dv) vs) σ H Q := fun σ H Q ⟨c, F, env0, m, Q1, r0, ⟨its, ho, hz, q⟩, k⟩ => by
  obtain ⟨p, kv0, hs0, hFp, hp, hkk, hkr, hcp⟩ := (r0.slot i0 _ ho).owd'
  have kr0 := KvR.of hkk hkr
  refine ⟨p, .dK kv0, hp, trivial, fun od => ?_⟩
  have r1 : Rel X.K g c F (env0.set i0 .no) m σ (upd H p (.frz od (.dK kv0))) := r0.lock ho hs0 hFp hcp
  have hpL : upd H p (.frz od (.dK kv0)) p = some (.frz od (.dK kv0)) := upd_same
  refine ⟨.ref p, hs0, p, od, kv0, rfl, upd_same, fun Dl hD => ?_⟩
  have back : ∀ {F' H' : Hp} {m' : Nat}, Fresh c F (upd H p (.frz od (.dK kv0))) F' H' → Ck g c m' F' H' → Fresh c F H F' (upd H' p (.dK kv0)) ∧ Ck g c m' F' (upd H' p (.dK kv0)) := fun f ck => ⟨f.unlock hFp hcp hp, ck.unlock hcp⟩
  have hDp : Dl ≠ p := fun e => by rw [e, hpL] at hD; cases hD
  have hD0 : H Dl = none := by rw [upd_ne hDp] at hD; exact hD
  generalize hHL : upd H p (.frz od (.dK kv0)) = H1 at *
  generalize hen : env0.set i0 .no = env at *
  have hl0 := kr0.length
  have nD : F Dl = none := ex_none r1.sub hD
  have cD : c ≠ some Dl := fun z => by obtain ⟨_, xs, e, _⟩ := r1.ck Dl z; rw [hD] at e; cases e
  refine ⟨fun i kk H' => ∃ F' m' kvs kds, kk = its.length - i ∧ i ≤ its.length ∧ Fresh c F H1 F' H' ∧ Ck g c m' F' H' ∧ F' Dl = none ∧ H' Dl = some (.dK kvs) ∧ KvR X.K g F' kds kvs ∧ kds.length ≤ i ∧ DvR f dk dv (wipeE env vs) ((its.map prK).drop i) m' kds (fun ks m3 => Q1 (.dic ks) m3), ⟨its.length, F, m, [], [], rfl, Nat.zero_le _, ?_, ?_, nD, upd_same, KvR.of rfl .nil, Nat.le_refl _, q⟩, ?_⟩
  · have n := New.lay (F := F) (o := .dK []) r1.sub hD
    exact n.fresh r1.ck
  · exact r1.ck.new (New.lay r1.sub hD)
  · rintro i kk H' ⟨F', m', kvs, kds, rfl, hi, fr, ck, nF, hA, kr, lA, q'⟩
    have r' := r1.fresh fr ck
    have hpL' : H' p = some (.frz od (.dK kv0)) := fr.hh _ _ hpL hcp
    by_cases hlt : i < its.length
    · have hlt' : i < (its.map prK).length := by rw [List.length_map]; exact hlt
      rw [List.drop_eq_getElem_cons hlt'] at q'
      obtain ⟨env2, e2, q2⟩ := q'
      refine .inr ⟨⟨hpL', by omega⟩, fun H2 => ∃ F2 m2 kvs2 kds2, Fresh c F H1 F2 H2 ∧ Ck g c m2 F2 H2 ∧ F2 Dl = none ∧ H2 Dl = some (.dK kvs2) ∧ KvR X.K g F2 kds2 kvs2 ∧ kds2.length ≤ i + 1 ∧ DvR f dk dv (wipeE env vs) ((its.map prK).drop (i + 1)) m2 kds2 (fun ks m3 => Q1 (.dic ks) m3), fun H2 ⟨F2, m2, kvs2, kds2, a1, a2, a3, a4, a5, a6, a7⟩ => ⟨its.length - (i + 1), by omega, F2, m2, kvs2, kds2, rfl, by omega, a1, a2, a3, a4, a5, a6, a7⟩, fun x H3 y => ?_⟩
      obtain ⟨Ta, key0, v0, hk0, rfl, hT, rfl⟩ := y
      obtain ⟨d0, hd0, rp0⟩ := (kr0.mono fr.ff).at hk0
      have n3 : New F' H' (upd F' Ta (.tup [kV key0, v0])) (upd H' Ta (.tup [kV key0, v0])) := New.fix r'.sub hT
      have rp3 : Rep X.K g (upd F' Ta (.tup [kV key0, v0])) (its.map prK)[i] (.ref Ta) := by
        have e : (its.map prK)[i] = prK (key0, d0) := by
          rw [List.getElem_map]
          have := (List.getElem?_eq_some_iff.mp hd0).2
          rw [this]
        rw [e]
        exact .tup (SqT.of upd_same) (.cons (keyD_rep key0) (.cons (rp0.mono n3.ff) .nil))
      generalize upd F' Ta (.tup [kV key0, v0]) = F3 at *
      generalize upd H' Ta (.tup [kV key0, v0]) = H3 at *
      have r3 := (r'.wipe vs).new n3
      have fr3 := fr.trans (n3.fresh ck)
      have ck3 := ck.new n3
      refine hg c F3 _ m' _ H3 _ _ env2 _ r3 rp3 e2 fun σ4 r4 o4 l4 a4 => ⟨?_, ?_⟩
      · refine Eq.trans (wipe_same l4 fun j hj' => a4 j fun z => hj' (hj j z)) (wipe_wipe σ vs)
      · have keep : ∀ {F5 H5 : Hp}, Fresh c F3 H3 F5 H5 → F5 Dl = none ∧ H5 Dl = some (.dK kvs) := fun {F5 H5} f5 => by
          have h3 : H3 Dl = some (.dK kvs) := n3.hh _ _ hA
          refine ⟨?_, f5.hh _ _ h3 cD⟩
          cases z : F5 Dl with
          | none => rfl
          | some o =>
            rcases f5.new Dl o z with y | y
            · rcases n3.new Dl o y with u | u
              · rw [nF] at u; cases u
              · rw [hA] at u; cases u
            · rw [h3] at y; cases y
        refine ⟨c, F3, env2, m', _, r4, (show dYes env2 m' fun b m5 => b = true ∧ dk env2 m5 fun x m1 => dv env2 m1 fun y m2 => ∃ k, x.key = some k ∧ DvR f dk dv (wipeE env vs) ((its.map prK).drop (i + 1)) m2 (kvPut kds k y) (fun ks m3 => Q1 (.dic ks) m3) from ⟨rfl, q2⟩), fun b H5 F5 m5 r5 f5 ⟨hb, q5⟩ => ?_⟩
        subst hb
        refine ⟨c, F5, env2, m5, _, r5, q5, fun v6 H6 F6 m6 y6 r6 f6 rp6 q6 => ⟨c, F6, env2, m6, _, r6, q6, fun v7 H7 F7 m7 y7 r7 f7 rp7 ⟨key, hkey, q7⟩ => ?_⟩⟩
        obtain ⟨k1, k2⟩ := keep ((f5.trans f6).trans f7)
        have fr6 := ((fr3.trans f5).trans f6).trans f7
        have kr7 : KvR X.K g F7 (kvPut kds key y7) (putK kvs key v7) := KvR.put rp7 (kr.mono (n3.ff.trans ((f5.trans f6).trans f7).ff))
        have hl : kvs.length ≤ i := by rw [kr.length]; exact lA
        refine ⟨kvs, key, key_rep hkey rp6, k2, ll' (by omega), F7, m7, putK kvs key v7, kvPut kds key y7, ⟨fr6.ff, fun a o z => ?_, fun a o z n => ?_, fr6.new, fr6.nc⟩, fun a z => ?_, k1, upd_same, kr7, Nat.le_trans (kvPut_len _ _ _) (by omega), q7⟩
        · have : a ≠ Dl := fun e => by subst e; rw [k1] at z; cases z
          rw [upd_ne this]; exact fr6.fh a o z
        · have : a ≠ Dl := fun e => by subst e; rw [hD] at z; cases z
          rw [upd_ne this]; exact fr6.hh a o z n
        · have : a ≠ Dl := fun e => by subst e; exact cD z
          obtain ⟨b1, xs, b2, b3⟩ := r7.ck a z
          exact ⟨b1, xs, by rw [upd_ne this]; exact b2, b3⟩
    · have hi' : i = its.length := by omega
      rw [List.drop_eq_nil_of_le (by rw [List.length_map]; omega)] at q'
      have q'' : Q1 (.dic kds) m' := q'
      obtain ⟨k1, k2⟩ := kr.to
      obtain ⟨b1, b2⟩ := back fr ck
      refine .inl ⟨⟨hpL', by omega⟩, hpL', k Dl _ F' m' (.dic kds) (.dK kvs) (r0.fresh b1 b2) b1 hD0 nF cD ?_ ⟨kvs, rfl, k1, k2⟩ q''⟩
      rw [upd_ne hDp]; exact hA
theorem gnw_dcItems {vs : List Nat} (i : Nat) {x : Str} {p1 p2 p3 : Pos} {elts : List Expr} {kk : Nat} {tpos : Pos} (hc : X.calm = true) (hN : X.N.Nodup) (ok : BlkOk X.N X.env.scope scope own) (hg : AllB X scope fun Y => GG g Y (.Tuple elts kk tpos) T f js) (hk : AllB X scope fun Y => GE g Y kx dk) (he : AllB X scope fun Y => GE g Y vx dv)
    (hv : own.map (·.2) = vs := by rfl) (hj : ∀ j ∈ js, j ∈ own.map (·.2) := by decide) (hNi : X.N[i]? = some x := by rfl) (hvis : Vis X.env.scope x := by first | exact Or.inl rfl | exact Or.inr (Or.inl rfl) | exact Or.inr (Or.inr rfl)) (hd : (x == ("__debug__" : Str)) = false := by decide)
    (hcd : (x == ("__classdict__" : Str)) = false := by decide) (hbase : attributeBase (.Name x p1) "items" X.env (eval (.Name x p1) X.env) = eval (.Name x p1) X.env := by rfl) (hline : (p2.endLine == p3.line) = true := by rfl)
    (hs : ∀ y, foldedSetIterable (.Call (.Attribute (.Name x p1) "items" p2) [] [] p3) X.env y = pure y := by intro _; rfl) :
    GNw g X (.DictComp kx vx [⟨.Tuple elts kk tpos, .Call (.Attribute (.Name x p1) "items" p2) [] [] p3, [], 0⟩] scope dpos) (dDcIt i f dk dv vs) := by
  subst hv
  exact ⟨fun pins s σ H Q I q => (pe_lock (pe_dc (wi := iItems (tVar i)) (g := T) (tt := tT X.K g dYes) (tk := tD X.K g dk) (tv := tD X.K g dv) hc hN (pi_items (pe_var hNi hvis hd hcd) hbase hline) ok (fun s H C cl fp => (hg s H C cl fp).pg) (fun s H C cl fp => gts_nil) (fun s H C cl fp => hk s H C cl fp) (fun s H C cl fp => he s H C cl fp) hs)).run pins s σ H Q I (dci_weak (T := T) i _ hj (hg s H 0 [] []).ok σ H Q q)⟩
end
/-! targets: a list; a text or a tuple -/
section
variable {g : Gp} {X : Cx} {pos : Pos}
def tgL (fs : List D → Env' → Option Env') (n : Nat) : D → Env' → Option Env'
  | .lst ds, env => if ds.length = n then fs ds env else none
  | _, _ => none
theorem gg_lst {K : PySem.W.Frag} {tgs : List Expr} {Gs : TGs} {fs : List D → Env' → Option Env'} {js : List Nat} {k n : Nat} (hc : X.calm = true) (h : GGs g X tgs Gs fs js) (hK : X.K = K := by rfl) (hn : (assignEach tgs X.env).length = n := by rfl) (hst : (assignEach tgs X.env).findIdx? (·.1) = none := by rfl) :
    GG g X (.Tuple tgs k pos) (gLst K n Gs) (tgL fs n) js := by
  subst hK
  exact ⟨pg_lst hc h.pg hn hst, fun c F env m σ H d v env2 Q r rp e kk => by
    cases d with
    | lst ds =>
      simp only [tgL] at e
      split at e
      · rename_i hl
        cases rp with
        | lst q rl => exact ⟨_, _, rfl, SqL.of (r.sub _ _ q), by rw [rl.length]; exact hl, h.ok c F env m σ H ds _ env2 Q r rl e kk⟩
      · cases e
    | _ => cases e⟩
def tgTS2 (fs : List D → Env' → Option Env') (n : Nat) (d : D) (env : Env') : Option Env' := match d with
  | .str z => tgTS fs n (.str z) env
  | d => tgT fs n d env
theorem gg_both {K : PySem.W.Frag} {tgs : List Expr} {Gs : TGs} {fs : List D → Env' → Option Env'} {js : List Nat} {k n : Nat} (hc : X.calm = true) (h : GGs g X tgs Gs fs js) (hK : X.K = K := by rfl) (hn : (assignEach tgs X.env).length = n := by rfl) (hst : (assignEach tgs X.env).findIdx? (·.1) = none := by rfl) :
    GG g X (.Tuple tgs k pos) (fun v σ H Q => gTupS n Gs v σ H Q ∨ gTup K n Gs v σ H Q) (tgTS2 fs n) js := by
  subst hK
  have a := gg_tupS (pos := pos) (k := k) hc h hn hst
  have b := gg_tup (pos := pos) (k := k) hc h hn hst
  refine ⟨⟨fun pins s σ H v u Q I r hw => ?_⟩, fun c F env m σ H d v env2 Q r rp e kk => ?_⟩
  · rcases hw with hw | hw
    · exact a.pg.run pins s σ H v u Q I r hw
    · exact b.pg.run pins s σ H v u Q I r hw
  · cases d with
    | str z => exact .inl (a.ok c F env m σ H _ v env2 Q r rp e kk)
    | _ => exact .inr (b.ok c F env m σ H _ v env2 Q r rp e kk)
end
end G
namespace G
open PySem L2
/-! repr of lists, tuples, ints -/
def reprID : List D → Option D
  | [.int i] => if i.natAbs.log2 < 1920 then some (.str (toString i)) else none
  | ds => reprD ds
theorem cr_reprI {X : Cx} (calm : Calm X.A) (hu : X.A.units + 64 < cLine) : CallR X (.builtin "repr") (fun xs H Q => (∃ (a : Addr) (d : PyData), xs = [.ref a] ∧ Dp X.K H (.ref a) d ∧ d.showable = true ∧ d.hasDict = false ∧ d.depth ≤ 60 ∧ d.shown.length ≤ LL ∧ Q (.str d.shown) H) ∨ ∃ i, xs = [.int i] ∧ i.natAbs.log2 < 1920 ∧ Q (.str (toString i)) H) := (cr_repr calm hu).or SkE.call_repr_int
theorem cd_reprI {K : PySem.W.Frag} {g : Gp} : CallD K g (fun xs H Q => (∃ (a : Addr) (d : PyData), xs = [.ref a] ∧ Dp K H (.ref a) d ∧ d.showable = true ∧ d.hasDict = false ∧ d.depth ≤ 60 ∧ d.shown.length ≤ LL ∧ Q (.str d.shown) H) ∨ ∃ i, xs = [.int i] ∧ i.natAbs.log2 < 1920 ∧ Q (.str (toString i)) H) reprID := fun c F H xs z vs Q' e nc rp hz k => by
  unfold reprID at hz
  split at hz
  · split at hz
    · rename_i hl
      cases hz
      cases rp with
      | cons h0 t =>
        cases t
        exact .inr ⟨_, by rw [RepT.int' h0], hl, k _ H F (New.refl e) (.str _)⟩
    · cases hz
  · exact .inl (cd_repr c F H _ z vs Q' e nc rp hz k)
end G
namespace L2
open PySem PySem.Spec PyProof.Rows
section
variable {X : Cx}
theorem ps_setDc {i : Nat} {y : Str} {py : Pos} {kx vx tg iter : Expr} {ifs : List Expr} {scope : Scope} {own : List (Str × Nat)} {pos spos : Pos} {wi : TI} {g : TG} {tt : TT} {tk tv : TE} (hc : X.calm = true) (hN : X.N.Nodup) (hy : X.N[i]? = some y) (hyl : X.env.scope.names.lookup y = some .local)
    (hsw : swapsWith (.DictComp kx vx [⟨tg, iter, ifs, 0⟩] scope pos) (some (.Name y py)) spos.line X.env = pure true) (hi : PI X tg iter wi) (ok : BlkOk X.N X.env.scope scope own)
    (hg : ∀ (s : Shared) (H : Hp) (C : Addr) (cl : List (Str × Addr)) (fp : List Addr), PG (X.blk s H scope (compEnvC scope cl C X.env) fp) tg g) (ht : ∀ (s : Shared) (H : Hp) (C : Addr) (cl : List (Str × Addr)) (fp : List Addr), PTs (X.blk s H scope (compEnvC scope cl C X.env) fp) ifs tt)
    (hk : ∀ (s : Shared) (H : Hp) (C : Addr) (cl : List (Str × Addr)) (fp : List Addr), PE (X.blk s H scope (compEnvC scope cl C X.env) fp) kx tk)
    (he : ∀ (s : Shared) (H : Hp) (C : Addr) (cl : List (Str × Addr)) (fp : List Addr), PE (X.blk s H scope (compEnvC scope cl C X.env) fp) vx tv) (hs : ∀ x, foldedSetIterable iter X.env x = pure x := by intro _; rfl) :
    PS X (.Assign [.Name y py] (.DictComp kx vx [⟨tg, iter, ifs, 0⟩] scope pos) spos) (tAsg (tDc wi g tt tk tv (own.map (·.2))) (gName i)) := by
  refine ⟨fun pins s σ H D I h => ?_⟩
  rw [exec_Assign_Name_used _ _ _ _ hsw]
  refine wpAny_bind (wpAny_standAt (wpAny_bind ?_))
  show wpAny _ X.A (do let _ ← comprehension (.DictComp kx vx [⟨tg, iter, ifs, 0⟩] scope pos) scope X.env (firstIterPos [⟨tg, iter, ifs, 0⟩] pos) newDict false (eval iter X.env) (some (assign (.Name y py) X.env))) _ _ s
  have h : tDc wi g tt tk tv (own.map (·.2)) σ H (fun x H1 => gName i x σ H1 D.nx) := h
  refine wpAny_bind (thn (dc_core (Qf := fun _ s' => SP X pins D .next s') hc hN I hi ok hg ht hk he hs h fun L C s' m H' I' q hn f => ?_) fun _ s' hq => wpAny_pure (wpAny_pure hq))
  show wpAny _ _ (assign (.Name y py) X.env (.ref L)) _ _ _
  refine wpAny_assign_Name (store_ok2 (v := V.ref L) I' hN hy (.inl hyl) rfl (fun s2 I2 ⟨a, sb, ha⟩ => ?_) (.inr hyl))
  obtain ⟨f0, f1, f2, f3, f4, f5⟩ := f
  have haC : C ≠ a := by
    rcases ha with z | z
    · rw [z]; exact f1
    · exact fun e => f4 y a z e.symm
  refine ⟨m, hn.sameBut sb haC, fun h3 sb3 => ?_⟩
  exact ⟨_, H', I2.turned (t' := s2.toks) (fun b o hb e => (sb3.2 b hb).trans e) f0 f1 f3 f4 f5, q⟩
end
end L2
namespace G
open PySem L2
section
variable {g : Gp} {X : Cx} {kx vx tg iter : Expr} {scope : Scope} {own : List (Str × Nat)} {vs : List Nat} {pos p dpos spos : Pos} {di : DL} {T : TG} {f : D → Env' → Option Env'} {js : List Nat} {dk dv d : DE}
theorem asgW_weak {i : Nat} : ∀ D σ H, tSD X.K g (dAsgW i d) D σ H → tNw X.K g d σ H fun x H' => D.nx (σ.set i (some x)) H' := fun D σ H ⟨c, F, env, m, E, r, h, o⟩ => ⟨c, F, env, m, _, r, h, fun p H' F' m' y u r' f h0 hp hc h1 h2 q => by
    refine o.nx _ H' F' _ m' (r'.setOw hp h1 h2 hc (not_own r h0)) ?_ q
    have v := r.evo f
    refine ⟨v.ff, v.fh, v.hh, v.new, v.nc, fun a z => ?_⟩
    rcases own_setO r.len z with rfl | y
    · exact ⟨hc, .inr h0⟩
    · exact v.own a y⟩
theorem gs_setDc {i : Nat} {y : Str} {py : Pos} (hc : X.calm = true) (hN : X.N.Nodup) (hy : X.N[i]? = some y) (hyl : X.env.scope.names.lookup y = some .local)
    (hsw : swapsWith (.DictComp kx vx [⟨tg, iter, [], 0⟩] scope dpos) (some (.Name y py)) spos.line X.env = pure true) (hi : GI true g X tg iter di) (ok : BlkOk X.N X.env.scope scope own) (hg : AllB X scope fun Y => GG g Y tg T f js) (hk : AllB X scope fun Y => GE g Y kx dk) (he : AllB X scope fun Y => GE g Y vx dv)
    (hv : own.map (·.2) = vs := by rfl) (hj : ∀ j ∈ js, j ∈ own.map (·.2) := by decide) (hs : ∀ x, foldedSetIterable iter X.env x = pure x := by intro _; rfl) :
    GS g X (.Assign [.Name y py] (.DictComp kx vx [⟨tg, iter, [], 0⟩] scope dpos) spos) (dAsgW i (dDc di f dk dv vs)) := by
  subst hv
  exact ⟨fun pins s σ H D I q => (ps_setDc (wi := tI X.K g true di) (g := T) (tt := tT X.K g dYes) (tk := tD X.K g dk) (tv := tD X.K g dv) hc hN hy hyl hsw hi ok (fun s H C cl fp => (hg s H C cl fp).pg) (fun s H C cl fp => gts_nil) (fun s H C cl fp => hk s H C cl fp) (fun s H C cl fp => he s H C cl fp) hs).run pins s σ H D I (dcv_weak (T := T) _ hj (hg s H 0 [] []).ok σ H _ (asgW_weak D σ H q))⟩
theorem gs_setDcI {i j : Nat} {y x : Str} {py p1 p2 p3 : Pos} {elts : List Expr} {kk : Nat} {tpos : Pos} (hc : X.calm = true) (hN : X.N.Nodup) (hy : X.N[j]? = some y) (hyl : X.env.scope.names.lookup y = some .local)
    (hsw : swapsWith (.DictComp kx vx [⟨.Tuple elts kk tpos, .Call (.Attribute (.Name x p1) "items" p2) [] [] p3, [], 0⟩] scope dpos) (some (.Name y py)) spos.line X.env = pure true) (ok : BlkOk X.N X.env.scope scope own) (hg : AllB X scope fun Y => GG g Y (.Tuple elts kk tpos) T f js) (hk : AllB X scope fun Y => GE g Y kx dk) (he : AllB X scope fun Y => GE g Y vx dv)
    (hv : own.map (·.2) = vs := by rfl) (hj : ∀ j ∈ js, j ∈ own.map (·.2) := by decide) (hNi : X.N[i]? = some x := by rfl) (hvis : Vis X.env.scope x := by first | exact Or.inl rfl | exact Or.inr (Or.inl rfl) | exact Or.inr (Or.inr rfl)) (hd : (x == ("__debug__" : Str)) = false := by decide)
    (hcd : (x == ("__classdict__" : Str)) = false := by decide) (hbase : attributeBase (.Name x p1) "items" X.env (eval (.Name x p1) X.env) = eval (.Name x p1) X.env := by rfl) (hline : (p2.endLine == p3.line) = true := by rfl)
    (hs : ∀ y, foldedSetIterable (.Call (.Attribute (.Name x p1) "items" p2) [] [] p3) X.env y = pure y := by intro _; rfl) :
    GS g X (.Assign [.Name y py] (.DictComp kx vx [⟨.Tuple elts kk tpos, .Call (.Attribute (.Name x p1) "items" p2) [] [] p3, [], 0⟩] scope dpos) spos) (dAsgW j (dDcIt i f dk dv vs)) := by
  subst hv
  exact ⟨fun pins s σ H D I q => (ps_lock (ps_setDc (wi := iItems (tVar i)) (g := T) (tt := tT X.K g dYes) (tk := tD X.K g dk) (tv := tD X.K g dv) hc hN hy hyl hsw (pi_items (pe_var hNi hvis hd hcd) hbase hline) ok (fun s H C cl fp => (hg s H C cl fp).pg) (fun s H C cl fp => gts_nil) (fun s H C cl fp => hk s H C cl fp) (fun s H C cl fp => he s H C cl fp) hs)).run pins s σ H D I (dci_weak (T := T) i _ hj (hg s H 0 [] []).ok σ H _ (asgW_weak D σ H q))⟩
end
end G
/-! x += e for ints; products and quotients of wide ints -/
namespace G
open PySem L2
section
variable {K : PySem.W.Frag} {g : Gp} {X : Cx} {e : Expr} {d : DE} {pos : Pos}
def dAugN (i : Nat) (d : DE) : DS := fun env m E => ∃ a : Int, env[i]? = some (.val (.int a)) ∧ d env m fun x m1 => ∃ b : Int, x = .int b ∧ E.nx (env.set i (.val (.int (a + b)))) m1
theorem gs_augN {i : Nat} {x : Str} {p1 : Pos} (hN : X.N.Nodup) (hi : X.N[i]? = some x) (hx : Loc X.env.scope x) (he : GE g X e d) (hf : X.fn x = true ∨ X.env.scope.names.lookup x = some .local := by first | exact .inl rfl | exact .inr rfl | assumption) :
    GS g X (.AugAssign (.Name x p1) .Add e pos) (dAugN i d) := PS.weak (ps_aug hN hi hx he ip_add hf) fun D σ H ⟨c, F, env, m, E, r, ⟨a, ho, h⟩, o⟩ => by
  obtain ⟨v, e1, rv⟩ := r.slot i _ ho
  cases rv
  exact ⟨_, e1, c, F, env, m, _, r, h, fun w H1 F1 m1 y r1 f1 rp ⟨b, ey, q⟩ => by
    subst ey
    cases rp
    exact ⟨a, b, rfl, rfl, o.nx _ H1 F1 _ m1 (r1.setV (.int _)) (evo_setV r f1) q⟩⟩
def mulWD : D → D → Option D
  | .int i, .int j => if i.natAbs.log2 + j.natAbs.log2 < 1000000 then some (.int (i * j)) else none
  | _, _ => none
def fdivWD : D → D → Option D
  | .int i, .int j => if 0 < j ∧ j.natAbs.log2 < 9000 then some (.int (i / j)) else none
  | _, _ => none
theorem od_mulW : OpD K g (rI CMulW fun i j => .int (i * j)) mulWD := fun c F H x y z v w Q' e nc rx ry hz k => by
  unfold mulWD at hz
  split at hz
  · rename_i i j
    split at hz
    · rename_i h
      cases hz
      exact ⟨i, j, RepT.int' rx, RepT.int' ry, h, k _ H F (New.refl e) (.int _)⟩
    · cases hz
  · cases hz
theorem od_fdivW : OpD K g (rI CDivW fun i j => .int (i / j)) fdivWD := fun c F H x y z v w Q' e nc rx ry hz k => by
  unfold fdivWD at hz
  split at hz
  · rename_i i j
    split at hz
    · rename_i h
      cases hz
      exact ⟨i, j, RepT.int' rx, RepT.int' ry, h, k _ H F (New.refl e) (.int _)⟩
    · cases hz
  · cases hz
end
end G
/-! graphs by ties: joining, the number of classes, rank -/
namespace T
inductive Conn (E : List (Nat × Nat)) : Nat → Nat → Prop
  | refl (a : Nat) : Conn E a a
  | tie {p : Nat × Nat} : p ∈ E → Conn E p.1 p.2
  | symm {a b : Nat} : Conn E a b → Conn E b a
  | trans {a b c : Nat} : Conn E a b → Conn E b c → Conn E a c
theorem Conn.mono {E F : List (Nat × Nat)} (h : ∀ p ∈ E, Conn F p.1 p.2) {a b : Nat} (c : Conn E a b) : Conn F a b := by
  induction c with
  | refl a => exact .refl a
  | tie m => exact h _ m
  | symm _ ih => exact ih.symm
  | trans _ _ i1 i2 => exact i1.trans i2
theorem Conn.sub {E F : List (Nat × Nat)} (h : ∀ p ∈ E, p ∈ F) {a b : Nat} (c : Conn E a b) : Conn F a b := c.mono fun p m => .tie (h p m)
theorem Conn.nil {a b : Nat} (c : Conn [] a b) : a = b := by
  induction c with
  | refl a => rfl
  | tie m => cases m
  | symm _ ih => exact ih.symm
  | trans _ _ i1 i2 => exact i1.trans i2
/-- a tie more -/
theorem conn_add {E : List (Nat × Nat)} {u v a b : Nat} (c : Conn (E ++ [(u, v)]) a b) : Conn E a b ∨ (Conn E a u ∧ Conn E v b) ∨ (Conn E a v ∧ Conn E u b) := by
  induction c with
  | refl a => exact .inl (.refl a)
  | @tie p m =>
    rcases List.mem_append.mp m with m | m
    · exact .inl (.tie m)
    · rw [List.mem_singleton] at m
      subst m
      exact .inr (.inl ⟨.refl _, .refl _⟩)
  | symm _ ih =>
    rcases ih with h | ⟨h1, h2⟩ | ⟨h1, h2⟩
    · exact .inl h.symm
    · exact .inr (.inr ⟨h2.symm, h1.symm⟩)
    · exact .inr (.inl ⟨h2.symm, h1.symm⟩)
  | trans _ _ i1 i2 =>
    rcases i1 with h | ⟨h1, h2⟩ | ⟨h1, h2⟩ <;> rcases i2 with k | ⟨k1, k2⟩ | ⟨k1, k2⟩
    · exact .inl (h.trans k)
    · exact .inr (.inl ⟨h.trans k1, k2⟩)
    · exact .inr (.inr ⟨h.trans k1, k2⟩)
    · exact .inr (.inl ⟨h1, h2.trans k⟩)
    · exact .inr (.inl ⟨h1, k2⟩)
    · exact .inl (h1.trans k2)
    · exact .inr (.inr ⟨h1, h2.trans k⟩)
    · exact .inl (h1.trans k2)
    · exact .inr (.inr ⟨h1, k2⟩)
theorem conn_of_add {E : List (Nat × Nat)} {u v a b : Nat} (h : Conn E a b ∨ (Conn E a u ∧ Conn E v b) ∨ (Conn E a v ∧ Conn E u b)) : Conn (E ++ [(u, v)]) a b := by
  have up : ∀ {x y : Nat}, Conn E x y → Conn (E ++ [(u, v)]) x y := fun c => c.sub fun p m => List.mem_append_left _ m
  have uv : Conn (E ++ [(u, v)]) u v := .tie (p := (u, v)) (by simp)
  rcases h with h | ⟨h1, h2⟩ | ⟨h1, h2⟩
  · exact up h
  · exact (up h1).trans (uv.trans (up h2))
  · exact (up h1).trans (uv.symm.trans (up h2))
theorem conn_skip {E : List (Nat × Nat)} {u v a b : Nat} (c : Conn E u v) : Conn (E ++ [(u, v)]) a b ↔ Conn E a b := by
  constructor
  · intro h
    rcases conn_add h with h | ⟨h1, h2⟩ | ⟨h1, h2⟩
    · exact h
    · exact h1.trans (c.trans h2)
    · exact h1.trans (c.symm.trans h2)
  · exact fun h => conn_of_add (.inl h)
/-! ### counting -/
theorem len_le_of_sub {α : Type} [DecidableEq α] : ∀ {l m : List α}, l.Nodup → (∀ a ∈ l, a ∈ m) → l.length ≤ m.length
  | [], _, _, _ => Nat.zero_le _
  | a :: r, m, nd, h => by
    obtain ⟨n1, n2⟩ := List.nodup_cons.mp nd
    have hm := h a (by simp)
    have ih := len_le_of_sub (l := r) (m := m.erase a) n2 fun b hb => (List.mem_erase_of_ne (fun z => n1 (by rw [← z]; exact hb))).mpr (h b (by simp [hb]))
    rw [List.length_erase_of_mem hm] at ih
    have := List.length_pos_of_mem hm
    rw [List.length_cons]
    omega
theorem len_eq_of_same {α : Type} [DecidableEq α] {l m : List α} (h1 : l.Nodup) (h2 : m.Nodup) (h : ∀ a, a ∈ l ↔ a ∈ m) : l.length = m.length :=
  Nat.le_antisymm (len_le_of_sub h1 fun a ha => (h a).mp ha) (len_le_of_sub h2 fun a ha => (h a).mpr ha)
open Classical in
/-- the places that are the least of their class -/
noncomputable def leasts (P : List Nat) (E : List (Nat × Nat)) : List Nat := P.filter fun a => decide (∀ b ∈ P, b < a → ¬ Conn E a b)
noncomputable def nc (P : List Nat) (E : List (Nat × Nat)) : Nat := (leasts P E).length
open Classical in
theorem mem_leasts {P : List Nat} {E : List (Nat × Nat)} {a : Nat} : a ∈ leasts P E ↔ a ∈ P ∧ ∀ b ∈ P, b < a → ¬ Conn E a b := by
  unfold leasts
  rw [List.mem_filter]
  constructor
  · exact fun h => ⟨h.1, of_decide_eq_true h.2⟩
  · exact fun h => ⟨h.1, decide_eq_true h.2⟩
theorem leasts_nd {P : List Nat} {E : List (Nat × Nat)} (h : P.Nodup) : (leasts P E).Nodup := h.filter _
/-- each place has a least one -/
theorem least_of {P : List Nat} {E : List (Nat × Nat)} : ∀ (n a : Nat), a ≤ n → a ∈ P → ∃ l ∈ leasts P E, Conn E a l
  | n, a, hn, ha => by
    by_cases h : ∀ b ∈ P, b < a → ¬ Conn E a b
    · exact ⟨a, mem_leasts.mpr ⟨ha, h⟩, .refl a⟩
    · obtain ⟨b, hb⟩ := Classical.not_forall.mp h
      obtain ⟨h1, hb⟩ := Classical.not_imp.mp hb
      obtain ⟨h2, h3⟩ := Classical.not_imp.mp hb
      have h3 := Classical.not_not.mp h3
      match n with
      | 0 => omega
      | n + 1 =>
        obtain ⟨l, l1, l2⟩ := least_of n b (by omega) h1
        exact ⟨l, l1, h3.trans l2⟩
theorem least_one {P : List Nat} {E : List (Nat × Nat)} {a b : Nat} (ha : a ∈ leasts P E) (hb : b ∈ leasts P E) (c : Conn E a b) : a = b := by
  obtain ⟨a1, a2⟩ := mem_leasts.mp ha
  obtain ⟨b1, b2⟩ := mem_leasts.mp hb
  rcases Nat.lt_trichotomy a b with h | h | h
  · exact absurd c.symm (b2 a a1 h)
  · exact h
  · exact absurd c (a2 b b1 h)
/-- classes told by a function -/
theorem nc_of {β : Type} [DecidableEq β] {P : List Nat} {E : List (Nat × Nat)} (nd : P.Nodup) (f : Nat → β) (hf : ∀ a ∈ P, ∀ b ∈ P, f a = f b ↔ Conn E a b) {vs : List β} (hv : vs.Nodup) (hm : ∀ x, x ∈ vs ↔ ∃ a ∈ P, f a = x) : vs.length = nc P E := by
  unfold nc
  rw [← List.length_map (f := f) (as := leasts P E)]
  refine len_eq_of_same hv ?_ fun x => ?_
  · rw [List.Nodup, List.pairwise_map]
    refine (leasts_nd nd).imp_of_mem fun {a b} ha hb hne e => hne ?_
    exact least_one ha hb ((hf a (mem_leasts.mp ha).1 b (mem_leasts.mp hb).1).mp e)
  · rw [hm, List.mem_map]
    constructor
    · rintro ⟨a, ha, rfl⟩
      obtain ⟨l, l1, l2⟩ := least_of (E := E) a a (Nat.le_refl _) ha
      exact ⟨l, l1, ((hf a ha l (mem_leasts.mp l1).1).mpr l2).symm⟩
    · rintro ⟨a, ha, rfl⟩
      exact ⟨a, (mem_leasts.mp ha).1, rfl⟩
open Classical in
theorem nc_congr {P : List Nat} {E F : List (Nat × Nat)} (h : ∀ a b, Conn E a b ↔ Conn F a b) : nc P E = nc P F := by
  unfold nc leasts
  congr 1
  apply List.filter_congr
  intro a _
  have e : (∀ b ∈ P, b < a → ¬ Conn E a b) ↔ ∀ b ∈ P, b < a → ¬ Conn F a b := ⟨fun k b hb lt c => k b hb lt ((h a b).mpr c), fun k b hb lt c => k b hb lt ((h a b).mp c)⟩
  by_cases q : ∀ b ∈ P, b < a → ¬ Conn E a b
  · rw [decide_eq_true q, decide_eq_true (e.mp q)]
  · rw [decide_eq_false q, decide_eq_false fun z => q (e.mpr z)]
theorem nc_mono {P : List Nat} {E F : List (Nat × Nat)} (nd : P.Nodup) (h : ∀ a b, Conn E a b → Conn F a b) : nc P F ≤ nc P E := by
  refine len_le_of_sub (leasts_nd nd) fun a ha => ?_
  obtain ⟨a1, a2⟩ := mem_leasts.mp ha
  exact mem_leasts.mpr ⟨a1, fun b hb lt c => a2 b hb lt (h a b c)⟩
theorem nc_le (P : List Nat) (E : List (Nat × Nat)) : nc P E ≤ P.length := List.length_filter_le _ _
open Classical in
theorem nc_nil (P : List Nat) : nc P [] = P.length := by
  unfold nc leasts
  rw [List.filter_eq_self.mpr]
  intro a _
  exact decide_eq_true fun b _ lt c => by have := c.nil; omega
/-- a tie that joins two classes -/
theorem nc_join {P : List Nat} {E : List (Nat × Nat)} {u v : Nat} (nd : P.Nodup) (hu : u ∈ P) (hv : v ∈ P) (h : ¬ Conn E u v) : nc P (E ++ [(u, v)]) + 1 = nc P E := by
  obtain ⟨lu, u1, u2⟩ := least_of (E := E) u u (Nat.le_refl _) hu
  obtain ⟨lv, v1, v2⟩ := least_of (E := E) v v (Nat.le_refl _) hv
  have ne : lu ≠ lv := fun e => h (u2.trans (e ▸ v2.symm))
  -- the greater one of both falls out
  have key : ∀ x y, x ∈ leasts P E → y ∈ leasts P E → x < y → (∀ a b, Conn (E ++ [(u, v)]) a b ↔ Conn E a b ∨ (Conn E a x ∧ Conn E y b) ∨ (Conn E a y ∧ Conn E x b)) → nc P (E ++ [(u, v)]) + 1 = nc P E := by
    intro x y hx hy lt cc
    obtain ⟨x1, x2⟩ := mem_leasts.mp hx
    obtain ⟨y1, y2⟩ := mem_leasts.mp hy
    have hlen : (leasts P E).length = (y :: leasts P (E ++ [(u, v)])).length := by
      refine len_eq_of_same (leasts_nd nd) (List.nodup_cons.mpr ⟨fun z => ?_, leasts_nd nd⟩) fun a => ?_
      · exact (mem_leasts.mp z).2 x x1 lt ((cc y x).mpr (.inr (.inr ⟨.refl _, .refl _⟩)))
      · rw [List.mem_cons]
        constructor
        · intro ha
          by_cases e : a = y
          · exact .inl e
          · refine .inr (mem_leasts.mpr ⟨(mem_leasts.mp ha).1, fun b hb l2 c => ?_⟩)
            rcases (cc a b).mp c with c | ⟨c1, c2⟩ | ⟨c1, c2⟩
            · exact (mem_leasts.mp ha).2 b hb l2 c
            · have := least_one ha hx c1
              subst this
              exact y2 b hb (by omega) c2
            · exact e (least_one ha hy c1)
        · rintro (rfl | ha)
          · exact hy
          · obtain ⟨a1, a2⟩ := mem_leasts.mp ha
            exact mem_leasts.mpr ⟨a1, fun b hb l2 c => a2 b hb l2 ((cc a b).mpr (.inl c))⟩
    unfold nc
    rw [hlen, List.length_cons]
  rcases Nat.lt_or_gt_of_ne ne with lt | lt
  · refine key lu lv u1 v1 lt fun a b => ⟨fun c => ?_, fun c => conn_of_add ?_⟩
    · rcases conn_add c with c | ⟨c1, c2⟩ | ⟨c1, c2⟩
      · exact .inl c
      · exact .inr (.inl ⟨c1.trans u2, v2.symm.trans c2⟩)
      · exact .inr (.inr ⟨c1.trans v2, u2.symm.trans c2⟩)
    · rcases c with c | ⟨c1, c2⟩ | ⟨c1, c2⟩
      · exact .inl c
      · exact .inr (.inl ⟨c1.trans u2.symm, v2.trans c2⟩)
      · exact .inr (.inr ⟨c1.trans v2.symm, u2.trans c2⟩)
  · refine key lv lu v1 u1 lt fun a b => ⟨fun c => ?_, fun c => conn_of_add ?_⟩
    · rcases conn_add c with c | ⟨c1, c2⟩ | ⟨c1, c2⟩
      · exact .inl c
      · exact .inr (.inr ⟨c1.trans u2, v2.symm.trans c2⟩)
      · exact .inr (.inl ⟨c1.trans v2, u2.symm.trans c2⟩)
    · rcases c with c | ⟨c1, c2⟩ | ⟨c1, c2⟩
      · exact .inl c
      · exact .inr (.inr ⟨c1.trans v2.symm, u2.trans c2⟩)
      · exact .inr (.inl ⟨c1.trans u2.symm, v2.trans c2⟩)
theorem nc_add {P : List Nat} {E : List (Nat × Nat)} {u v : Nat} (nd : P.Nodup) (hu : u ∈ P) (hv : v ∈ P) : nc P E ≤ nc P (E ++ [(u, v)]) + 1 := by
  by_cases h : Conn E u v
  · rw [nc_congr fun a b => conn_skip h]; omega
  · rw [nc_join nd hu hv h]; exact Nat.le_refl _
end T
/-! lots, trees, exchanges -/
namespace T
noncomputable def rk (P : List Nat) (E : List (Nat × Nat)) : Nat := P.length - nc P E
/-- ties between places -/
def Ok (P : List Nat) (E : List (Nat × Nat)) : Prop := ∀ p ∈ E, p.1 ∈ P ∧ p.2 ∈ P
theorem nc_same {P : List Nat} {E F : List (Nat × Nat)} (h : ∀ p, p ∈ E ↔ p ∈ F) : nc P E = nc P F :=
  nc_congr fun a b => ⟨fun c => c.sub fun p => (h p).mp, fun c => c.sub fun p => (h p).mpr⟩
theorem rk_same {P : List Nat} {E F : List (Nat × Nat)} (h : ∀ p, p ∈ E ↔ p ∈ F) : rk P E = rk P F := by unfold rk; rw [nc_same h]
theorem rk_mono {P : List Nat} {E F : List (Nat × Nat)} (nd : P.Nodup) (h : ∀ p ∈ E, Conn F p.1 p.2) : rk P E ≤ rk P F := by
  have := nc_mono (P := P) nd fun a b (c : Conn E a b) => c.mono h
  unfold rk; omega
theorem rk_nil (P : List Nat) : rk P [] = 0 := by unfold rk; rw [nc_nil]; omega
theorem rk_add {P : List Nat} {E : List (Nat × Nat)} {u v : Nat} (nd : P.Nodup) (hu : u ∈ P) (hv : v ∈ P) : rk P (E ++ [(u, v)]) ≤ rk P E + 1 := by
  have h1 := nc_add (P := P) (E := E) nd hu hv
  have h2 := nc_le P E
  have h3 := nc_le P (E ++ [(u, v)])
  unfold rk; omega
theorem rk_join {P : List Nat} {E : List (Nat × Nat)} {u v : Nat} (nd : P.Nodup) (hu : u ∈ P) (hv : v ∈ P) (h : ¬ Conn E u v) : rk P (E ++ [(u, v)]) = rk P E + 1 := by
  have h1 := nc_join (P := P) (E := E) nd hu hv h
  have h2 := nc_le P E
  unfold rk; omega
theorem rk_size {P : List Nat} (nd : P.Nodup) : ∀ (E : List (Nat × Nat)), Ok P E → rk P E ≤ E.length := by
  have : ∀ (F E : List (Nat × Nat)), Ok P F → rk P (E ++ F) ≤ rk P E + F.length := by
    intro F
    induction F with
    | nil => intro E _; rw [List.append_nil]; exact Nat.le_refl _
    | cons p r ih =>
      intro E h
      have h1 := ih (E ++ [p]) fun q hq => h q (by simp [hq])
      have h2 := rk_add (E := E) nd (h p (by simp)).1 (h p (by simp)).2
      rw [List.append_assoc] at h1
      have e : [p] ++ r = p :: r := rfl
      rw [e] at h1
      rw [List.length_cons]
      have h3 : rk P (E ++ [p]) ≤ rk P E + 1 := h2
      omega
  intro E h
  have := this E [] h
  rw [rk_nil, List.nil_append] at this
  omega
/-- the ties of a lot -/
def tl (T : List (Nat × Nat)) (L : List Nat) : List (Nat × Nat) := L.map fun i => T.getD i (0, 0)
theorem tl_ok {P : List Nat} {T : List (Nat × Nat)} {L : List Nat} (h : Ok P T) (hL : ∀ i ∈ L, i < T.length) : Ok P (tl T L) := fun p hp => by
  obtain ⟨i, hi, rfl⟩ := List.mem_map.mp hp
  have := hL i hi
  rw [List.getD_eq_getElem?_getD, List.getElem?_eq_getElem this]
  exact h _ (List.getElem_mem this)
theorem tl_mem {T : List (Nat × Nat)} {L : List Nat} (hL : ∀ i ∈ L, i < T.length) : ∀ p ∈ tl T L, p ∈ T := fun p hp => by
  obtain ⟨i, hi, rfl⟩ := List.mem_map.mp hp
  rw [List.getD_eq_getElem?_getD, List.getElem?_eq_getElem (hL i hi)]
  exact List.getElem_mem _
structure Lot (n : Nat) (L : List Nat) : Prop where
  inc : L.Pairwise (· < ·)
  inb : ∀ i ∈ L, i < n
structure Tree (P : List Nat) (T : List (Nat × Nat)) (L : List Nat) : Prop where
  lot : Lot T.length L
  size : L.length = rk P T
  full : rk P (tl T L) = rk P T
/-- sorted numbers -/
def srt (l : List Nat) : List Nat := l.mergeSort fun a b => decide (a ≤ b)
theorem srt_perm (l : List Nat) : (srt l).Perm l := List.mergeSort_perm l _
theorem srt_mem {l : List Nat} {a : Nat} : a ∈ srt l ↔ a ∈ l := (srt_perm l).mem_iff
theorem srt_len (l : List Nat) : (srt l).length = l.length := (srt_perm l).length_eq
theorem srt_inc {l : List Nat} (nd : l.Nodup) : (srt l).Pairwise (· < ·) := by
  have h1 : (srt l).Pairwise fun a b => decide (a ≤ b) = true := List.pairwise_mergeSort (fun a b c h1 h2 => by simp at *; omega) (fun a b => by simp; omega) l
  have h2 : (srt l).Nodup := (srt_perm l).nodup_iff.mpr nd
  have h3 := h1.and h2
  exact h3.imp fun {a b} h => by
    have := of_decide_eq_true h.1
    have := h.2
    omega
def out (L : List Nat) (o : Nat) : List Nat := L.filter fun k => decide (k ≠ o)
def put (L : List Nat) (o i : Nat) : List Nat := srt (out L o ++ [i])
theorem mem_out {L : List Nat} {o a : Nat} : a ∈ out L o ↔ a ∈ L ∧ a ≠ o := by unfold out; rw [List.mem_filter, decide_eq_true_eq]
theorem mem_put {L : List Nat} {o i a : Nat} : a ∈ put L o i ↔ (a ∈ L ∧ a ≠ o) ∨ a = i := by unfold put; rw [srt_mem, List.mem_append, mem_out, List.mem_singleton]
theorem Lot.nd {n : Nat} {L : List Nat} (h : Lot n L) : L.Nodup := h.inc.imp fun a => Nat.ne_of_lt a
theorem out_nd {L : List Nat} {o : Nat} (h : L.Nodup) : (out L o).Nodup := h.filter _
theorem out_len : ∀ {L : List Nat} {o : Nat}, L.Nodup → o ∈ L → (out L o).length + 1 = L.length
  | [], _, _, h => by cases h
  | a :: r, o, nd, h => by
    obtain ⟨n1, n2⟩ := List.nodup_cons.mp nd
    unfold out
    by_cases e : a = o
    · subst e
      rw [List.filter_cons_of_neg (by simp), List.filter_eq_self.mpr, List.length_cons]
      intro b hb
      exact decide_eq_true fun z => n1 (z ▸ hb)
    · rw [List.filter_cons_of_pos (by simp [e]), List.length_cons, List.length_cons]
      have := out_len n2 (o := o) (by rcases List.mem_cons.mp h with z | z; exact absurd z.symm e; exact z)
      unfold out at this
      omega
theorem put_lot {n : Nat} {L : List Nat} {o i : Nat} (h : Lot n L) (hi : i < n) (ni : i ∉ L) : Lot n (put L o i) := by
  refine ⟨srt_inc ?_, fun a ha => ?_⟩
  · rw [List.nodup_append]
    refine ⟨out_nd h.nd, List.nodup_cons.mpr ⟨by simp, List.nodup_nil⟩, fun a ha b hb => ?_⟩
    rw [List.mem_singleton] at hb
    subst hb
    intro z
    subst z
    exact ni (mem_out.mp ha).1
  · rcases mem_put.mp ha with ⟨h1, _⟩ | rfl
    · exact h.inb a h1
    · exact hi
theorem put_len {n : Nat} {L : List Nat} {o i : Nat} (h : Lot n L) (ho : o ∈ L) : (put L o i).length = L.length := by
  unfold put
  rw [srt_len, List.length_append, List.length_singleton, out_len h.nd ho]
theorem tl_put (T : List (Nat × Nat)) (L : List Nat) (o i : Nat) : ∀ p, p ∈ tl T (put L o i) ↔ p ∈ tl T (out L o) ++ [T.getD i (0, 0)] := fun p => by
  unfold tl put
  rw [List.mem_map, List.mem_append, List.mem_map, List.mem_singleton]
  constructor
  · rintro ⟨a, ha, rfl⟩
    rcases List.mem_append.mp (srt_mem.mp ha) with h | h
    · exact .inl ⟨a, h, rfl⟩
    · rw [List.mem_singleton] at h; subst h; exact .inr rfl
  · rintro (⟨a, ha, rfl⟩ | rfl)
    · exact ⟨a, srt_mem.mpr (List.mem_append_left _ ha), rfl⟩
    · exact ⟨i, srt_mem.mpr (by simp), rfl⟩
theorem tl_len (T : List (Nat × Nat)) (L : List Nat) : (tl T L).length = L.length := by unfold tl; rw [List.length_map]
/-- a tie of a tree taken out -/
theorem out_rank {P : List Nat} {T : List (Nat × Nat)} {A : List Nat} {o : Nat} (nd : P.Nodup) (ok : Ok P T) (hA : Tree P T A) (ho : o ∈ A) : rk P (tl T (out A o)) + 1 = rk P T := by
  have hin : ∀ i ∈ out A o, i < T.length := fun i hi => hA.lot.inb i (mem_out.mp hi).1
  have h1 := rk_size nd (tl T (out A o)) (tl_ok ok hin)
  rw [tl_len] at h1
  have h2 := out_len hA.lot.nd ho
  have h3 := hA.size
  have hoT := hA.lot.inb o ho
  have hp := tl_ok ok (L := [o]) (by simpa using hoT) (T.getD o (0, 0)) (by simp [tl])
  have h4 := rk_add (E := tl T (out A o)) nd hp.1 hp.2
  have h5 : rk P (tl T A) = rk P (tl T (out A o) ++ [T.getD o (0, 0)]) := rk_same fun p => by
    unfold tl
    rw [List.mem_append, List.mem_map, List.mem_map, List.mem_singleton]
    constructor
    · rintro ⟨a, ha, rfl⟩
      by_cases e : a = o
      · subst e; exact .inr rfl
      · exact .inl ⟨a, mem_out.mpr ⟨ha, e⟩, rfl⟩
    · rintro (⟨a, ha, rfl⟩ | rfl)
      · exact ⟨a, (mem_out.mp ha).1, rfl⟩
      · exact ⟨o, ho, rfl⟩
  have h6 := hA.full
  rw [h5] at h6
  have h7 : rk P (tl T (out A o) ++ [T.getD o (0, 0)]) ≤ rk P (tl T (out A o)) + 1 := h4
  omega
theorem exch {P : List Nat} {T : List (Nat × Nat)} {A B : List Nat} {o : Nat} (nd : P.Nodup) (ok : Ok P T) (hA : Tree P T A) (hB : Tree P T B) (ho : o ∈ A) (nb : o ∉ B) : ∃ b ∈ B, b ∉ A ∧ Tree P T (put A o b) := by
  have hr := out_rank nd ok hA ho
  have hin : ∀ i ∈ out A o, i < T.length := fun i hi => hA.lot.inb i (mem_out.mp hi).1
  by_cases h : ∀ b ∈ B, Conn (tl T (out A o)) (T.getD b (0, 0)).1 (T.getD b (0, 0)).2
  · have := rk_mono (E := tl T B) nd (F := tl T (out A o)) fun p hp => by
      obtain ⟨b, hb, rfl⟩ := List.mem_map.mp hp
      exact h b hb
    rw [hB.full] at this
    omega
  · obtain ⟨b, hb⟩ := Classical.not_forall.mp h
    obtain ⟨h1, h2⟩ := Classical.not_imp.mp hb
    have nA : b ∉ A := fun z => by
      by_cases e : b = o
      · subst e; exact nb h1
      · exact h2 (.tie (List.mem_map.mpr ⟨b, mem_out.mpr ⟨z, e⟩, rfl⟩))
    have hbT := hB.lot.inb b h1
    have hp := tl_ok ok (L := [b]) (by simpa using hbT) (T.getD b (0, 0)) (by simp [tl])
    have hj := rk_join nd hp.1 hp.2 h2
    refine ⟨b, h1, nA, put_lot hA.lot hbT nA, by rw [put_len hA.lot ho]; exact hA.size, ?_⟩
    rw [rk_same (tl_put T A o b)]
    have hj' : rk P (tl T (out A o) ++ [T.getD b (0, 0)]) = rk P (tl T (out A o)) + 1 := hj
    omega
theorem loop_not {P : List Nat} {T : List (Nat × Nat)} {A : List Nat} {o : Nat} (nd : P.Nodup) (ok : Ok P T) (hA : Tree P T A) (ho : o ∈ A) : (T.getD o (0, 0)).1 ≠ (T.getD o (0, 0)).2 := fun e => by
  have hr := out_rank nd ok hA ho
  have := rk_mono (E := tl T A) nd (F := tl T (out A o)) fun p hp => by
    obtain ⟨b, hb, rfl⟩ := List.mem_map.mp hp
    by_cases z : b = o
    · subst z
      rw [e]
      exact .refl _
    · exact .tie (List.mem_map.mpr ⟨b, mem_out.mpr ⟨hb, z⟩, rfl⟩)
  rw [hA.full] at this
  omega
/-- two ascending lots of the same things -/
theorem lot_eq : ∀ {A B : List Nat}, A.Pairwise (· < ·) → B.Pairwise (· < ·) → (∀ a, a ∈ A ↔ a ∈ B) → A = B
  | [], [], _, _, _ => rfl
  | [], b :: _, _, _, h => absurd ((h b).mpr (by simp)) (by simp)
  | a :: _, [], _, _, h => absurd ((h a).mp (by simp)) (by simp)
  | a :: A, b :: B, hA, hB, h => by
    obtain ⟨a1, a2⟩ := List.pairwise_cons.mp hA
    obtain ⟨b1, b2⟩ := List.pairwise_cons.mp hB
    have e : a = b := by
      rcases List.mem_cons.mp ((h a).mp (by simp)) with z | z
      · exact z
      · rcases List.mem_cons.mp ((h b).mpr (by simp)) with y | y
        · exact y.symm
        · have := b1 a z; have := a1 b y; omega
    subst e
    rw [lot_eq a2 b2 fun x => ?_]
    have := h x
    simp only [List.mem_cons] at this
    constructor
    · intro hx
      rcases this.mp (.inr hx) with z | z
      · subst z; exact absurd (a1 x hx) (Nat.lt_irrefl _)
      · exact z
    · intro hx
      rcases this.mpr (.inr hx) with z | z
      · subst z; exact absurd (b1 x hx) (Nat.lt_irrefl _)
      · exact z
end T
/-! webs, lots, trees: what each def promises, by data -/
namespace T
open PySem L2 G
def c1 (a : Nat) : Str := ⟨#[a]⟩
def tS (p : Nat × Nat) : Str := ⟨#[p.1, p.2]⟩
def plS (P : List Nat) : Str := ⟨P.toArray⟩
abbrev plD (P : List Nat) : D := .str (plS P)
def wayD (p : Nat × Nat) : D := .str (tS p)
def natD (i : Nat) : D := .int (i : Nat)
def lotD (l : List Nat) : D := .tup (l.map natD)
def webD (P : List Nat) (T : List (Nat × Nat)) : D := .web (plS P) (T.map tS)
structure PlOk (P : List Nat) : Prop where
  inc : P.Pairwise (· < ·)
  let8 : ∀ a ∈ P, 97 ≤ a ∧ a ≤ 104
  pos : 0 < P.length
  few : P.length ≤ 7
structure WbOk (P : List Nat) (T : List (Nat × Nat)) : Prop where
  pl : PlOk P
  few : T.length ≤ 11
  ties : ∀ p ∈ T, p.1 ∈ P ∧ p.2 ∈ P ∧ p.1 ≤ p.2
theorem WbOk.ok {P : List Nat} {T : List (Nat × Nat)} (h : WbOk P T) : Ok P T := fun p hp => ⟨(h.ties p hp).1, (h.ties p hp).2.1⟩
theorem PlOk.nd {P : List Nat} (h : PlOk P) : P.Nodup := h.inc.imp fun a => Nat.ne_of_lt a
/-- the herds that some ties join -/
structure Herds (P : List Nat) (E : List (Nat × Nat)) (hs : List (List Nat)) : Prop where
  nd : hs.Nodup
  ne : ∀ h ∈ hs, h ≠ []
  inc : ∀ h ∈ hs, h.Pairwise (· < ·)
  cov : ∀ a ∈ P, ∃ h ∈ hs, a ∈ h
  inP : ∀ h ∈ hs, ∀ a ∈ h, a ∈ P
  cls : ∀ h ∈ hs, ∀ a ∈ h, ∀ b ∈ P, b ∈ h ↔ Conn E a b

def S_is_integer : G.Spec := fun as m Q => ∃ i : Int, as = [.val (.int i)] ∧ Q (.bl true) m
def S_is_between : G.Spec := fun as m Q => ∃ i a b : Int, as = [.val (.int i), .val (.int a), .val (.int b)] ∧ Q (.bl (decide (a ≤ i ∧ i ≤ b))) m
def S_are_letters : G.Spec := fun as m Q => ∃ P, PlOk P ∧ as = [.val (plD P)] ∧ Q (.bl true) m
def S_are_places : G.Spec := S_are_letters
def S_is_tie : G.Spec := fun as m Q => ∃ (P : List Nat) (p : Nat × Nat), P.length ≤ 100 ∧ p.1 ∈ P ∧ p.2 ∈ P ∧ p.1 ≤ p.2 ∧ as = [.val (plD P), .val (wayD p)] ∧ Q (.bl true) m
def S_wrong_tie : G.Spec := fun as m Q => ∃ P T, WbOk P T ∧ as = [.val (plD P), .val (.tup (T.map wayD))] ∧ Q .non m
def S_Weblen : G.Spec := lenSpec
def S_check_web : G.Spec := fun as m Q => ∃ P T, as = [.val (webD P T)] ∧ Q .non m
def S_check_index : G.Spec := fun as m Q => ∃ P T k, k < T.length ∧ as = [.val (webD P T), .val (natD k)] ∧ Q .non m
def S_herds_of : G.Spec := fun as m Q => ∃ P E x, PlOk P ∧ Ok P E ∧ E.length ≤ 100 ∧ (x = .lst (E.map wayD) ∨ x = .tup (E.map wayD)) ∧ as = [.val (plD P), .val x] ∧ ∀ hs, Herds P E hs → Q (.lst (hs.map plD)) m
def S_wrong_in : G.Spec := fun as m Q => ∃ P T L, Lot T.length L ∧ as = [.val (webD P T), .val (lotD L)] ∧ Q .non m
def S_check_lot : G.Spec := S_wrong_in
def S_every_tie : G.Spec := fun as m Q => ∃ P T, T.length ≤ 11 ∧ as = [.val (webD P T)] ∧ Q (lotD (List.range T.length)) m
def S_ties_of : G.Spec := fun as m Q => ∃ P T L x, L.length ≤ 100 ∧ (∀ i ∈ L, i < T.length) ∧ (x = lotD L ∨ x = .lst (L.map natD)) ∧ as = [.val (webD P T), .val x] ∧ Q (.lst ((tl T L).map wayD)) m
def S_pieces_of : G.Spec := fun as m Q => ∃ P T L, WbOk P T ∧ L.length ≤ 100 ∧ (∀ i ∈ L, i < T.length) ∧ as = [.val (webD P T), .val (lotD L)] ∧ ∀ hs, Herds P (tl T L) hs → Q (.lst (hs.map plD)) m
def S_rank_of : G.Spec := fun as m Q => ∃ P T L, WbOk P T ∧ L.length ≤ 100 ∧ (∀ i ∈ L, i < T.length) ∧ as = [.val (webD P T), .val (lotD L)] ∧ Q (natD (rk P (tl T L))) m
def S_spare_of : G.Spec := fun as m Q => ∃ P T L, WbOk P T ∧ L.length ≤ 100 ∧ (∀ i ∈ L, i < T.length) ∧ as = [.val (webD P T), .val (lotD L)] ∧ Q (.int ((L.length : Nat) - (rk P (tl T L) : Nat) : Int)) m
def S_without : G.Spec := fun as m Q => ∃ (L : List Nat) (k : Nat), L.length ≤ 100 ∧ as = [.val (lotD L), .val (natD k)] ∧ Q (lotD (out L k)) m
def S_within : G.Spec := fun as m Q => ∃ (L : List Nat) (k : Nat), L.length ≤ 100 ∧ as = [.val (lotD L), .val (natD k)] ∧ Q (lotD (srt (L ++ [k]))) m
def S_is_free_lot : G.Spec := fun as m Q => ∃ P T L, WbOk P T ∧ L.length ≤ 100 ∧ (∀ i ∈ L, i < T.length) ∧ as = [.val (webD P T), .val (lotD L)] ∧ Q (.bl (decide (L.length = rk P (tl T L)))) m
def S_is_full : G.Spec := fun as m Q => ∃ P T L, WbOk P T ∧ L.length ≤ 100 ∧ (∀ i ∈ L, i < T.length) ∧ as = [.val (webD P T), .val (lotD L)] ∧ Q (.bl (decide (rk P (tl T L) = rk P T))) m
def S_is_a_tree : G.Spec := fun as m Q => ∃ P T L, WbOk P T ∧ L.length ≤ 100 ∧ Lot T.length L ∧ as = [.val (webD P T), .val (lotD L)] ∧ ∀ b, (b = true ↔ Tree P T L) → Q (.bl b) m
def S_check_tree : G.Spec := fun as m Q => ∃ P T L, WbOk P T ∧ Tree P T L ∧ as = [.val (webD P T), .val (lotD L)] ∧ Q .non m
/-- with which ties one can be exchanged -/
def Exc (P : List Nat) (T : List (Nat × Nat)) (L : List Nat) (k j : Nat) : Prop := (k ∈ L ∧ j ∉ L ∧ Tree P T (put L k j)) ∨ (k ∉ L ∧ j ∈ L ∧ Tree P T (put L j k))
open Classical in
noncomputable def exs (P : List Nat) (T : List (Nat × Nat)) (L : List Nat) (k : Nat) : List Nat := (List.range T.length).filter fun j => decide (Exc P T L k j)
def S_partners : G.Spec := fun as m Q => ∃ P T L k, WbOk P T ∧ Tree P T L ∧ k < T.length ∧ as = [.val (webD P T), .val (lotD L), .val (natD k)] ∧ Q (lotD (exs P T L k)) m
def S_exchanges : G.Spec := S_partners

def S_law_dip : G.Spec := fun as m Q => ∃ n : Int, 0 < n ∧ n < 1073741824 ∧ as = [.cask, .val (.int n)] ∧ ∀ d : Nat, (d : Int) < n → Q (.int d) m
def S_law_any : G.Spec := fun as m Q => (∃ P : List Nat, P ≠ [] ∧ P.length ≤ 100 ∧ as = [.cask, .val (plD P)] ∧ ∀ a ∈ P, Q (.str (c1 a)) m) ∨ (∃ Ls : List D, Ls ≠ [] ∧ Ls.length ≤ LL ∧ as = [.cask, .val (.lst Ls)] ∧ ∀ L ∈ Ls, Q L m)
def S_law_parts : G.Spec := fun as m Q => as = [.cask, .val (.int 4), .val (.int 6)] ∧ ∀ P T, WbOk P T → P.length ≤ 4 → T.length ≤ 6 → Q (.tup [plD P, .tup (T.map wayD)]) m
def S_law_rank : G.Spec := fun as m Q => ∃ P E x, PlOk P ∧ Ok P E ∧ E.length ≤ 100 ∧ (x = .lst (E.map wayD) ∨ x = .tup (E.map wayD)) ∧ as = [.val (plD P), .val x] ∧ Q (natD (rk P E)) m
/-- all lots -/
def gen : Nat → List (List Nat)
  | 0 => [[]]
  | n + 1 => gen n ++ (gen n).map fun l => l ++ [n]
def lots (n : Nat) : List (List Nat) := (gen n).mergeSort fun a b => !D.lt (lotD b) (lotD a)
def S_law_lots : G.Spec := fun as m Q => ∃ n : Nat, n ≤ 11 ∧ as = [.val (natD n)] ∧ Q (.lst ((lots n).map lotD)) m
open Classical in
noncomputable def trees (P : List Nat) (T : List (Nat × Nat)) : List (List Nat) := (lots T.length).filter fun L => decide (Tree P T L)
def S_law_trees : G.Spec := fun as m Q => ∃ P T, WbOk P T ∧ as = [.val (plD P), .val (.tup (T.map wayD))] ∧ Q (.lst ((trees P T).map lotD)) m
/-- the cask: figures, two mixed numbers -/
def ckOk : Nat → List V → Prop := fun _ xs => ∃ f s t : Int, xs = [.int f, .int s, .int t] ∧ 0 ≤ f ∧ 0 ≤ s ∧ s < 2147483629 ∧ 0 ≤ t ∧ t < 2147480009
def dMake (da : DA) : DE := fun env m Q => da env m fun as m1 => ∃ P T, WbOk P T ∧ as = [.val (plD P), .val (.tup (T.map wayD))] ∧ Q (webD P T) m1
def isIntD : D → Option Bool | .int _ => some true | .bl _ => some true | .str _ => some false | .non => some false | .tup _ => some false | .lst _ => some false | _ => none
def isBoolD : D → Option Bool | .int _ => some false | .bl _ => some true | .str _ => some false | .non => some false | .tup _ => some false | .lst _ => some false | _ => none
theorem len_of1 {S : G.Spec} {P : List Sl → Prop} {n : Nat} (h : ∀ as m Q, S as m Q → P as) (k : ∀ as, P as → as.length = n) : ∀ as m Q, S as m Q → as.length = n := fun as m Q s => k as (h as m Q s)
theorem S_is_integer_len : ∀ as m Q, S_is_integer as m Q → as.length = 1 := by rintro as m Q ⟨_, rfl, _⟩; rfl
theorem S_is_between_len : ∀ as m Q, S_is_between as m Q → as.length = 3 := by rintro as m Q ⟨_, _, _, rfl, _⟩; rfl
theorem S_are_letters_len : ∀ as m Q, S_are_letters as m Q → as.length = 1 := by rintro as m Q ⟨_, _, rfl, _⟩; rfl
theorem S_are_places_len : ∀ as m Q, S_are_places as m Q → as.length = 1 := S_are_letters_len
theorem S_is_tie_len : ∀ as m Q, S_is_tie as m Q → as.length = 2 := by rintro as m Q ⟨_, _, _, _, _, _, rfl, _⟩; rfl
theorem S_wrong_tie_len : ∀ as m Q, S_wrong_tie as m Q → as.length = 2 := by rintro as m Q ⟨_, _, _, rfl, _⟩; rfl
theorem S_Weblen_len : ∀ as m Q, S_Weblen as m Q → as.length = 1 := by rintro as m Q ⟨_, _, rfl, _⟩; rfl
theorem S_check_web_len : ∀ as m Q, S_check_web as m Q → as.length = 1 := by rintro as m Q ⟨_, _, rfl, _⟩; rfl
theorem S_check_index_len : ∀ as m Q, S_check_index as m Q → as.length = 2 := by rintro as m Q ⟨_, _, _, _, rfl, _⟩; rfl
theorem S_herds_of_len : ∀ as m Q, S_herds_of as m Q → as.length = 2 := by rintro as m Q ⟨_, _, _, _, _, _, _, rfl, _⟩; rfl
theorem S_wrong_in_len : ∀ as m Q, S_wrong_in as m Q → as.length = 2 := by rintro as m Q ⟨_, _, _, _, rfl, _⟩; rfl
theorem S_check_lot_len : ∀ as m Q, S_check_lot as m Q → as.length = 2 := S_wrong_in_len
theorem S_every_tie_len : ∀ as m Q, S_every_tie as m Q → as.length = 1 := by rintro as m Q ⟨_, _, _, rfl, _⟩; rfl
theorem S_ties_of_len : ∀ as m Q, S_ties_of as m Q → as.length = 2 := by rintro as m Q ⟨_, _, _, _, _, _, _, rfl, _⟩; rfl
theorem S_pieces_of_len : ∀ as m Q, S_pieces_of as m Q → as.length = 2 := by rintro as m Q ⟨_, _, _, _, _, _, rfl, _⟩; rfl
theorem S_rank_of_len : ∀ as m Q, S_rank_of as m Q → as.length = 2 := by rintro as m Q ⟨_, _, _, _, _, _, rfl, _⟩; rfl
theorem S_spare_of_len : ∀ as m Q, S_spare_of as m Q → as.length = 2 := by rintro as m Q ⟨_, _, _, _, _, _, rfl, _⟩; rfl
theorem S_without_len : ∀ as m Q, S_without as m Q → as.length = 2 := by rintro as m Q ⟨_, _, _, rfl, _⟩; rfl
theorem S_within_len : ∀ as m Q, S_within as m Q → as.length = 2 := by rintro as m Q ⟨_, _, _, rfl, _⟩; rfl
theorem S_is_free_lot_len : ∀ as m Q, S_is_free_lot as m Q → as.length = 2 := by rintro as m Q ⟨_, _, _, _, _, _, rfl, _⟩; rfl
theorem S_is_full_len : ∀ as m Q, S_is_full as m Q → as.length = 2 := by rintro as m Q ⟨_, _, _, _, _, _, rfl, _⟩; rfl
theorem S_is_a_tree_len : ∀ as m Q, S_is_a_tree as m Q → as.length = 2 := by rintro as m Q ⟨_, _, _, _, _, _, rfl, _⟩; rfl
theorem S_check_tree_len : ∀ as m Q, S_check_tree as m Q → as.length = 2 := by rintro as m Q ⟨_, _, _, _, _, rfl, _⟩; rfl
theorem S_partners_len : ∀ as m Q, S_partners as m Q → as.length = 3 := by rintro as m Q ⟨_, _, _, _, _, _, _, rfl, _⟩; rfl
theorem S_exchanges_len : ∀ as m Q, S_exchanges as m Q → as.length = 3 := S_partners_len
theorem S_law_dip_len : ∀ as m Q, S_law_dip as m Q → as.length = 2 := by rintro as m Q ⟨_, _, _, rfl, _⟩; rfl
theorem S_law_any_len : ∀ as m Q, S_law_any as m Q → as.length = 2 := by rintro as m Q (⟨_, _, _, rfl, _⟩ | ⟨_, _, _, rfl, _⟩) <;> rfl
theorem S_law_parts_len : ∀ as m Q, S_law_parts as m Q → as.length = 3 := by rintro as m Q ⟨rfl, _⟩; rfl
theorem S_law_rank_len : ∀ as m Q, S_law_rank as m Q → as.length = 2 := by rintro as m Q ⟨_, _, _, _, _, _, _, rfl, _⟩; rfl
theorem S_law_lots_len : ∀ as m Q, S_law_lots as m Q → as.length = 1 := by rintro as m Q ⟨_, _, rfl, _⟩; rfl
theorem S_law_trees_len : ∀ as m Q, S_law_trees as m Q → as.length = 2 := by rintro as m Q ⟨_, _, _, rfl, _⟩; rfl
abbrev padn (n : Nat) (as : List Sl) : Env' := as ++ List.replicate (n - as.length) .no
abbrev fin (Q : D → Nat → Prop) : DEnds := { nx := fun _ m => Q .non m, rt := Q }
end T
namespace T
open PySem L2 G

def d_is_integer : DS := (dRet (dAndV (dIsi isIntD (dVarB 0)) (dNotV (dIsi isBoolD (dVarB 0)))))

abbrev n_is_integer : Nat := 1
-- 0 value

def d_is_between : DS := (dRet (dAndV (dCall S_is_integer (dConsA (dVar 0) dNilA)) (dChain leD leD (dVarB 1) (dVarB 0) (dVarB 2))))

abbrev n_is_between : Nat := 3
-- 0 value, 1 least, 2 most

def d_are_letters : DS := (dSeq (dIf (dOr (dNot (dTest (dIsi isStrD (dVarB 0)))) (dTest (dOp neD (dLenDc (dISrc (dVarB 0)) (tgN 1) (dVar 1) (dC (.bl true)) [1]) (dCallB lenD0 (dConsL (dVarB 0) dNilL))))) (dRet (dC (.bl false))) dNext)
  (dRet (dCallB allD (dConsL (dNew (dLc (dISrc (dVarB 0)) (tgN 1) dYes (dOp inD (dVarB 1) (dC (.str "abcdefgh"))) [1])) dNilL))))

abbrev n_are_letters : Nat := 2
-- 0 value, 1 letter

def d_are_places : DS := (dRet (dAndV (dCall S_are_letters (dConsA (dVar 0) dNilA)) (dAndV (dChain ltD leD (dC (.int 0)) (dCallB lenD0 (dConsL (dVarB 0) dNilL)) (dC (.int 7))) (dOp eqD (dNew (dCallN listD (dConsL (dVarB 0) dNilL))) (dNew (dCallN sortedD (dConsL (dVarB 0) dNilL)))))))

abbrev n_are_places : Nat := 1
-- 0 value

def d_is_tie : DS := (dSeq (dIf (dOr (dNot (dTest (dIsi isStrD (dVarB 1)))) (dTest (dOp neD (dCallB lenD0 (dConsL (dVarB 1) dNilL)) (dC (.int 2))))) (dRet (dC (.bl false))) dNext)
  (dRet (dAndV (dOp inD (dOp ixD (dVarB 1) (dC (.int 0))) (dVarB 0)) (dAndV (dOp inD (dOp ixD (dVarB 1) (dC (.int 1))) (dVarB 0)) (dOp leD (dOp ixD (dVarB 1) (dC (.int 0))) (dOp ixD (dVarB 1) (dC (.int 1))))))))

abbrev n_is_tie : Nat := 2
-- 0 places, 1 value

def d_wrong_tie : DS := (dSeq (dFor (dIEnum (dVar 1)) (tgT (tgCons (tgN 2) (tgCons (tgN 3) tgNil)) 2) (dIf (dOr (dTest (dOp eqD (dVarB 2) (dC (.int 11)))) (dNot (dTest (dCall S_is_tie (dConsA (dVar 0) (dConsA (dVar 3) dNilA)))))) (dRet (dVar 2)) dNext))
  (dRet (dC .non)))

abbrev n_wrong_tie : Nat := 4
-- 0 places, 1 ties, 2 index, 3 tie

def d_Weblen : DS := (dRet (dCallB lenD0 (dConsL (dTs (dVar 0)) dNilL)))

abbrev n_Weblen : Nat := 1
-- 0 self

def d_check_web : DS := (dIf (dNot (dTest (dIsi isWebD (dVarB 0)))) dNever dNext)

abbrev n_check_web : Nat := 1
-- 0 web

def d_check_index : DS := (dIf (dNot (dTest (dCall S_is_between (dConsA (dVar 1) (dConsA (dC (.int 0)) (dConsA (dOp subD (dCallB lenD (dConsL (dVarB 0) dNilL)) (dC (.int 1))) dNilA)))))) dNever dNext)

abbrev n_check_index : Nat := 2
-- 0 web, 1 index

def d_herds_of : DS := (dSeq (dAsg 2 (dNew (dCallN listD (dConsL (dVarB 0) dNilL))))
  (dSeq (dFor (dISrc (dVar 1)) (tgTS (tgCons (tgN 3) (tgCons (tgN 4) tgNil)) 2) (dSeq (dAsg 5 (dNew (dLc (dISrc (dVarB 2)) (tgN 7) (dOr (dTest (dOp inD (dVarB 3) (dVarB 7))) (dTest (dOp inD (dVarB 4) (dVarB 7)))) (dVar 7) [7])))
  (dSeq (dAsg 6 (dMt D.isS joinD (dC (.str "")) (dConsL (dNew (dCallN sortedD (dConsL (dMt D.isS joinD (dC (.str "")) (dConsL (dVarB 5) dNilL)) dNilL))) dNilL)))
  (dAsg 2 (dOp addD (dNew (dLst (dConsL (dVar 6) dNilL))) (dNew (dLc (dISrc (dVarB 2)) (tgN 7) (dTest (dOp notInD (dVarB 7) (dVarB 5))) (dVar 7) [7])))))))
  (dRet (dNew (dCallN sortedD (dConsL (dVarB 2) dNilL))))))

abbrev n_herds_of : Nat := 8
-- 0 places, 1 ties, 2 found, 3 one, 4 other, 5 joined, 6 whole, 7 herd

def d_wrong_in : DS := (dSeq (dAsg 2 (dC (.int (-1))))
  (dSeq (dFor (dIEnum (dVar 1)) (tgT (tgCons (tgN 3) (tgCons (tgN 4) tgNil)) 2) (dSeq (dIf (dNot (dTest (dCall S_is_between (dConsA (dVar 4) (dConsA (dOp addD (dVarB 2) (dC (.int 1))) (dConsA (dOp subD (dCallB lenD (dConsL (dVarB 0) dNilL)) (dC (.int 1))) dNilA)))))) (dRet (dVar 3)) dNext)
  (dAsg 2 (dVar 4))))
  (dRet (dC .non))))

abbrev n_wrong_in : Nat := 5
-- 0 web, 1 lot, 2 last, 3 place, 4 index

def d_check_lot : DS := (dSeq (dIf (dNot (dTest (dIsi isTupD (dVarB 1)))) dNever dNext)
  (dSeq (dAsg 2 (dCall S_wrong_in (dConsA (dVar 0) (dConsA (dVar 1) dNilA))))
  (dIf (dTest (dOp notND (dVarB 2) (dC .non))) dNever dNext)))

abbrev n_check_lot : Nat := 3
-- 0 web, 1 lot, 2 wrong

def d_every_tie : DS := (dRet (dTupRg (dCallB lenD (dConsL (dVarB 0) dNilL))))

abbrev n_every_tie : Nat := 1
-- 0 web

def d_ties_of : DS := (dRet (dNew (dLc (dISrc (dVarB 1)) (tgN 2) dYes (dOp ixD (dTs (dVar 0)) (dVarB 2)) [2])))

abbrev n_ties_of : Nat := 3
-- 0 web, 1 lot, 2 index

def d_pieces_of : DS := (dRet (dCall S_herds_of (dConsA (dPl (dVar 0)) (dConsA (dCall S_ties_of (dConsA (dVar 0) (dConsA (dVar 1) dNilA))) dNilA))))

abbrev n_pieces_of : Nat := 2
-- 0 web, 1 lot

def d_rank_of : DS := (dRet (dOp subD (dCallB lenD0 (dConsL (dPl (dVar 0)) dNilL)) (dCallB lenD0 (dConsL (dCall S_pieces_of (dConsA (dVar 0) (dConsA (dVar 1) dNilA))) dNilL))))

abbrev n_rank_of : Nat := 2
-- 0 web, 1 lot

def d_spare_of : DS := (dRet (dOp subD (dCallB lenD0 (dConsL (dVarB 1) dNilL)) (dCall S_rank_of (dConsA (dVar 0) (dConsA (dVar 1) dNilA)))))

abbrev n_spare_of : Nat := 2
-- 0 web, 1 lot

def d_without : DS := (dRet (dCallB tupleD (dConsL (dNew (dLc (dISrc (dVarB 0)) (tgN 2) (dTest (dOp neD (dVarB 2) (dVarB 1))) (dVar 2) [2])) dNilL)))

abbrev n_without : Nat := 3
-- 0 lot, 1 index, 2 own

def d_within : DS := (dRet (dCallB tupleD (dConsL (dNew (dCallN sortedTD (dConsL (dOp addD (dVarB 0) (dTup (dConsL (dVar 1) dNilL))) dNilL))) dNilL)))

abbrev n_within : Nat := 2
-- 0 lot, 1 index

def d_is_free_lot : DS := (dRet (dOp eqD (dCall S_spare_of (dConsA (dVar 0) (dConsA (dVar 1) dNilA))) (dC (.int 0))))

abbrev n_is_free_lot : Nat := 2
-- 0 web, 1 lot

def d_is_full : DS := (dRet (dOp eqD (dCall S_rank_of (dConsA (dVar 0) (dConsA (dVar 1) dNilA))) (dCall S_rank_of (dConsA (dVar 0) (dConsA (dCall S_every_tie (dConsA (dVar 0) dNilA)) dNilA)))))

abbrev n_is_full : Nat := 2
-- 0 web, 1 lot

def d_is_a_tree : DS := (dRet (dAndV (dCall S_is_free_lot (dConsA (dVar 0) (dConsA (dVar 1) dNilA))) (dCall S_is_full (dConsA (dVar 0) (dConsA (dVar 1) dNilA)))))

abbrev n_is_a_tree : Nat := 2
-- 0 web, 1 lot

def d_check_tree : DS := (dSeq (dDrop (dCall S_check_web (dConsA (dVar 0) dNilA)))
  (dSeq (dDrop (dCall S_check_lot (dConsA (dVar 0) (dConsA (dVar 1) dNilA))))
  (dIf (dNot (dTest (dCall S_is_a_tree (dConsA (dVar 0) (dConsA (dVar 1) dNilA))))) dNever dNext)))

abbrev n_check_tree : Nat := 2
-- 0 web, 1 tree

def d_partners : DS := (dSeq (dAsgN 3 (dLst dNilL))
  (dSeq (dFor (dISrc (dCall S_every_tie (dConsA (dVar 0) dNilA))) (tgN 4) (dSeq (dIf (dAnd (dTest (dOp inD (dVarB 2) (dVarB 1))) (dAnd (dTest (dOp notInD (dVarB 4) (dVarB 1))) (dTest (dCall S_is_a_tree (dConsA (dVar 0) (dConsA (dCall S_within (dConsA (dCall S_without (dConsA (dVar 1) (dConsA (dVar 2) dNilA))) (dConsA (dVar 4) dNilA))) dNilA)))))) (dApp 3 (dVar 4)) dNext)
  (dIf (dAnd (dTest (dOp notInD (dVarB 2) (dVarB 1))) (dAnd (dTest (dOp inD (dVarB 4) (dVarB 1))) (dTest (dCall S_is_a_tree (dConsA (dVar 0) (dConsA (dCall S_within (dConsA (dCall S_without (dConsA (dVar 1) (dConsA (dVar 4) dNilA))) (dConsA (dVar 2) dNilA))) dNilA)))))) (dApp 3 (dVar 4)) dNext)))
  (dRet (dCallB tupleD (dConsL (dVarB 3) dNilL)))))

abbrev n_partners : Nat := 5
-- 0 web, 1 tree, 2 index, 3 found own, 4 other

def d_exchanges : DS := (dSeq (dDrop (dCall S_check_tree (dConsA (dVar 0) (dConsA (dVar 1) dNilA))))
  (dSeq (dDrop (dCall S_check_index (dConsA (dVar 0) (dConsA (dVar 2) dNilA))))
  (dRet (dCall S_partners (dConsA (dVar 0) (dConsA (dVar 1) (dConsA (dVar 2) dNilA)))))))

abbrev n_exchanges : Nat := 3
-- 0 web, 1 tree, 2 index

def d_law_any : DS := (dRet (dOp ixD (dVarB 1) (dCall S_law_dip (dConsC 0 (dConsA (dCallB lenD0 (dConsL (dVarB 1) dNilL)) dNilA)))))

abbrev n_law_any : Nat := 2
-- 0 _law_pot_here, 1 _law_some

def d_law_parts : DS := (dSeq (dMix [3, 4, 5] (dConsW (dNew (dCallN listD (dConsL (dC (.str "abcdefgh")) dNilL))) (dConsW (dNew (dLst dNilL)) (dConsW (dNew (dLst dNilL)) dNilA))))
  (dSeq (dFor (dIRng (dOp addD (dC (.int 1)) (dCall S_law_dip (dConsC 0 (dConsA (dVar 1) dNilA))))) (tgN 6) (dAppPop 4 3 (dCall S_law_dip (dConsC 0 (dConsA (dCallB lenD0 (dConsL (dVarB 3) dNilL)) dNilA)))))
  (dSeq (dAsg 7 (dMt D.isS joinD (dC (.str "")) (dConsL (dNew (dCallN sortedD (dConsL (dVarB 4) dNilL))) dNilL)))
  (dSeq (dIf (dTest (dOp eqD (dCall S_law_dip (dConsC 0 (dConsA (dC (.int 2)) dNilA))) (dC (.int 0)))) (dAsgN 5 (dLc (dIRng (dOp subD (dCallB lenD0 (dConsL (dVarB 7) dNilL)) (dC (.int 1)))) (tgN 10) dYes (dOp addD (dOp ixD (dVarB 7) (dVarB 10)) (dOp ixD (dVarB 7) (dOp addD (dVarB 10) (dC (.int 1))))) [10])) dNext)
  (dSeq (dFor (dIRng (dCall S_law_dip (dConsC 0 (dConsA (dOp subD (dOp addD (dVarB 2) (dC (.int 1))) (dCallB lenD0 (dConsL (dVarB 5) dNilL))) dNilA)))) (tgN 6) (dSeq (dPar 8 9 (dConsL (dCall S_law_any (dConsC 0 (dConsA (dVar 7) dNilA))) (dConsL (dCall S_law_any (dConsC 0 (dConsA (dVar 7) dNilA))) dNilL)))
  (dSeq (dIf (dAnd (dTest (dOp eqD (dVarB 8) (dVarB 9))) (dTest (dOp gtD (dCall S_law_dip (dConsC 0 (dConsA (dC (.int 3)) dNilA))) (dC (.int 0))))) (dAsg 9 (dCall S_law_any (dConsC 0 (dConsA (dVar 7) dNilA)))) dNext)
  (dIns 5 (dCall S_law_dip (dConsC 0 (dConsA (dOp addD (dCallB lenD0 (dConsL (dVarB 5) dNilL)) (dC (.int 1))) dNilA))) (dOp addD (dCallB minD2 (dConsL (dVarB 8) (dConsL (dVarB 9) dNilL))) (dCallB maxD2 (dConsL (dVarB 8) (dConsL (dVarB 9) dNilL))))))))
  (dRet (dTup (dConsL (dVar 7) (dConsL (dCallB tupleD (dConsL (dVarB 5) dNilL)) dNilL)))))))))

abbrev n_law_parts : Nat := 11
-- 0 _law_pot_here, 1 _law_most, 2 _law_many, 3 _law_pool own, 4 _law_found own, 5 _law_ties own, 6 _law_turn, 7 _law_places, 8 _law_one, 9 _law_other, 10 _law_k

def d_law_rank : DS := (dSeq (dAsgW 3 (dDictP (dNew (dLc (dISrc (dVarB 0)) (tgN 2) dYes (dTup (dConsL (dVar 2) (dConsL (dVar 2) dNilL))) [2]))))
  (dSeq (dFor (dISrc (dVar 1)) (tgN 4) (dSeq (dPar 5 6 (dConsL (dCallB minD2 (dConsL (dOp dixD (dVarB 3) (dOp ixD (dVarB 4) (dC (.int 0)))) (dConsL (dOp dixD (dVarB 3) (dOp ixD (dVarB 4) (dC (.int 1)))) dNilL))) (dConsL (dCallB maxD2 (dConsL (dOp dixD (dVarB 3) (dOp ixD (dVarB 4) (dC (.int 0)))) (dConsL (dOp dixD (dVarB 3) (dOp ixD (dVarB 4) (dC (.int 1)))) dNilL))) dNilL)))
  (dFor (dISrc (dVar 0)) (tgN 2) (dIf (dTest (dOp eqD (dOp dixD (dVarB 3) (dVar 2)) (dVarB 6))) (dSetD 3 (dVar 5) (dVar 2)) dNext))))
  (dRet (dOp subD (dCallB lenD0 (dConsL (dVarB 0) dNilL)) (dLenSetS (dNew (dLc (dISrc (dVarB 0)) (tgN 2) dYes (dOp dixD (dVarB 3) (dVar 2)) [2])))))))

abbrev n_law_rank : Nat := 7
-- 0 _law_places, 1 _law_ties, 2 _law_place, 3 _law_heads own, 4 _law_tie, 5 _law_low, 6 _law_high

def d_law_lots : DS := (dSeq (dAsg 1 (dNew (dLst (dConsL (dTup dNilL) dNilL))))
  (dSeq (dFor (dIRng (dVar 0)) (tgN 2) (dAsg 1 (dOp addD (dVarB 1) (dNew (dLc (dISrc (dVarB 1)) (tgN 3) dYes (dOp addD (dVarB 3) (dTup (dConsL (dVar 2) dNilL))) [3])))))
  (dRet (dNew (dCallN sorted0D (dConsL (dVarB 1) dNilL))))))

abbrev n_law_lots : Nat := 4
-- 0 _law_many, 1 _law_found, 2 _law_own, 3 _law_lot

def d_law_trees : DS := (dSeq (dMix [2, 3] (dConsA (dCall S_law_rank (dConsA (dVar 0) (dConsA (dVar 1) dNilA))) (dConsW (dNew (dLst dNilL)) dNilA)))
  (dSeq (dFor (dISrc (dCall S_law_lots (dConsA (dCallB lenD0 (dConsL (dVarB 1) dNilL)) dNilA))) (tgN 4) (dIf (dAnd (dTest (dOp eqD (dCallB lenD0 (dConsL (dVarB 4) dNilL)) (dVarB 2))) (dTest (dOp eqD (dCall S_law_rank (dConsA (dVar 0) (dConsA (dNew (dLc (dISrc (dVarB 4)) (tgN 5) dYes (dOp ixD (dVarB 1) (dVarB 5)) [5])) dNilA))) (dVarB 2)))) (dApp 3 (dVar 4)) dNext))
  (dRetO 3)))

abbrev n_law_trees : Nat := 6
-- 0 _law_places, 1 _law_ties, 2 _law_top, 3 _law_found own, 4 _law_lot, 5 _law_k

end T
namespace T
open PySem L2 G
theorem llv : LL = 100000 := rfl
theorem plS_len (P : List Nat) : (plS P).length = P.length := rfl
theorem chars_plS (P : List Nat) : charsD (plS P) = P.map fun a => D.str (c1 a) := rfl
theorem in_pl (a : Nat) (P : List Nat) : inD (.str (c1 a)) (.str (plS P)) = some (.bl (decide (a ∈ P))) := rfl
theorem all_true {α : Type} (P : List α) : allD [.lst (P.map fun _ => D.bl true)] = some (.bl true) := by
  have e : (P.map fun _ => D.bl true) = (P.map fun _ => true).map D.bl := by rw [List.map_map]; rfl
  show (bools _).map _ = _
  rw [e, bools_of]
  simp
theorem letters_in (a : Nat) (h : 97 ≤ a ∧ a ≤ 104) : inD (.str (c1 a)) (.str "abcdefgh") = some (.bl true) := by
  have e : (Str.ofString "abcdefgh") = plS [97, 98, 99, 100, 101, 102, 103, 104] := by decide +kernel
  rw [e, in_pl]
  have : a ∈ [97, 98, 99, 100, 101, 102, 103, 104] := by simp; omega
  rw [decide_eq_true this]
theorem c1_inj {a b : Nat} (h : c1 a = c1 b) : a = b := by
  have : (c1 a).cps.toList = (c1 b).cps.toList := by rw [h]
  simpa [c1] using this
theorem c1_eq (a b : Nat) : decide (c1 a = c1 b) = decide (a = b) := by
  by_cases h : a = b
  · subst h; simp
  · rw [decide_eq_false h, decide_eq_false fun z => h (c1_inj z)]
theorem dk_nodup (env : Env') (he : env.length = 2) : ∀ (P : List Nat) (ks : List Key) (m : Nat) (Q : List Key → Nat → Prop), P.Nodup → (∀ a ∈ P, ∀ k ∈ ks, k ≠ .inr (c1 a)) → Q (ks ++ P.map fun a => .inr (c1 a)) m →
    DkR (tgN 1) (dVar 1) (dC (.bl true)) env (P.map fun a => D.str (c1 a)) m ks Q
  | [], ks, m, Q, _, _, q => by
    rw [List.map_nil, List.append_nil] at q
    exact q
  | a :: r, ks, m, Q, nd, ne, q => by
    refine ⟨_, rfl, .str (c1 a), ?_, .inr (c1 a), rfl, ?_⟩
    · rw [List.getElem?_set_self (by omega)]; rfl
    · have e : putKey ks (.inr (c1 a)) = ks ++ [.inr (c1 a)] := by
        unfold putKey
        rw [if_neg]
        intro z
        obtain ⟨k, hk, h⟩ := List.any_eq_true.mp z
        exact ne a (by simp) k hk (of_decide_eq_true h)
      rw [e]
      obtain ⟨n1, n2⟩ := List.nodup_cons.mp nd
      refine dk_nodup env he r _ m Q n2 (fun b hb k hk => ?_) (by rw [List.append_assoc]; exact q)
      rcases List.mem_append.mp hk with hk | hk
      · exact ne b (by simp [hb]) k hk
      · rw [List.mem_singleton] at hk
        subst hk
        intro z
        have := c1_inj (Sum.inr.inj z)
        subst this
        exact n1 hb
theorem law_are_letters : ∀ as m Q, S_are_letters as m Q → d_are_letters (padn n_are_letters as) m (fin Q) := by
  rintro as m Q ⟨P, hP, rfl, q⟩
  have hl : P.length ≤ LL := Nat.le_trans hP.few (by decide)
  refine ⟨_, rfl, true, rfl, true, rfl, ?_⟩
  refine ⟨_, rfl, _, rfl, ?_, ?_⟩
  · rw [chars_plS, List.length_map]; exact hl
  · rw [chars_plS]
    refine dk_nodup _ rfl P [] m _ hP.nd (fun _ _ _ h => by simp at h) ?_
    refine ⟨_, rfl, .int (P.length : Nat), if_pos hl, .bl false, ?_, false, rfl, ?_⟩
    · show neD (.int _) (.int _) = _
      simp [neD, eqB_int]
    · refine ⟨_, rfl, _, rfl, ?_, ?_⟩
      · rw [chars_plS, List.length_map]; exact hl
      · rw [chars_plS]
        refine lcR_m (fun a => D.str (c1 a)) (fun _ => .bl true) P m _ (fun a ha => ⟨_, rfl, fun m Q q => ⟨_, rfl, _, letters_in a (hP.let8 a ha), q⟩⟩) ?_
        exact ⟨_, all_true P, q⟩
theorem sLt_c1 (a b : Nat) : sLt (c1 a) (c1 b) = decide (a < b) := by
  unfold sLt c1
  show decide ([a] < [b]) = _
  by_cases h : a < b
  · rw [decide_eq_true h, decide_eq_true (List.cons_lt_cons_iff.mpr (.inl h))]
  · rw [decide_eq_false h, decide_eq_false]
    intro z
    rcases List.cons_lt_cons_iff.mp z with y | ⟨_, y⟩
    · exact h y
    · exact absurd y (by simp)
theorem lt_c1 (a b : Nat) : D.lt (.str (c1 a)) (.str (c1 b)) = decide (a < b) := by
  show PySem.W.dataLt (.str (c1 a)) (.str (c1 b)) = _
  rw [PySem.W.dataLt_str, ← sLt_c1]
  rfl
theorem sort_c1 {P : List Nat} (h : P.Pairwise (· < ·)) : sortL (P.map fun a => D.str (c1 a)) = P.map fun a => D.str (c1 a) := by
  unfold sortL
  refine List.mergeSort_of_pairwise ?_
  rw [List.pairwise_map]
  refine h.imp fun {a b} hab => ?_
  rw [lt_c1]
  simp; omega
theorem okdL_c1 (n : Nat) : ∀ P : List Nat, (∀ a ∈ P, a < 1000) → okdL (P.map fun a => D.str (c1 a)) n = true
  | [], _ => rfl
  | a :: r, h => by
    rw [List.map_cons]
    unfold okdL
    rw [okdL_c1 n r fun b hb => h b (by simp [hb])]
    have : D.okd (.str (c1 a)) n = true := by
      have ha := h a (by simp)
      show PyData.strOk (c1 a) = true
      unfold PyData.strOk c1
      simp
      omega
    rw [this]; rfl
theorem eqvL_self_c1 : ∀ P : List Nat, PyData.eqvAll (pyL (P.map fun a => D.str (c1 a))) (pyL (P.map fun a => D.str (c1 a))) = true
  | [] => rfl
  | a :: r => by
    simp only [List.map_cons, pyL, D.py, PyData.eqvAll, eqvL_self_c1 r]
    simp [PyData.eqv]
theorem law_are_places : ∀ as m Q, S_are_places as m Q → d_are_places (padn n_are_places as) m (fin Q) := by
  rintro as m Q ⟨P, hP, rfl, q⟩
  have hl : P.length ≤ LL := Nat.le_trans hP.few (by decide)
  refine ⟨_, rfl, P, hP, rfl, true, rfl, ?_⟩
  refine ⟨_, rfl, .int (P.length : Nat), if_pos hl, true, ?_, ?_⟩
  · show some (D.bl (decide ((0 : Int) < (P.length : Nat)))) = _
    rw [decide_eq_true (by have := hP.pos; omega)]
  · refine ⟨.bl true, ?_, true, rfl, ?_⟩
    · show some (D.bl (decide (((P.length : Nat) : Int) ≤ 7))) = _
      rw [decide_eq_true (by have := hP.few; omega)]
    · refine ⟨_, rfl, P.map fun a => D.str (c1 a), if_pos hl, _, rfl, P.map fun a => D.str (c1 a), ?_, .bl true, ?_, q⟩
      · show (if _ then some (sortL (charsD (plS P))) else none) = _
        rw [if_pos (by rw [plS_len]; exact hl), chars_plS, sort_c1 hP.inc]
      · show (deepEq _ _).map _ = _
        unfold deepEq
        have hk := okdL_c1 59 P fun a ha => by have := hP.let8 a ha; omega
        rw [if_pos (by simp only [D.okd, hk]; rfl)]
        simp only [D.py]
        show some (D.bl (PyData.eqvAll _ _)) = _
        rw [eqvL_self_c1]
theorem tS_len (p : Nat × Nat) : (tS p).length = 2 := rfl
theorem ix_t0 (p : Nat × Nat) : ixD (.str (tS p)) (.int 0) = some (.str (c1 p.1)) := rfl
theorem ix_t1 (p : Nat × Nat) : ixD (.str (tS p)) (.int 1) = some (.str (c1 p.2)) := rfl
theorem law_is_tie : ∀ as m Q, S_is_tie as m Q → d_is_tie (padn n_is_tie as) m (fin Q) := by
  rintro as m Q ⟨P, p, _, h1, h2, h3, rfl, q⟩
  refine ⟨_, rfl, true, rfl, true, rfl, ?_⟩
  refine ⟨_, rfl, .int 2, rfl, .bl false, rfl, false, rfl, ?_⟩
  refine ⟨_, rfl, _, ix_t0 p, _, rfl, .bl true, ?_, true, rfl, ?_⟩
  · rw [in_pl, decide_eq_true h1]
  · refine ⟨_, rfl, _, ix_t1 p, _, rfl, .bl true, ?_, true, rfl, ?_⟩
    · rw [in_pl, decide_eq_true h2]
    · refine ⟨_, rfl, _, ix_t0 p, _, rfl, _, ix_t1 p, .bl true, ?_, q⟩
      show some (D.bl (!sLt (c1 p.2) (c1 p.1))) = _
      rw [sLt_c1, decide_eq_false (by omega)]; rfl
theorem law_Weblen : ∀ as m Q, S_Weblen as m Q → d_Weblen (padn n_Weblen as) m (fin Q) := by
  rintro as m Q ⟨pl, ts, rfl, q⟩
  refine ⟨_, rfl, pl, ts, rfl, _, rfl, ?_⟩
  rw [List.length_map]
  exact q
theorem law_check_web : ∀ as m Q, S_check_web as m Q → d_check_web (padn n_check_web as) m (fin Q) := by
  rintro as m Q ⟨P, T, rfl, q⟩
  exact ⟨_, rfl, true, rfl, true, rfl, q⟩
theorem drop_cons {α : Type} {l : List α} {k : Nat} {d : α} {ds : List α} (h : d :: ds = l.drop k) : l[k]? = some d ∧ ds = l.drop (k + 1) := by
  have hk : k < l.length := by
    apply Classical.byContradiction
    intro z
    rw [List.drop_eq_nil_of_le (by omega)] at h
    cases h
  rw [List.drop_eq_getElem_cons hk] at h
  injection h with h1 h2
  exact ⟨by rw [h1]; exact List.getElem?_eq_getElem hk, h2⟩
theorem enum_get {ds : List D} {k : Nat} {x : D} (h : (enumD ds)[k]? = some x) : ∃ d, ds[k]? = some d ∧ x = .tup [.int (k : Nat), d] := by
  unfold enumD at h
  rw [List.getElem?_map, List.getElem?_zipIdx] at h
  cases e : ds[k]? with
  | none => rw [e] at h; simp at h
  | some d => rw [e] at h; simp at h; exact ⟨d, rfl, h.symm⟩
theorem law_wrong_tie : ∀ as m Q, S_wrong_tie as m Q → d_wrong_tie (padn n_wrong_tie as) m (fin Q) := by
  rintro as m Q ⟨P, T, hW, rfl, q⟩
  refine ⟨_, rfl, _, rfl, ?_⟩
  refine forR_ind (fun its env m' => m' = m ∧ (∃ x y, env = [.val (.str (plS P)), .val (.tup (T.map wayD)), x, y]) ∧ ∃ k, its = (enumD (T.map wayD)).drop k) ?_ ?_ _ _ _ ⟨rfl, ⟨_, _, rfl⟩, 0, rfl⟩
  · rintro env m' ⟨rfl, _, _⟩
    exact q
  · rintro d ds env m' ⟨rfl, ⟨x, y, rfl⟩, k, hk⟩
    obtain ⟨h1, h2⟩ := drop_cons hk
    obtain ⟨z, h3, rfl⟩ := enum_get h1
    rw [List.getElem?_map] at h3
    obtain ⟨p, hp, rfl⟩ := Option.map_eq_some_iff.mp h3
    have hkl : k < T.length := (List.getElem?_eq_some_iff.mp hp).1
    obtain ⟨t1, t2, t3⟩ := hW.ties p (List.mem_of_getElem? hp)
    have hk11 : ((k : Int) = 11) = False := by
      have := hW.few
      simp; omega
    refine ⟨_, rfl, fun K hK => ⟨_, rfl, .bl false, ?_, false, rfl, ?_⟩⟩
    · rw [eqD_int]; simp [hk11]
    · exact ⟨_, rfl, _, rfl, P, p, Nat.le_trans hW.pl.few (by decide), t1, t2, t3, rfl, true, rfl, hK _ _ ⟨rfl, ⟨_, _, rfl⟩, k + 1, h2⟩⟩
theorem empty_is : (Str.ofString "") = plS [] := by decide +kernel
theorem len11 {n : Nat} (h : n ≤ 11) : n ≤ LL := Nat.le_trans h (by decide)
theorem ix_pl {P : List Nat} {d a : Nat} (hl : P.length ≤ LL) (h : P[d]? = some a) : ixD (.str (plS P)) (.int (d : Nat)) = some (.str (c1 a)) := by
  show (if (plS P).length ≤ LL then (atI P (d : Int)).map _ else none) = _
  rw [if_pos (by rw [plS_len]; exact hl), atI_nat h]; rfl
theorem joinL_sing : ∀ cs : List Nat, TL.joinL [] (cs.map fun c => [c]) = cs
  | [] => rfl
  | [c] => rfl
  | c :: d :: r => by
    show [c] ++ ([] ++ TL.joinL [] ((d :: r).map fun c => [c])) = _
    rw [joinL_sing (d :: r)]; rfl
theorem join_c1 (cs : List Nat) : Txt.join "" (cs.map c1) = plS cs := by
  have := SX.join_S [] (cs.map fun c => [c])
  rw [joinL_sing, List.map_map] at this
  rw [empty_is]
  exact this
theorem sum_ones : ∀ cs : List Nat, (((cs.map c1).map (·.length)).sum) = cs.length
  | [] => rfl
  | c :: r => by
    rw [List.map_cons, List.map_cons, List.sum_cons, sum_ones r, List.length_cons]
    show 1 + _ = _
    omega
theorem joinD_c1 (cs : List Nat) (h : cs.length ≤ LL) : joinD (.str "") [.lst (cs.map fun c => D.str (c1 c))] = some (.str (plS cs)) := by
  have e : (cs.map fun c => D.str (c1 c)) = (cs.map c1).map D.str := by rw [List.map_map]; rfl
  show (strsD _).bind _ = _
  rw [e, strsD_of]
  show (if joinOk "" (cs.map c1) then some (D.str (Txt.join "" (cs.map c1))) else none) = _
  rw [if_pos, join_c1]
  unfold joinOk
  rw [sum_ones]
  refine decide_eq_true ?_
  have : (Str.ofString "").length = 0 := by decide +kernel
  rw [this]
  have : LL = 100000 := rfl
  omega
theorem natD_map (n : Nat) : rangeD 0 (n : Int) = (List.range n).map natD := rangeD_nat n
theorem ix_lst {α : Type} {f : α → D} {xs : List α} {i : Nat} {x : α} (h : xs[i]? = some x) : ixD (.lst (xs.map f)) (natD i) = some (f x) := by
  show atI (xs.map f) (i : Int) = _
  exact atI_nat (by rw [List.getElem?_map, h]; rfl)
theorem ix_tup {α : Type} {f : α → D} {xs : List α} {i : Nat} {x : α} (h : xs[i]? = some x) : ixD (.tup (xs.map f)) (natD i) = some (f x) := by
  show atI (xs.map f) (i : Int) = _
  exact atI_nat (by rw [List.getElem?_map, h]; rfl)
end T
namespace T
open PySem L2 G
theorem law_is_integer : ∀ as m Q, S_is_integer as m Q → d_is_integer (padn n_is_integer as) m (fin Q) := by
  rintro as m Q ⟨i, rfl, q⟩
  exact ⟨_, rfl, true, rfl, true, rfl, _, rfl, false, rfl, false, rfl, q⟩
theorem law_is_between : ∀ as m Q, S_is_between as m Q → d_is_between (padn n_is_between as) m (fin Q) := by
  rintro as m Q ⟨i, a, b, rfl, q⟩
  refine ⟨_, rfl, i, rfl, true, rfl, _, rfl, _, rfl, decide (a ≤ i), rfl, ?_⟩
  by_cases h : a ≤ i
  · rw [decide_eq_true h, if_pos rfl]
    refine ⟨_, rfl, _, rfl, ?_⟩
    have e : decide (a ≤ i ∧ i ≤ b) = decide (i ≤ b) := by simp [h]
    rw [← e]; exact q
  · rw [decide_eq_false h, if_neg (by decide)]
    have e : decide (a ≤ i ∧ i ≤ b) = false := by simp [h]
    rw [e] at q; exact q
theorem lenW (P : List Nat) (T : List (Nat × Nat)) : lenD [webD P T] = some (natD T.length) := by
  show some (D.int ((T.map tS).length : Nat)) = _
  rw [List.length_map]; rfl
theorem law_check_index : ∀ as m Q, S_check_index as m Q → d_check_index (padn n_check_index as) m (fin Q) := by
  rintro as m Q ⟨P, T, k, hk, rfl, q⟩
  refine ⟨_, rfl, _, rfl, _, lenW P T, _, rfl, _, _, _, rfl, true, ?_, q⟩
  rw [decide_eq_true]
  omega
theorem law_wrong_in : ∀ as m Q, S_wrong_in as m Q → d_wrong_in (padn n_wrong_in as) m (fin Q) := by
  rintro as m Q ⟨P, T, L, hL, rfl, q⟩
  refine ⟨_, rfl, _, rfl, ?_⟩
  refine forR_ind (fun its env m' => m' = m ∧ ∃ k, its = (enumD (L.map natD)).drop k ∧ ∃ (l : Int) (x y : Sl), (∀ a, L[k]? = some a → l < (a : Nat)) ∧ env = [.val (webD P T), .val (lotD L), .val (.int l), x, y]) ?_ ?_ _ _ _ ⟨rfl, 0, rfl, -1, _, _, fun a _ => by omega, rfl⟩
  · rintro env m' ⟨rfl, _⟩
    exact q
  · rintro d ds env m' ⟨rfl, k, hk, l, x, y, hl, rfl⟩
    obtain ⟨h1, h2⟩ := drop_cons hk
    obtain ⟨z, h3, rfl⟩ := enum_get h1
    rw [List.getElem?_map] at h3
    obtain ⟨a, ha, rfl⟩ := Option.map_eq_some_iff.mp h3
    have haT := hL.inb a (List.mem_of_getElem? ha)
    have hla := hl a ha
    refine ⟨_, rfl, fun K hK => ⟨_, rfl, _, rfl, _, rfl, _, rfl, _, lenW P T, _, rfl, _, _, _, rfl, true, ?_, ?_⟩⟩
    · rw [decide_eq_true]
      omega
    · refine ⟨_, rfl, hK _ _ ⟨rfl, k + 1, h2, (a : Nat), _, _, fun b hb => ?_, rfl⟩⟩
      have hk' := (List.getElem?_eq_some_iff.mp ha)
      have hb' := (List.getElem?_eq_some_iff.mp hb)
      obtain ⟨i1, i2⟩ := hk'
      obtain ⟨j1, j2⟩ := hb'
      have := List.pairwise_iff_getElem.mp hL.inc k (k + 1) i1 j1 (by omega)
      omega
theorem law_check_lot : ∀ as m Q, S_check_lot as m Q → d_check_lot (padn n_check_lot as) m (fin Q) := by
  rintro as m Q ⟨P, T, L, hL, rfl, q⟩
  exact ⟨_, rfl, true, rfl, true, rfl, _, rfl, _, rfl, P, T, L, hL, rfl, _, rfl, _, rfl, false, rfl, q⟩
theorem law_every_tie : ∀ as m Q, S_every_tie as m Q → d_every_tie (padn n_every_tie as) m (fin Q) := by
  rintro as m Q ⟨P, T, h11, rfl, q⟩
  refine ⟨_, rfl, _, lenW P T, T.length, rfl, by have := llv; omega, ?_⟩
  have e : D.tup (rangeD 0 (T.length : Nat)) = lotD (List.range T.length) := by rw [natD_map]; rfl
  rw [e]; exact q
theorem tie_get {T : List (Nat × Nat)} {i : Nat} (h : i < T.length) : T[i]? = some (T.getD i (0, 0)) := by
  rw [List.getD_eq_getElem?_getD, List.getElem?_eq_getElem h]; rfl
theorem ix_ties {T : List (Nat × Nat)} {i : Nat} (h : i < T.length) : ixD (.tup (T.map wayD)) (natD i) = some (wayD (T.getD i (0, 0))) := ix_tup (tie_get h)
theorem ts_map (T : List (Nat × Nat)) : (T.map tS).map D.str = T.map wayD := by rw [List.map_map]; rfl
theorem law_ties_of : ∀ as m Q, S_ties_of as m Q → d_ties_of (padn n_ties_of as) m (fin Q) := by
  rintro as m Q ⟨P, T, L, x, h100, hL, hx, rfl, q⟩
  have sx : srcD x = some (L.map natD) := by rcases hx with rfl | rfl <;> rfl
  refine ⟨_, rfl, _, sx, by rw [List.length_map]; have := llv; omega, ?_⟩
  refine lcR_m natD (fun i => wayD (T.getD i (0, 0))) L m _ (fun i hi => ⟨_, rfl, fun m Q q => ⟨_, rfl, plS P, T.map tS, rfl, _, rfl, wayD (T.getD i (0, 0)), ?_, q⟩⟩) ?_
  · rw [ts_map]; exact ix_ties (hL i hi)
  · unfold tl at q
    rw [List.map_map] at q
    exact q
theorem law_pieces_of : ∀ as m Q, S_pieces_of as m Q → d_pieces_of (padn n_pieces_of as) m (fin Q) := by
  rintro as m Q ⟨P, T, L, hW, h100, hL, rfl, q⟩
  exact ⟨_, rfl, plS P, T.map tS, rfl, _, rfl, _, rfl, P, T, L, _, h100, hL, .inl rfl, rfl, P, tl T L, _, hW.pl, tl_ok hW.ok hL, by rw [tl_len]; exact h100, .inl rfl, rfl, q⟩
theorem Herds.count {P : List Nat} {E : List (Nat × Nat)} {hs : List (List Nat)} (nd : P.Nodup) (h : Herds P E hs) : hs.length = nc P E := by
  classical
  have ex : ∀ a, ∃ x, a ∈ P → x ∈ hs ∧ a ∈ x := fun a => by
    by_cases ha : a ∈ P
    · obtain ⟨x, h1, h2⟩ := h.cov a ha
      exact ⟨x, fun _ => ⟨h1, h2⟩⟩
    · exact ⟨[], fun z => absurd z ha⟩
  have one : ∀ x ∈ hs, ∀ y ∈ hs, ∀ a, a ∈ x → a ∈ y → x = y := fun x hx y hy a ax ay => by
    refine lot_eq (h.inc x hx) (h.inc y hy) fun b => ?_
    constructor
    · intro hb
      exact (h.cls y hy a ay b (h.inP x hx b hb)).mpr ((h.cls x hx a ax b (h.inP x hx b hb)).mp hb)
    · intro hb
      exact (h.cls x hx a ax b (h.inP y hy b hb)).mpr ((h.cls y hy a ay b (h.inP y hy b hb)).mp hb)
  refine nc_of nd (fun a => (ex a).choose) (fun a ha b hb => ?_) h.nd fun x => ?_
  · obtain ⟨a1, a2⟩ := (ex a).choose_spec ha
    obtain ⟨b1, b2⟩ := (ex b).choose_spec hb
    constructor
    · intro e
      have e' : (ex a).choose = (ex b).choose := e
      rw [← e'] at b2
      exact (h.cls _ a1 a a2 b hb).mp b2
    · intro c
      exact one _ a1 _ b1 b ((h.cls _ a1 a a2 b hb).mpr c) b2
  · constructor
    · intro hx
      obtain ⟨a, l, e⟩ : ∃ a l, x = a :: l := by
        cases x with
        | nil => exact absurd rfl (h.ne _ hx)
        | cons a l => exact ⟨a, l, rfl⟩
      have ax : a ∈ x := by rw [e]; simp
      have ha := h.inP x hx a ax
      obtain ⟨a1, a2⟩ := (ex a).choose_spec ha
      exact ⟨a, ha, one _ a1 x hx a a2 ax⟩
    · rintro ⟨a, ha, rfl⟩
      exact ((ex a).choose_spec ha).1
theorem len_lst {α : Type} (f : α → D) (xs : List α) : lenD0 [.lst (xs.map f)] = some (natD xs.length) := by
  show some (D.int ((xs.map f).length : Nat)) = _
  rw [List.length_map]; rfl
theorem len_tup {α : Type} (f : α → D) (xs : List α) : lenD0 [.tup (xs.map f)] = some (natD xs.length) := by
  show some (D.int ((xs.map f).length : Nat)) = _
  rw [List.length_map]; rfl
theorem len_pl {P : List Nat} (h : P.length ≤ LL) : lenD0 [plD P] = some (natD P.length) := if_pos h
theorem len7 {P : List Nat} (h : PlOk P) : P.length ≤ LL := Nat.le_trans h.few (by decide)
theorem law_rank_of : ∀ as m Q, S_rank_of as m Q → d_rank_of (padn n_rank_of as) m (fin Q) := by
  rintro as m Q ⟨P, T, L, hW, h100, hL, rfl, q⟩
  refine ⟨_, rfl, plS P, T.map tS, rfl, _, len_pl (len7 hW.pl), _, rfl, _, rfl, P, T, L, hW, h100, hL, rfl, fun hs hH => ⟨_, len_lst plD hs, _, rfl, ?_⟩⟩
  have e1 := hH.count hW.pl.nd
  have e2 := nc_le P (tl T L)
  have e3 : ((P.length : Nat) : Int) - (hs.length : Nat) = (rk P (tl T L) : Nat) := by unfold rk; omega
  show Q (.int (((P.length : Nat) : Int) - (hs.length : Nat))) m
  rw [e3]; exact q
theorem law_spare_of : ∀ as m Q, S_spare_of as m Q → d_spare_of (padn n_spare_of as) m (fin Q) := by
  rintro as m Q ⟨P, T, L, hW, h100, hL, rfl, q⟩
  exact ⟨_, rfl, _, len_tup natD L, _, rfl, _, rfl, P, T, L, hW, h100, hL, rfl, _, rfl, q⟩
theorem ne_nat (a b : Nat) : neD (natD a) (natD b) = some (.bl (decide (a ≠ b))) := by
  show (eqB (.int (a : Nat)) (.int (b : Nat))).map _ = _
  rw [eqB_int]
  show some (D.bl (!decide ((a : Int) = (b : Nat)))) = _
  by_cases h : a = b
  · subst h; simp
  · have : ¬ (a : Int) = (b : Nat) := by omega
    simp [h, this]
theorem eq_nat (a b : Nat) : eqD (natD a) (natD b) = some (.bl (decide (a = b))) := by
  show eqD (.int (a : Nat)) (.int (b : Nat)) = _
  rw [eqD_int]
  by_cases h : a = b
  · subst h; simp
  · have : ¬ (a : Int) = (b : Nat) := by omega
    simp [h, this]
theorem law_without : ∀ as m Q, S_without as m Q → d_without (padn n_without as) m (fin Q) := by
  rintro as m Q ⟨L, k, h100, rfl, q⟩
  refine ⟨_, rfl, _, rfl, by rw [List.length_map]; have := llv; omega, ?_⟩
  exact lcR_fm natD (fun i => decide (i ≠ k)) natD L m _ (fun i hi => ⟨_, rfl, fun m Q q => ⟨_, rfl, _, rfl, _, ne_nat i k, _, rfl, q⟩, fun _ m Q q => ⟨_, rfl, q⟩⟩) ⟨_, rfl, q⟩
theorem lt_nat (a b : Nat) : D.lt (natD a) (natD b) = decide (a < b) := by
  show PySem.W.dataLt (.int (a : Nat)) (.int (b : Nat)) = _
  rw [PySem.W.dataLt_int]
  by_cases h : a < b
  · rw [decide_eq_true h, decide_eq_true]; omega
  · rw [decide_eq_false h, decide_eq_false]; omega
theorem sort_nat (l : List Nat) : sortL (l.map natD) = (srt l).map natD := by
  unfold sortL srt
  have := List.map_mergeSort (r := fun a b : Nat => decide (a ≤ b)) (s := fun a b : D => !D.lt b a) (f := natD) (l := l) (fun a _ b _ => by
    rw [lt_nat]
    by_cases h : a ≤ b
    · rw [decide_eq_true h, decide_eq_false (by omega)]; rfl
    · rw [decide_eq_false h, decide_eq_true (by omega)]; rfl)
  exact this.symm
theorem okdL_nat (n : Nat) : ∀ l : List Nat, okdL (l.map natD) n = true := okdL_ints n
theorem sortOk_nat {l : List Nat} (h : l.length ≤ LL) : sortOk (l.map natD) = true := by
  unfold sortOk
  simp only [Bool.and_eq_true, Bool.or_eq_true, decide_eq_true_eq]
  refine ⟨⟨⟨?_, .inr ?_⟩, ?_⟩, by rw [List.length_map]; exact h⟩
  · unfold alikeL
    rw [List.all_eq_true]
    intro a ha
    rw [List.all_eq_true]
    intro b hb
    obtain ⟨i, _, rfl⟩ := List.mem_map.mp ha
    obtain ⟨j, _, rfl⟩ := List.mem_map.mp hb
    rfl
  · rw [List.all_eq_true]
    intro a ha
    obtain ⟨i, _, rfl⟩ := List.mem_map.mp ha
    rfl
  · rw [List.all_eq_true]
    intro a ha
    obtain ⟨i, _, rfl⟩ := List.mem_map.mp ha
    rfl
theorem law_within : ∀ as m Q, S_within as m Q → d_within (padn n_within as) m (fin Q) := by
  rintro as m Q ⟨L, k, h100, rfl, q⟩
  have h1 : ((L.map natD).length + [natD k].length) ≤ LL := by rw [List.length_map]; have := llv; show L.length + 1 ≤ _; omega
  have e : L.map natD ++ [natD k] = (L ++ [k]).map natD := by rw [List.map_append]; rfl
  refine ⟨_, rfl, _, rfl, by have := llv; show 1 ≤ _; omega, .tup ((L ++ [k]).map natD), ?_, (srt (L ++ [k])).map natD, ?_, _, rfl, q⟩
  · show (if _ then some (D.tup (L.map natD ++ [natD k])) else none) = _
    rw [if_pos h1, e]
  · show (if sortOk ((L ++ [k]).map natD) then some (sortL ((L ++ [k]).map natD)) else none) = _
    rw [if_pos (sortOk_nat (by rw [List.length_append, List.length_singleton]; have := llv; omega)), sort_nat]
theorem law_is_free_lot : ∀ as m Q, S_is_free_lot as m Q → d_is_free_lot (padn n_is_free_lot as) m (fin Q) := by
  rintro as m Q ⟨P, T, L, hW, h100, hL, rfl, q⟩
  refine ⟨_, rfl, _, rfl, P, T, L, hW, h100, hL, rfl, _, eqD_int _ _, ?_⟩
  have e : decide (((L.length : Nat) : Int) - (rk P (tl T L) : Nat) = 0) = decide (L.length = rk P (tl T L)) := by
    by_cases h : L.length = rk P (tl T L)
    · rw [decide_eq_true h, decide_eq_true]; omega
    · rw [decide_eq_false h, decide_eq_false]; omega
  rw [e]; exact q
theorem tl_range (T : List (Nat × Nat)) : tl T (List.range T.length) = T := by
  unfold tl
  refine List.ext_getElem (by simp) fun i h1 h2 => ?_
  rw [List.getElem_map, List.getElem_range, List.getD_eq_getElem?_getD, List.getElem?_eq_getElem h2]
  rfl
theorem law_is_full : ∀ as m Q, S_is_full as m Q → d_is_full (padn n_is_full as) m (fin Q) := by
  rintro as m Q ⟨P, T, L, hW, h100, hL, rfl, q⟩
  refine ⟨_, rfl, _, rfl, P, T, L, hW, h100, hL, rfl, _, rfl, _, rfl, P, T, hW.few, rfl, P, T, List.range T.length, hW, by rw [List.length_range]; have := hW.few; omega, fun i hi => List.mem_range.mp hi, rfl, _, eq_nat _ _, ?_⟩
  rw [tl_range]; exact q
theorem law_is_a_tree : ∀ as m Q, S_is_a_tree as m Q → d_is_a_tree (padn n_is_a_tree as) m (fin Q) := by
  rintro as m Q ⟨P, T, L, hW, h100, hL, rfl, q⟩
  refine ⟨_, rfl, _, rfl, P, T, L, hW, h100, hL.inb, rfl, _, rfl, ?_⟩
  by_cases h : L.length = rk P (tl T L)
  · rw [decide_eq_true h, if_pos rfl]
    refine ⟨_, rfl, _, rfl, P, T, L, hW, h100, hL.inb, rfl, q _ ?_⟩
    rw [decide_eq_true_eq]
    exact ⟨fun e => ⟨hL, h.trans e, e⟩, fun t => t.full⟩
  · rw [decide_eq_false h, if_neg (by decide)]
    refine q false ⟨(fun z => nomatch z), fun t => absurd (t.size.trans t.full.symm) h⟩
theorem Lot.few {n : Nat} {L : List Nat} (h : Lot n L) : L.length ≤ n := by
  have := len_le_of_sub (m := List.range n) h.nd fun a ha => List.mem_range.mpr (h.inb a ha)
  rwa [List.length_range] at this
theorem law_check_tree : ∀ as m Q, S_check_tree as m Q → d_check_tree (padn n_check_tree as) m (fin Q) := by
  rintro as m Q ⟨P, T, L, hW, hT, rfl, q⟩
  have hl := hT.lot.few
  refine ⟨_, rfl, P, T, rfl, _, rfl, _, rfl, P, T, L, hT.lot, rfl, _, rfl, _, rfl, P, T, L, hW, by have := hW.few; omega, hT.lot, rfl, fun b hb => ⟨b, rfl, ?_⟩⟩
  rw [hb.mpr hT]
  exact q
theorem in_lot (a : Nat) (L : List Nat) : inD (natD a) (lotD L) = some (.bl (decide (a ∈ L))) := by
  have hf : (L.map natD).all D.flat = true := by
    rw [List.all_eq_true]
    intro x hx
    obtain ⟨i, _, rfl⟩ := List.mem_map.mp hx
    rfl
  have e : inL (natD a) (L.map natD) = decide (a ∈ L) := by
    unfold inL
    rw [List.any_map]
    by_cases h : a ∈ L
    · rw [decide_eq_true h, List.any_eq_true]
      exact ⟨a, h, by show ((a : Int) == (a : Nat)) = true; simp⟩
    · rw [decide_eq_false h, List.any_eq_false]
      intro b hb z
      have z' : ((b : Int) == (a : Nat)) = true := z
      have : b = a := by have := of_decide_eq_true (p := (b : Int) = (a : Nat)) (by simpa using z'); omega
      exact h (this ▸ hb)
  show (if (natD a).flat && (L.map natD).all D.flat then some (inL (natD a) (L.map natD)) else none).map _ = _
  rw [hf, e]; rfl
theorem notin_lot (a : Nat) (L : List Nat) : notInD (natD a) (lotD L) = some (.bl (decide (a ∉ L))) := by
  have h := in_lot a L
  unfold inD at h
  unfold notInD
  obtain ⟨b, h1, h2⟩ := Option.map_eq_some_iff.mp h
  cases h2
  rw [h1]
  show some (D.bl (!decide (a ∈ L))) = _
  simp
open Classical in
theorem mem_exs {P : List Nat} {T : List (Nat × Nat)} {L : List Nat} {k j : Nat} : j ∈ exs P T L k ↔ j < T.length ∧ Exc P T L k j := by
  unfold exs
  rw [List.mem_filter, List.mem_range]
  exact ⟨fun h => ⟨h.1, of_decide_eq_true h.2⟩, fun h => ⟨h.1, decide_eq_true h.2⟩⟩
theorem out_few {L : List Nat} {k : Nat} : (out L k).length ≤ L.length := List.length_filter_le _ _
theorem in_t {a : Nat} {L : List Nat} (h : a ∈ L) : inD (natD a) (lotD L) = some (.bl true) := by rw [in_lot, decide_eq_true h]
theorem in_f {a : Nat} {L : List Nat} (h : a ∉ L) : inD (natD a) (lotD L) = some (.bl false) := by rw [in_lot, decide_eq_false h]
theorem nin_t {a : Nat} {L : List Nat} (h : a ∉ L) : notInD (natD a) (lotD L) = some (.bl true) := by rw [notin_lot, decide_eq_true h]
theorem nin_f {a : Nat} {L : List Nat} (h : a ∈ L) : notInD (natD a) (lotD L) = some (.bl false) := by rw [notin_lot, decide_eq_false (not_not_intro h)]
open Classical in
theorem law_partners : ∀ as m Q, S_partners as m Q → d_partners (padn n_partners as) m (fin Q) := by
  rintro as m Q ⟨P, T, L, k, hW, hT, hk, rfl, q⟩
  have hl := hT.lot.few
  have h11 := hW.few
  have lt' : ∀ o i, i ∉ L → i < T.length → Lot T.length (put L o i) ∧ (put L o i).length ≤ 100 ∧ (out L o).length ≤ 100 := fun o i ni hi => by
    have hn := put_lot (o := o) hT.lot hi ni
    have hf := hn.few
    have := out_few (L := L) (k := o)
    exact ⟨hn, by omega, by omega⟩
  refine ⟨by have := llv; show 0 ≤ _; omega, _, rfl, P, T, h11, rfl, _, rfl, ?_⟩
  refine forR_ind (fun its env m' => m' = m ∧ ∃ n, n ≤ T.length ∧ its = ((List.range T.length).map natD).drop n ∧ ∃ x : Sl, env = [.val (webD P T), .val (lotD L), .val (natD k), .own ((((List.range n).filter fun j => decide (Exc P T L k j))).map natD), x]) ?_ ?_ _ _ _ ⟨rfl, 0, Nat.zero_le _, rfl, _, rfl⟩
  · rintro env m' ⟨rfl, n, hn, he, x, rfl⟩
    have : n = T.length := by
      have z := congrArg List.length he
      simp at z
      omega
    subst this
    exact ⟨_, rfl, _, rfl, q⟩
  · rintro d ds env m' ⟨rfl, n, hn, he, x, rfl⟩
    obtain ⟨h1, h2⟩ := drop_cons he
    have hn' : n < T.length := by
      have := (List.getElem?_eq_some_iff.mp h1).1
      simpa using this
    have hd : d = natD n := by
      rw [List.getElem?_map, List.getElem?_range hn'] at h1
      exact (Option.some.inj h1).symm
    subst hd
    refine ⟨_, rfl, fun K hK => ?_⟩
    have yes : Exc P T L k n → K [.val (webD P T), .val (lotD L), .val (natD k), .own (((List.range n).filter fun j => decide (Exc P T L k j)).map natD ++ [natD n]), .val (natD n)] m' := fun e => by
      refine hK _ _ ⟨rfl, n + 1, hn', h2, .val (natD n), ?_⟩
      have z : [n].filter (fun j => decide (Exc P T L k j)) = [n] := by simp [e]
      rw [List.range_succ, List.filter_append, z, List.map_append]; rfl
    have no : ¬ Exc P T L k n → K [.val (webD P T), .val (lotD L), .val (natD k), .own (((List.range n).filter fun j => decide (Exc P T L k j)).map natD), .val (natD n)] m' := fun e => by
      refine hK _ _ ⟨rfl, n + 1, hn', h2, .val (natD n), ?_⟩
      have z : [n].filter (fun j => decide (Exc P T L k j)) = [] := by simp [e]
      rw [List.range_succ, List.filter_append, z, List.append_nil]
    have few : (((List.range n).filter fun j => decide (Exc P T L k j)).map natD).length < LL := by
      rw [List.length_map]
      have := List.length_filter_le (fun j => decide (Exc P T L k j)) (List.range n)
      rw [List.length_range] at this
      have := llv
      omega
    by_cases hkL : k ∈ L
    · by_cases hnL : n ∈ L
      · refine ⟨_, rfl, _, rfl, _, in_t hkL, true, rfl, _, rfl, _, rfl, _, nin_f hnL, false, rfl, _, rfl, _, rfl, _, nin_f hkL, false, rfl, no ?_⟩
        rintro (⟨_, z, _⟩ | ⟨z, _, _⟩)
        · exact z hnL
        · exact z hkL
      · refine ⟨_, rfl, _, rfl, _, in_t hkL, true, rfl, _, rfl, _, rfl, _, nin_t hnL, true, rfl, _, rfl, _, rfl, _, rfl, ?_⟩
        obtain ⟨l1, l2, l3⟩ := lt' k n hnL hn'
        refine ⟨L, k, by omega, rfl, _, rfl, out L k, n, l3, rfl, P, T, put L k n, hW, l2, l1, rfl, fun b hb => ⟨b, rfl, ?_⟩⟩
        cases b with
        | true => exact ⟨_, rfl, _, rfl, few, _, rfl, _, rfl, _, nin_f hkL, false, rfl, yes (.inl ⟨hkL, hnL, hb.mp rfl⟩)⟩
        | false =>
          refine ⟨_, rfl, _, rfl, _, nin_f hkL, false, rfl, no ?_⟩
          rintro (⟨_, _, z⟩ | ⟨z, _, _⟩)
          · exact nomatch hb.mpr z
          · exact z hkL
    · by_cases hnL : n ∈ L
      · refine ⟨_, rfl, _, rfl, _, in_f hkL, false, rfl, _, rfl, _, rfl, _, nin_t hkL, true, rfl, _, rfl, _, rfl, _, in_t hnL, true, rfl, _, rfl, _, rfl, _, rfl, ?_⟩
        obtain ⟨l1, l2, l3⟩ := lt' n k hkL hk
        refine ⟨L, n, by omega, rfl, _, rfl, out L n, k, l3, rfl, P, T, put L n k, hW, l2, l1, rfl, fun b hb => ⟨b, rfl, ?_⟩⟩
        cases b with
        | true => exact ⟨_, rfl, _, rfl, few, yes (.inr ⟨hkL, hnL, hb.mp rfl⟩)⟩
        | false =>
          refine no ?_
          rintro (⟨z, _, _⟩ | ⟨_, _, z⟩)
          · exact hkL z
          · exact nomatch hb.mpr z
      · refine ⟨_, rfl, _, rfl, _, in_f hkL, false, rfl, _, rfl, _, rfl, _, nin_t hkL, true, rfl, _, rfl, _, rfl, _, in_f hnL, false, rfl, no ?_⟩
        rintro (⟨z, _, _⟩ | ⟨_, z, _⟩)
        · exact hkL z
        · exact hnL z
theorem law_exchanges : ∀ as m Q, S_exchanges as m Q → d_exchanges (padn n_exchanges as) m (fin Q) := by
  rintro as m Q ⟨P, T, L, k, hW, hT, hk, rfl, q⟩
  exact ⟨_, rfl, _, rfl, P, T, L, hW, hT, rfl, _, rfl, _, rfl, P, T, k, hk, rfl, _, rfl, _, rfl, _, rfl, P, T, L, k, hW, hT, hk, rfl, q⟩
end T
namespace T
open PySem L2 G
/-! herds joined by a tie -/
theorem Herds.one {P : List Nat} {E : List (Nat × Nat)} {hs : List (List Nat)} (h : Herds P E hs) : ∀ x ∈ hs, ∀ y ∈ hs, ∀ a, a ∈ x → a ∈ y → x = y := fun x hx y hy a ax ay => by
  refine lot_eq (h.inc x hx) (h.inc y hy) fun b => ?_
  constructor
  · intro hb
    exact (h.cls y hy a ay b (h.inP x hx b hb)).mpr ((h.cls x hx a ax b (h.inP x hx b hb)).mp hb)
  · intro hb
    exact (h.cls x hx a ax b (h.inP y hy b hb)).mpr ((h.cls y hy a ay b (h.inP y hy b hb)).mp hb)
theorem Herds.perm {P : List Nat} {E : List (Nat × Nat)} {hs ks : List (List Nat)} (h : Herds P E hs) (p : ks.Perm hs) : Herds P E ks where
  nd := p.nodup_iff.mpr h.nd
  ne := fun x hx => h.ne x (p.mem_iff.mp hx)
  inc := fun x hx => h.inc x (p.mem_iff.mp hx)
  cov := fun a ha => by obtain ⟨x, h1, h2⟩ := h.cov a ha; exact ⟨x, p.mem_iff.mpr h1, h2⟩
  inP := fun x hx => h.inP x (p.mem_iff.mp hx)
  cls := fun x hx => h.cls x (p.mem_iff.mp hx)
def met (u v : Nat) (h : List Nat) : Bool := decide (u ∈ h) || decide (v ∈ h)
def whole (u v : Nat) (hs : List (List Nat)) : List Nat := srt (hs.filter (met u v)).flatten
theorem Herds.start {P : List Nat} (nd : P.Nodup) : Herds P [] (P.map fun a => [a]) where
  nd := by
    rw [List.Nodup, List.pairwise_map]
    exact nd.imp fun h e => h (List.head_eq_of_cons_eq e)
  ne := fun x hx => by obtain ⟨a, _, rfl⟩ := List.mem_map.mp hx; simp
  inc := fun x hx => by obtain ⟨a, _, rfl⟩ := List.mem_map.mp hx; simp
  cov := fun a ha => ⟨[a], List.mem_map.mpr ⟨a, ha, rfl⟩, by simp⟩
  inP := fun x hx b hb => by
    obtain ⟨a, ha, rfl⟩ := List.mem_map.mp hx
    rw [List.mem_singleton] at hb; subst hb; exact ha
  cls := fun x hx a ha b hb => by
    obtain ⟨c, hc, rfl⟩ := List.mem_map.mp hx
    rw [List.mem_singleton] at ha ⊢
    subst ha
    exact ⟨fun e => by rw [e]; exact .refl _, fun e => e.nil.symm⟩
theorem mem_whole {P : List Nat} {E : List (Nat × Nat)} {hs : List (List Nat)} {u v : Nat} (h : Herds P E hs) (hu : u ∈ P) (hv : v ∈ P) {a : Nat} : a ∈ whole u v hs ↔ a ∈ P ∧ (Conn E u a ∨ Conn E v a) := by
  unfold whole
  rw [srt_mem, List.mem_flatten]
  constructor
  · rintro ⟨x, hx, ha⟩
    obtain ⟨h1, h2⟩ := List.mem_filter.mp hx
    have haP := h.inP x h1 a ha
    refine ⟨haP, ?_⟩
    unfold met at h2
    simp only [Bool.or_eq_true, decide_eq_true_eq] at h2
    rcases h2 with h2 | h2
    · exact .inl ((h.cls x h1 u h2 a haP).mp ha)
    · exact .inr ((h.cls x h1 v h2 a haP).mp ha)
  · rintro ⟨haP, c | c⟩
    · obtain ⟨x, h1, h2⟩ := h.cov u hu
      exact ⟨x, List.mem_filter.mpr ⟨h1, by unfold met; simp [h2]⟩, (h.cls x h1 u h2 a haP).mpr c⟩
    · obtain ⟨x, h1, h2⟩ := h.cov v hv
      exact ⟨x, List.mem_filter.mpr ⟨h1, by unfold met; simp [h2]⟩, (h.cls x h1 v h2 a haP).mpr c⟩
theorem Herds.step {P : List Nat} {E : List (Nat × Nat)} {hs : List (List Nat)} {u v : Nat} (h : Herds P E hs) (hu : u ∈ P) (hv : v ∈ P) : Herds P (E ++ [(u, v)]) (whole u v hs :: hs.filter fun x => !met u v x) := by
  have nmet : ∀ x, (!met u v x) = true → u ∉ x ∧ v ∉ x := fun x hx => by
    unfold met at hx
    simpa using hx
  have up : ∀ {x y : Nat}, Conn E x y → Conn (E ++ [(u, v)]) x y := fun c => conn_of_add (.inl c)
  have uv : Conn (E ++ [(u, v)]) u v := .tie (p := (u, v)) (by simp)
  have uw : u ∈ whole u v hs := (mem_whole h hu hv).mpr ⟨hu, .inl (.refl _)⟩
  refine ⟨List.nodup_cons.mpr ⟨fun z => (nmet _ (List.mem_filter.mp z).2).1 uw, h.nd.filter _⟩, fun x hx => ?_, fun x hx => ?_, fun a ha => ?_, fun x hx b hb => ?_, fun x hx a ha b hb => ?_⟩
  · rcases List.mem_cons.mp hx with rfl | hx
    · exact List.ne_nil_of_mem uw
    · exact h.ne x (List.mem_filter.mp hx).1
  · rcases List.mem_cons.mp hx with rfl | hx
    · refine srt_inc ?_
      rw [List.Nodup, List.pairwise_flatten]
      refine ⟨fun y hy => (h.inc y (List.mem_filter.mp hy).1).imp fun {a b} q => Nat.ne_of_lt q, ?_⟩
      refine (h.nd.filter _).imp_of_mem fun {y z} hy hz hne a ay b bz e => ?_
      subst e
      exact hne (h.one y (List.mem_filter.mp hy).1 z (List.mem_filter.mp hz).1 a ay bz)
    · exact h.inc x (List.mem_filter.mp hx).1
  · obtain ⟨x, h1, h2⟩ := h.cov a ha
    cases e : met u v x with
    | true =>
      refine ⟨_, List.mem_cons_self, ?_⟩
      unfold whole
      rw [srt_mem, List.mem_flatten]
      exact ⟨x, List.mem_filter.mpr ⟨h1, e⟩, h2⟩
    | false => exact ⟨x, List.mem_cons_of_mem _ (List.mem_filter.mpr ⟨h1, by rw [e]; rfl⟩), h2⟩
  · rcases List.mem_cons.mp hx with rfl | hx
    · exact ((mem_whole h hu hv).mp hb).1
    · exact h.inP x (List.mem_filter.mp hx).1 b hb
  · rcases List.mem_cons.mp hx with rfl | hx
    · obtain ⟨haP, ca⟩ := (mem_whole h hu hv).mp ha
      have cu : Conn (E ++ [(u, v)]) u a := ca.elim up fun c => uv.trans (up c)
      rw [mem_whole h hu hv]
      constructor
      · rintro ⟨_, cb⟩
        exact cu.symm.trans (cb.elim up fun c => uv.trans (up c))
      · intro c
        refine ⟨hb, ?_⟩
        rcases conn_add (cu.trans c) with c | ⟨_, c⟩ | ⟨_, c⟩
        · exact .inl c
        · exact .inr c
        · exact .inl c
    · obtain ⟨h1, h2⟩ := List.mem_filter.mp hx
      obtain ⟨n1, n2⟩ := nmet x h2
      rw [h.cls x h1 a ha b hb]
      refine ⟨up, fun c => ?_⟩
      rcases conn_add c with c | ⟨c, _⟩ | ⟨c, _⟩
      · exact c
      · exact absurd ((h.cls x h1 a ha u hu).mpr c) n1
      · exact absurd ((h.cls x h1 a ha v hv).mpr c) n2
end T
namespace T
open PySem L2 G
theorem plS_inj {a b : List Nat} (h : plS a = plS b) : a = b := by
  have : (plS a).cps.toList = (plS b).cps.toList := by rw [h]
  simpa [plS] using this
theorem joinL_nil : ∀ hs : List (List Nat), TL.joinL [] hs = hs.flatten
  | [] => rfl
  | [c] => by show c = _; simp
  | c :: d :: r => by
    show c ++ ([] ++ TL.joinL [] (d :: r)) = _
    rw [joinL_nil (d :: r)]; rfl
theorem join_pl (hs : List (List Nat)) : Txt.join "" (hs.map plS) = plS hs.flatten := by
  have := SX.join_S [] hs
  rw [joinL_nil] at this
  rw [empty_is]
  exact this
theorem sum_len : ∀ hs : List (List Nat), ((hs.map plS).map (·.length)).sum = hs.flatten.length
  | [] => rfl
  | c :: r => by
    rw [List.map_cons, List.map_cons, List.sum_cons, sum_len r, List.flatten_cons, List.length_append]; rfl
theorem joinD_pl {hs : List (List Nat)} (h : hs.flatten.length ≤ LL) : joinD (.str "") [.lst (hs.map plD)] = some (plD hs.flatten) := by
  have e : hs.map plD = (hs.map plS).map D.str := by rw [List.map_map]; rfl
  show (strsD _).bind _ = _
  rw [e, strsD_of]
  show (if joinOk "" (hs.map plS) then some (D.str (Txt.join "" (hs.map plS))) else none) = _
  rw [if_pos, join_pl]
  unfold joinOk
  rw [sum_len]
  refine decide_eq_true ?_
  have : (Str.ofString "").length = 0 := by decide +kernel
  rw [this]
  have : LL = 100000 := rfl
  omega
theorem sort_c (l : List Nat) : sortL (l.map fun a => D.str (c1 a)) = (srt l).map fun a => D.str (c1 a) := by
  unfold sortL srt
  have := List.map_mergeSort (r := fun a b : Nat => decide (a ≤ b)) (s := fun a b : D => !D.lt b a) (f := fun a => D.str (c1 a)) (l := l) (fun a _ b _ => by
    rw [lt_c1]
    by_cases h : a ≤ b
    · rw [decide_eq_true h, decide_eq_false (by omega)]; rfl
    · rw [decide_eq_false h, decide_eq_true (by omega)]; rfl)
  exact this.symm
theorem sorted_pl {l : List Nat} (h : l.length ≤ LL) : sortedD [plD l] = some ((srt l).map fun a => D.str (c1 a)) := by
  show (if (plS l).length ≤ LL then some (sortL (charsD (plS l))) else none) = _
  rw [if_pos (by rw [plS_len]; exact h), chars_plS, sort_c]
theorem in_plL (h : List Nat) (ks : List (List Nat)) : inB (plD h) (.lst (ks.map plD)) = some (decide (h ∈ ks)) := by
  have hf : (ks.map plD).all D.flat = true := by
    rw [List.all_eq_true]
    intro x hx
    obtain ⟨i, _, rfl⟩ := List.mem_map.mp hx
    rfl
  have e : inL (plD h) (ks.map plD) = decide (h ∈ ks) := by
    unfold inL
    rw [List.any_map]
    by_cases q : h ∈ ks
    · rw [decide_eq_true q, List.any_eq_true]
      exact ⟨h, q, by show (plS h == plS h) = true; simp⟩
    · rw [decide_eq_false q, List.any_eq_false]
      intro b hb z
      have z' : (plS b == plS h) = true := z
      exact q (plS_inj (by simpa using z') ▸ hb)
  show (if (plD h).flat && (ks.map plD).all D.flat then some (inL (plD h) (ks.map plD)) else none) = _
  rw [hf, e]; rfl
theorem strOk_pl {l : List Nat} (h : ∀ a ∈ l, a < 1000) : PyData.strOk (plS l) = true := by
  unfold PyData.strOk plS
  simp only [Array.all_eq_true', List.mem_toArray, Bool.and_eq_true, Bool.or_eq_true, decide_eq_true_eq] <;> first | (intro a ha; have := h a ha; simp; omega) | skip
theorem sortOk_pl {hs : List (List Nat)} (h : hs.length ≤ LL) (hc : ∀ x ∈ hs, ∀ a ∈ x, a < 1000) : sortOk (hs.map plD) = true := by
  unfold sortOk
  simp only [Bool.and_eq_true, Bool.or_eq_true, decide_eq_true_eq]
  refine ⟨⟨⟨?_, .inr ?_⟩, ?_⟩, by rw [List.length_map]; exact h⟩
  · unfold alikeL
    rw [List.all_eq_true]
    intro a ha
    rw [List.all_eq_true]
    intro b hb
    obtain ⟨i, _, rfl⟩ := List.mem_map.mp ha
    obtain ⟨j, _, rfl⟩ := List.mem_map.mp hb
    rfl
  · rw [List.all_eq_true]
    intro a ha
    obtain ⟨i, _, rfl⟩ := List.mem_map.mp ha
    rfl
  · rw [List.all_eq_true]
    intro a ha
    obtain ⟨i, hi, rfl⟩ := List.mem_map.mp ha
    show PyData.strOk (plS i) = true
    exact strOk_pl (hc i hi)
def sortH (hs : List (List Nat)) : List (List Nat) := hs.mergeSort fun a b => !D.lt (plD b) (plD a)
theorem sort_pl (hs : List (List Nat)) : sortL (hs.map plD) = (sortH hs).map plD := by
  unfold sortL sortH
  exact (List.map_mergeSort (r := fun a b => !D.lt (plD b) (plD a)) (s := fun a b : D => !D.lt b a) (f := plD) (l := hs) (fun a _ b _ => rfl)).symm
theorem Herds.flat_nd {P : List Nat} {E : List (Nat × Nat)} {hs : List (List Nat)} (h : Herds P E hs) (c : List Nat → Bool) : (hs.filter c).flatten.Nodup := by
  rw [List.Nodup, List.pairwise_flatten]
  refine ⟨fun y hy => (h.inc y (List.mem_filter.mp hy).1).imp fun {a b} q => Nat.ne_of_lt q, ?_⟩
  refine (h.nd.filter _).imp_of_mem fun {y z} hy hz hne a ay b bz e => ?_
  subst e
  exact hne (h.one y (List.mem_filter.mp hy).1 z (List.mem_filter.mp hz).1 a ay bz)
theorem Herds.flat_le {P : List Nat} {E : List (Nat × Nat)} {hs : List (List Nat)} (h : Herds P E hs) (c : List Nat → Bool) : (hs.filter c).flatten.length ≤ P.length :=
  len_le_of_sub (h.flat_nd c) fun a ha => by
    obtain ⟨x, hx, hax⟩ := List.mem_flatten.mp ha
    exact h.inP x (List.mem_filter.mp hx).1 a hax
theorem in_c (u : Nat) (h : List Nat) : inD (.str (c1 u)) (plD h) = some (.bl (decide (u ∈ h))) := in_pl u h
theorem law_herds_of : ∀ as m Q, S_herds_of as m Q → d_herds_of (padn n_herds_of as) m (fin Q) := by
  rintro as m Q ⟨P, E, xT, hP, hE, h100, hxT, rfl, q⟩
  have hl := len7 hP
  have hsrc : srcD xT = some (E.map wayD) := by rcases hxT with rfl | rfl <;> rfl
  refine ⟨_, rfl, P.map fun a => D.str (c1 a), if_pos hl, _, rfl, _, hsrc, ?_⟩
  refine forR_ind (fun its env m' => m' = m ∧ ∃ k, k ≤ E.length ∧ its = (E.map wayD).drop k ∧ ∃ hs, Herds P (E.take k) hs ∧ ∃ a b c d e : Sl, env = [.val (plD P), .val xT, .val (.lst (hs.map plD)), a, b, c, d, e]) ?_ ?_ _ _ _ ?_
  · rintro env m' ⟨rfl, k, hk, he, hs, hH, a, b, c, d, e, rfl⟩
    have : k = E.length := by
      have z := congrArg List.length he
      simp at z
      omega
    subst this
    rw [List.take_length] at hH
    have hn := hH.count hP.nd
    have hn2 := nc_le P E
    refine ⟨_, rfl, (sortH hs).map plD, ?_, q _ (hH.perm (List.mergeSort_perm _ _))⟩
    show (if sortOk (hs.map plD) then some (sortL (hs.map plD)) else none) = _
    rw [if_pos (sortOk_pl (by omega) fun x hx a ha => by have := hP.let8 a (hH.inP x hx a ha); omega), sort_pl]
  · rintro d ds env m' ⟨rfl, k, hk, he, hs, hH, a, b, c, dd, e, rfl⟩
    obtain ⟨h1, h2⟩ := drop_cons he
    rw [List.getElem?_map] at h1
    obtain ⟨p, hp, rfl⟩ := Option.map_eq_some_iff.mp h1
    have hpE := hE p (List.mem_of_getElem? hp)
    have hk' : k < E.length := (List.getElem?_eq_some_iff.mp hp).1
    have hn := hH.count hP.nd
    have hn2 := nc_le P (E.take k)
    have hfew := hP.few
    have hll := llv
    have f1 := hH.flat_le (met p.1 p.2)
    have lenS : hs.length ≤ LL := by omega
    refine ⟨_, rfl, fun K hK => ?_⟩
    -- joined
    refine ⟨_, rfl, _, rfl, by rw [List.length_map]; exact lenS, ?_⟩
    refine lcR_fm plD (met p.1 p.2) plD hs m' _ (fun x hx => ⟨_, rfl, fun m Q q => ?_, fun _ m Q q => ⟨_, rfl, q⟩⟩) ?_
    · refine ⟨_, rfl, _, rfl, _, in_c p.1 x, _, rfl, ?_⟩
      unfold met at q
      by_cases z : p.1 ∈ x
      · simp only [decide_eq_true z, Bool.true_or] at q ⊢
        exact q
      · simp only [decide_eq_false z, Bool.false_or] at q ⊢
        exact ⟨_, rfl, _, rfl, _, in_c p.2 x, _, rfl, q⟩
    -- whole
    refine ⟨rfl, rfl, _, rfl, _, joinD_pl (Nat.le_trans f1 hl), _, sorted_pl (Nat.le_trans f1 hl), plD (whole p.1 p.2 hs), ?_, ?_⟩
    · exact joinD_c1 _ (by rw [srt_len]; exact Nat.le_trans f1 hl)
    -- found
    refine ⟨_, rfl, by show 1 ≤ LL; omega, _, rfl, _, rfl, by rw [List.length_map]; exact lenS, ?_⟩
    refine lcR_fm plD (fun x => !met p.1 p.2 x) plD hs m' _ (fun x hx => ⟨_, rfl, fun m Q q => ⟨_, rfl, _, rfl, .bl (!met p.1 p.2 x), ?_, _, rfl, q⟩, fun _ m Q q => ⟨_, rfl, q⟩⟩) ?_
    · show (inB (plD x) (.lst ((hs.filter (met p.1 p.2)).map plD))).map _ = _
      rw [in_plL]
      show some (D.bl (!decide (x ∈ hs.filter (met p.1 p.2)))) = _
      congr 3
      cases z : met p.1 p.2 x with
      | true => exact decide_eq_true (List.mem_filter.mpr ⟨hx, z⟩)
      | false => exact decide_eq_false fun y => by rw [(List.mem_filter.mp y).2] at z; cases z
    have hst := hH.step hpE.1 hpE.2
    have etk : E.take (k + 1) = E.take k ++ [p] := by
      rw [List.take_succ_eq_append_getElem hk']
      congr 2
      exact (List.getElem?_eq_some_iff.mp hp).2
    refine ⟨.lst ((whole p.1 p.2 hs :: hs.filter fun x => !met p.1 p.2 x).map plD), ?_, hK _ _ ⟨rfl, k + 1, hk', h2, _, by rw [etk]; exact hst, _, _, _, _, _, rfl⟩⟩
    have f2 := List.length_filter_le (fun x => !met p.1 p.2 x) hs
    show (if _ then some (D.lst ([plD (whole p.1 p.2 hs)] ++ (hs.filter fun x => !met p.1 p.2 x).map plD)) else none) = _
    rw [if_pos (by show 1 + _ ≤ _; rw [List.length_map]; omega)]
    rfl
  · refine ⟨rfl, 0, Nat.zero_le _, rfl, P.map fun a => [a], Herds.start hP.nd, .no, .no, .no, .no, .no, ?_⟩
    rw [List.map_map]
    rfl
end T
namespace T
open PySem L2 G
/-! texts met, each once -/
theorem metS_ok (l : List Str) : (metS l).Nodup ∧ ∀ z, z ∈ metS l ↔ z ∈ l := by
  have : ∀ (l acc : List Str), acc.Nodup → (l.foldl (fun acc z => if acc.any (· == z) then acc else acc ++ [z]) acc).Nodup ∧ ∀ z, z ∈ l.foldl (fun acc z => if acc.any (· == z) then acc else acc ++ [z]) acc ↔ z ∈ acc ∨ z ∈ l := by
    intro l
    induction l with
    | nil => intro acc h; exact ⟨h, fun z => by simp⟩
    | cons y r ih =>
      intro acc h
      simp only [List.foldl_cons]
      by_cases q : acc.any (· == y) = true
      · rw [if_pos q]
        obtain ⟨h1, h2⟩ := ih acc h
        refine ⟨h1, fun z => ?_⟩
        rw [h2, List.mem_cons]
        obtain ⟨w, w1, w2⟩ := List.any_eq_true.mp q
        have : w = y := by simpa using w2
        subst this
        constructor
        · rintro (h | h); exact .inl h; exact .inr (.inr h)
        · rintro (h | rfl | h); exact .inl h; exact .inl w1; exact .inr h
      · rw [if_neg q]
        have nm : y ∉ acc := fun z => q (List.any_eq_true.mpr ⟨y, z, by simp⟩)
        obtain ⟨h1, h2⟩ := ih (acc ++ [y]) (by
          rw [List.nodup_append]
          refine ⟨h, List.nodup_cons.mpr ⟨by simp, List.nodup_nil⟩, fun a ha b hb => ?_⟩
          rw [List.mem_singleton] at hb
          subst hb
          intro e; subst e; exact nm ha)
        refine ⟨h1, fun z => ?_⟩
        rw [h2, List.mem_append, List.mem_singleton, List.mem_cons]
        constructor
        · rintro ((h | h) | h); exact .inl h; exact .inr (.inl h); exact .inr (.inr h)
        · rintro (h | h | h); exact .inl (.inl h); exact .inl (.inr h); exact .inr h
  obtain ⟨h1, h2⟩ := this l [] List.nodup_nil
  exact ⟨h1, fun z => (h2 z).trans (by simp)⟩
/-! heads -/
def hdK (P : List Nat) (h : Nat → Nat) : List (Key × D) := P.map fun a => (.inr (c1 a), .str (c1 (h a)))
theorem hd_get {P : List Nat} {h : Nat → Nat} {a : Nat} (ha : a ∈ P) : kvGet (hdK P h) (.inr (c1 a)) = some (.str (c1 (h a))) := by
  unfold kvGet hdK
  induction P with
  | nil => cases ha
  | cons b r ih =>
    rw [List.map_cons, List.find?_cons]
    by_cases e : b = a
    · subst e; simp
    · have ne : ¬ (Sum.inr (c1 b) : Key) = .inr (c1 a) := fun z => e (c1_inj (Sum.inr.inj z))
      rw [decide_eq_false ne]
      exact ih (by rcases List.mem_cons.mp ha with z | z; exact absurd z.symm e; exact z)
theorem hd_put {P : List Nat} {h : Nat → Nat} {a b : Nat} (ha : a ∈ P) : kvPut (hdK P h) (.inr (c1 a)) (.str (c1 b)) = hdK P fun x => if x = a then b else h x := by
  unfold kvPut
  rw [if_pos]
  · unfold hdK
    rw [List.map_map]
    refine List.map_congr_left fun x _ => ?_
    show (if (Sum.inr (c1 x) : Key) = .inr (c1 a) then _ else _) = _
    by_cases e : x = a
    · subst e; rw [if_pos rfl]; simp
    · rw [if_neg fun z => e (c1_inj (Sum.inr.inj z))]; simp [e]
  · rw [List.any_eq_true]
    exact ⟨_, List.mem_map.mpr ⟨a, ha, rfl⟩, by simp⟩
theorem hd_start {P : List Nat} (nd : P.Nodup) : kvMerge [] (P.map fun a => ((.inr (c1 a) : Key), D.str (c1 a))) = hdK P id := by
  have : ∀ (r : List Nat) (l : List Nat), (l ++ r).Nodup → kvMerge (l.map fun a => ((.inr (c1 a) : Key), D.str (c1 a))) (r.map fun a => ((.inr (c1 a) : Key), D.str (c1 a))) = (l ++ r).map fun a => ((.inr (c1 a) : Key), D.str (c1 a)) := by
    intro r
    induction r with
    | nil => intro l _; rw [List.append_nil]; rfl
    | cons b r ih =>
      intro l h
      have e : kvPut (l.map fun a => ((.inr (c1 a) : Key), D.str (c1 a))) (.inr (c1 b)) (.str (c1 b)) = (l ++ [b]).map fun a => ((.inr (c1 a) : Key), D.str (c1 a)) := by
        unfold kvPut
        rw [if_neg, List.map_append]
        · rfl
        · intro z
          obtain ⟨x, hx, hz⟩ := List.any_eq_true.mp z
          obtain ⟨y, hy, rfl⟩ := List.mem_map.mp hx
          have : y = b := c1_inj (Sum.inr.inj (of_decide_eq_true hz))
          subst this
          exact (List.nodup_append.mp h).2.2 y hy y (by simp) rfl
      have e2 : l ++ b :: r = (l ++ [b]) ++ r := by simp
      rw [e2] at h ⊢
      have := ih (l ++ [b]) h
      rw [← e] at this
      exact this
  exact this P [] (by simpa using nd)
structure HdOk (P : List Nat) (E : List (Nat × Nat)) (h : Nat → Nat) : Prop where
  iff : ∀ a ∈ P, ∀ b ∈ P, h a = h b ↔ Conn E a b
theorem HdOk.start {P : List Nat} : HdOk P [] id := ⟨fun a _ b _ => ⟨fun e => by have e' : a = b := e; rw [e']; exact .refl _, fun c => c.nil⟩⟩
theorem HdOk.step {P : List Nat} {E : List (Nat × Nat)} {h : Nat → Nat} {u v : Nat} (H : HdOk P E h) (hu : u ∈ P) (hv : v ∈ P) : HdOk P (E ++ [(u, v)]) fun x => if h x = max (h u) (h v) then min (h u) (h v) else h x := by
  refine ⟨fun a ha b hb => ?_⟩
  have k1 := H.iff a ha b hb
  have k2 := H.iff a ha u hu
  have k3 := H.iff v hv b hb
  have k4 := H.iff a ha v hv
  have k5 := H.iff u hu b hb
  have cc : Conn (E ++ [(u, v)]) a b ↔ h a = h b ∨ (h a = h u ∧ h v = h b) ∨ (h a = h v ∧ h u = h b) := by
    rw [k1, k2, k3, k4, k5]
    exact ⟨conn_add, conn_of_add⟩
  rw [cc]
  show (if h a = max (h u) (h v) then min (h u) (h v) else h a) = (if h b = max (h u) (h v) then min (h u) (h v) else h b) ↔ _
  rcases Nat.le_total (h u) (h v) with le | le
  · rw [Nat.max_eq_right le, Nat.min_eq_left le]
    constructor
    · intro e; split at e <;> split at e <;> omega
    · intro e; split <;> split <;> omega
  · rw [Nat.max_eq_left le, Nat.min_eq_right le]
    constructor
    · intro e; split at e <;> split at e <;> omega
    · intro e; split <;> split <;> omega
theorem min_c (a b : Nat) : minD2 [.str (c1 a), .str (c1 b)] = some (.str (c1 (min a b))) := by
  show some (D.str (if sLt (c1 b) (c1 a) then c1 b else c1 a)) = _
  rw [sLt_c1]
  by_cases h : b < a
  · rw [decide_eq_true h, if_pos rfl, Nat.min_eq_right (by omega)]
  · rw [decide_eq_false h, if_neg (by decide), Nat.min_eq_left (by omega)]
theorem max_c (a b : Nat) : maxD2 [.str (c1 a), .str (c1 b)] = some (.str (c1 (max a b))) := by
  show some (D.str (if sLt (c1 a) (c1 b) then c1 b else c1 a)) = _
  rw [sLt_c1]
  by_cases h : a < b
  · rw [decide_eq_true h, if_pos rfl, Nat.max_eq_right (by omega)]
  · rw [decide_eq_false h, if_neg (by decide), Nat.max_eq_left (by omega)]
theorem dix_c {P : List Nat} {h : Nat → Nat} {a : Nat} (ha : a ∈ P) : dixD (.dic (hdK P h)) (.str (c1 a)) = some (.str (c1 (h a))) := by
  show (kvGet (hdK P h) (.inr (c1 a))) = _
  exact hd_get ha
theorem eq_c (a b : Nat) : eqD (.str (c1 a)) (.str (c1 b)) = some (.bl (decide (a = b))) := by rw [eqD_str, c1_eq]
theorem prs_c (P : List Nat) : prs (P.map fun a => D.tup [.str (c1 a), .str (c1 a)]) = some (P.map fun a => ((.inr (c1 a) : Key), D.str (c1 a))) := by
  induction P with
  | nil => rfl
  | cons a r ih =>
    rw [List.map_cons]
    unfold prs
    rw [ih]
    rfl
theorem src_ties {E : List (Nat × Nat)} {x : D} (h : x = .lst (E.map wayD) ∨ x = .tup (E.map wayD)) : srcD x = some (E.map wayD) := by rcases h with rfl | rfl <;> rfl
theorem law_law_rank : ∀ as m Q, S_law_rank as m Q → d_law_rank (padn n_law_rank as) m (fin Q) := by
  rintro as m Q ⟨P, E, x, hP, hE, h100, hx, rfl, q⟩
  have hl := len7 hP
  have hfew := hP.few
  have hll := llv
  refine ⟨_, rfl, _, rfl, by rw [chars_plS, List.length_map]; exact hl, ?_⟩
  rw [chars_plS]
  refine lcR_m (fun a => D.str (c1 a)) (fun a => D.tup [.str (c1 a), .str (c1 a)]) P m _ (fun a _ => ⟨_, rfl, fun m Q q => ⟨_, rfl, _, rfl, by show 2 ≤ LL; omega, q⟩⟩) ?_
  refine ⟨_, _, rfl, prs_c P, _, rfl, _, src_ties hx, ?_⟩
  rw [hd_start hP.nd]
  refine forR_ind (fun its env m' => m' = m ∧ ∃ k, k ≤ E.length ∧ its = (E.map wayD).drop k ∧ ∃ h, HdOk P (E.take k) h ∧ ∃ a b c d : Sl, env = [.val (plD P), .val x, a, .ow (.dic (hdK P h)), b, c, d]) ?_ ?_ _ _ _ ⟨rfl, 0, Nat.zero_le _, rfl, id, HdOk.start, .no, .no, .no, .no, rfl⟩
  · rintro env m' ⟨rfl, k, hk, he, h, hH, a, b, c, d, rfl⟩
    have : k = E.length := by
      have z := congrArg List.length he
      simp at z
      omega
    subst this
    rw [List.take_length] at hH
    refine ⟨_, rfl, _, len_pl hl, _, rfl, _, rfl, by rw [chars_plS, List.length_map]; exact hl, ?_⟩
    rw [chars_plS]
    refine lcR_m (fun a => D.str (c1 a)) (fun a => D.str (c1 (h a))) P m' _ (fun a ha => ⟨_, rfl, fun m Q q => ⟨_, rfl, _, rfl, _, dix_c ha, q⟩⟩) ?_
    refine ⟨_, P.map fun a => c1 (h a), rfl, ?_, by rw [List.length_map]; omega, _, rfl, ?_⟩
    · rw [← strsE_map, List.map_map]; rfl
    · obtain ⟨n1, n2⟩ := metS_ok (P.map fun a => c1 (h a))
      have e1 : (metS (P.map fun a => c1 (h a))).length = nc P E := nc_of hP.nd (fun a => c1 (h a)) (fun a ha b hb => ⟨fun e => (hH.iff a ha b hb).mp (c1_inj e), fun c => by rw [(hH.iff a ha b hb).mpr c]⟩) n1 fun z => by
        rw [n2, List.mem_map]
      have e2 := nc_le P E
      have e3 : ((P.length : Nat) : Int) - ((metS (P.map fun a => c1 (h a))).length : Nat) = (rk P E : Nat) := by unfold rk; omega
      show Q (.int (((P.length : Nat) : Int) - ((metS (P.map fun a => c1 (h a))).length : Nat))) m'
      rw [e3]; exact q
  · rintro d ds env m' ⟨rfl, k, hk, he, h, hH, a, b, c, dd, rfl⟩
    obtain ⟨h1, h2⟩ := drop_cons he
    rw [List.getElem?_map] at h1
    obtain ⟨p, hp, rfl⟩ := Option.map_eq_some_iff.mp h1
    have hpE := hE p (List.mem_of_getElem? hp)
    have hk' : k < E.length := (List.getElem?_eq_some_iff.mp hp).1
    refine ⟨_, rfl, fun K hK => ?_⟩
    refine ⟨_, rfl, _, rfl, _, ix_t0 p, _, dix_c hpE.1, _, rfl, _, rfl, _, ix_t1 p, _, dix_c hpE.2, _, min_c _ _, _, rfl, _, rfl, _, ix_t0 p, _, dix_c hpE.1, _, rfl, _, rfl, _, ix_t1 p, _, dix_c hpE.2, _, max_c _ _, _, _, rfl, ?_⟩
    refine ⟨_, rfl, _, rfl, ?_⟩
    rw [chars_plS]
    generalize hlo : min (h p.1) (h p.2) = lo
    generalize hhi : max (h p.1) (h p.2) = hi
    refine forR_ind (fun its env m2 => m2 = m' ∧ ∃ j, j ≤ P.length ∧ its = (P.map fun a => D.str (c1 a)).drop j ∧ ∃ a : Sl, env = [.val (plD P), .val x, a, .ow (.dic (hdK P fun y => if y ∈ P.take j ∧ h y = hi then lo else h y)), .val (wayD p), .val (.str (c1 lo)), .val (.str (c1 hi))]) ?_ ?_ _ _ _ ⟨rfl, 0, Nat.zero_le _, rfl, a, ?_⟩
    · rintro env m2 ⟨rfl, j, hj, hjd, a2, rfl⟩
      have : j = P.length := by
        have z := congrArg List.length hjd
        simp at z
        omega
      subst this
      have etk : E.take (k + 1) = E.take k ++ [p] := by
        rw [List.take_succ_eq_append_getElem hk']
        congr 2
        exact (List.getElem?_eq_some_iff.mp hp).2
      have hst := hH.step hpE.1 hpE.2
      refine hK _ _ ⟨rfl, k + 1, hk', h2, _, by rw [etk]; exact hst, a2, .val (wayD p), .val (.str (c1 lo)), .val (.str (c1 hi)), ?_⟩
      have ek : hdK P (fun y => if y ∈ P.take P.length ∧ h y = hi then lo else h y) = hdK P fun y => if h y = max (h p.1) (h p.2) then min (h p.1) (h p.2) else h y := by
        unfold hdK
        refine List.map_congr_left fun y hy => ?_
        rw [List.take_length, hlo, hhi]
        simp [hy]
      rw [ek]
    · rintro d ds env m2 ⟨rfl, j, hj, hjd, a2, rfl⟩
      obtain ⟨g1, g2⟩ := drop_cons hjd
      rw [List.getElem?_map] at g1
      obtain ⟨y, hy, rfl⟩ := Option.map_eq_some_iff.mp g1
      have hyP : y ∈ P := List.mem_of_getElem? hy
      have hj' : j < P.length := (List.getElem?_eq_some_iff.mp hy).1
      have etk : P.take (j + 1) = P.take j ++ [y] := by
        rw [List.take_succ_eq_append_getElem hj']
        congr 2
        exact (List.getElem?_eq_some_iff.mp hy).2
      have ny : y ∉ P.take j := fun z => by
        have nd := hP.nd
        rw [← List.take_append_drop (j + 1) P, etk] at nd
        have := (List.nodup_append.mp (List.nodup_append.mp nd).1).2.2 y z y (by simp)
        exact this rfl
      refine ⟨_, rfl, fun K2 hK2 => ⟨_, rfl, _, rfl, _, dix_c hyP, _, rfl, _, eq_c _ _, _, rfl, ?_⟩⟩
      have e0 : (if y ∈ P.take j ∧ h y = hi then lo else h y) = h y := by rw [if_neg fun z => ny z.1]
      by_cases e : h y = hi
      · have e1 : decide ((if y ∈ P.take j ∧ h y = hi then lo else h y) = hi) = true := by rw [e0]; exact decide_eq_true e
        rw [e1]
        refine ⟨_, rfl, _, rfl, _, rfl, _, rfl, by unfold hdK; rw [List.length_map]; omega, ?_⟩
        rw [hd_put hyP]
        refine hK2 _ _ ⟨rfl, j + 1, hj', g2, .val (.str (c1 y)), ?_⟩
        have ek : hdK P (fun z => if z = y then lo else if z ∈ P.take j ∧ h z = hi then lo else h z) = hdK P fun z => if z ∈ P.take (j + 1) ∧ h z = hi then lo else h z := by
          unfold hdK
          refine List.map_congr_left fun z hz => ?_
          rw [etk]
          by_cases q : z = y
          · subst q; simp [e]
          · simp [q]
        rw [ek]; rfl
      · have e1 : decide ((if y ∈ P.take j ∧ h y = hi then lo else h y) = hi) = false := by rw [e0]; exact decide_eq_false e
        rw [e1]
        refine hK2 _ _ ⟨rfl, j + 1, hj', g2, .val (.str (c1 y)), ?_⟩
        have ek : hdK P (fun z => if z ∈ P.take j ∧ h z = hi then lo else h z) = hdK P fun z => if z ∈ P.take (j + 1) ∧ h z = hi then lo else h z := by
          unfold hdK
          refine List.map_congr_left fun z hz => ?_
          rw [etk]
          by_cases q : z = y
          · subst q; simp [e]
          · simp [q]
        rw [ek]; rfl
    · have ek : hdK P (fun y => if y ∈ P.take 0 ∧ h y = hi then lo else h y) = hdK P h := by
        unfold hdK
        refine List.map_congr_left fun y hy => ?_
        simp
      rw [ek, ← hlo, ← hhi]; rfl
end T
namespace T
open PySem L2 G
/-! all lots -/
theorem gen_len : ∀ n, (gen n).length = 2 ^ n
  | 0 => rfl
  | n + 1 => by
    unfold gen
    rw [List.length_append, List.length_map, gen_len n, Nat.pow_succ]; omega
theorem gen_head : ∀ n, ∃ r, gen n = [] :: r
  | 0 => ⟨[], rfl⟩
  | n + 1 => by
    obtain ⟨r, h⟩ := gen_head n
    unfold gen
    rw [h]
    exact ⟨_, rfl⟩
theorem gen_mem : ∀ {n : Nat} {L : List Nat}, L ∈ gen n ↔ Lot n L
  | 0, L => by
    unfold gen
    rw [List.mem_singleton]
    constructor
    · rintro rfl; exact ⟨List.Pairwise.nil, fun i hi => by cases hi⟩
    · intro h
      cases L with
      | nil => rfl
      | cons a r => exact absurd (h.inb a (by simp)) (by omega)
  | n + 1, L => by
    unfold gen
    rw [List.mem_append, List.mem_map]
    constructor
    · rintro (h | ⟨l, h, rfl⟩)
      · have := gen_mem.mp h
        exact ⟨this.inc, fun i hi => by have := this.inb i hi; omega⟩
      · have := gen_mem.mp h
        refine ⟨List.pairwise_append.mpr ⟨this.inc, List.pairwise_singleton _ _, fun a ha b hb => ?_⟩, fun i hi => ?_⟩
        · rw [List.mem_singleton] at hb; subst hb; exact this.inb a ha
        · rcases List.mem_append.mp hi with z | z
          · have := this.inb i z; omega
          · rw [List.mem_singleton] at z; omega
    · intro h
      rcases List.eq_nil_or_concat L with rfl | ⟨l, a, rfl⟩
      · exact .inl (gen_mem.mpr ⟨List.Pairwise.nil, fun i hi => by cases hi⟩)
      · rw [List.concat_eq_append] at h ⊢
        obtain ⟨h1, h2, h3⟩ := List.pairwise_append.mp h.inc
        have ha := h.inb a (by simp)
        by_cases e : a = n
        · subst e
          exact .inr ⟨l, gen_mem.mpr ⟨h1, fun i hi => h3 i hi a (by simp)⟩, rfl⟩
        · refine .inl (gen_mem.mpr ⟨h.inc, fun i hi => ?_⟩)
          rcases List.mem_append.mp hi with z | z
          · have := h3 i z a (by simp); omega
          · rw [List.mem_singleton] at z; omega
theorem lots_mem {n : Nat} {L : List Nat} : L ∈ lots n ↔ Lot n L := by
  unfold lots
  rw [(List.mergeSort_perm _ _).mem_iff, gen_mem]
theorem lots_len (n : Nat) : (lots n).length = 2 ^ n := by unfold lots; rw [List.length_mergeSort, gen_len]
theorem sort_lots (n : Nat) : sortL ((gen n).map lotD) = (lots n).map lotD := by
  unfold sortL lots
  exact (List.map_mergeSort (r := fun a b => !D.lt (lotD b) (lotD a)) (s := fun a b : D => !D.lt b a) (f := lotD) (l := gen n) (fun a _ b _ => rfl)).symm
theorem okd_lot (L : List Nat) : (lotD L).okd 60 = true := by
  show (D.tup (L.map natD)).okd 60 = true
  unfold D.okd
  rw [okdL_nat]; rfl
theorem alike_lot (A B : List Nat) : PySem.W.alike (lotD A).py (lotD B).py = true := by
  show PySem.W.alike (D.tup (A.map natD)).py (D.tup (B.map natD)).py = true
  simp only [D.py, PySem.W.alike]
  rw [pyL_map, pyL_map, List.map_map, List.map_map]
  have := PySem.W.alike_ints (A.map fun i => ((i : Nat) : Int)) (B.map fun i => ((i : Nat) : Int))
  rw [List.map_map, List.map_map] at this
  have e : D.py ∘ natD = PyData.int ∘ fun i => ((i : Nat) : Int) := by
    funext i
    show (D.int ((i : Nat) : Int)).py = _
    simp only [D.py]
    rfl
  rw [e]
  exact this
theorem sortOk0_lots {n : Nat} (h : n ≤ 11) : sortOk0 ((gen n).map lotD) = true := by
  unfold sortOk0
  simp only [Bool.and_eq_true, decide_eq_true_eq]
  refine ⟨⟨⟨⟨?_, ?_⟩, ?_⟩, ?_⟩, ?_⟩
  · unfold alikeL
    rw [List.all_eq_true]
    intro a ha
    rw [List.all_eq_true]
    intro b hb
    obtain ⟨i, _, rfl⟩ := List.mem_map.mp ha
    obtain ⟨j, _, rfl⟩ := List.mem_map.mp hb
    exact alike_lot i j
  · rw [List.all_eq_true]
    intro a ha
    obtain ⟨i, _, rfl⟩ := List.mem_map.mp ha
    rfl
  · obtain ⟨r, hr⟩ := gen_head n
    rw [hr]; rfl
  · rw [List.all_eq_true]
    intro a ha
    obtain ⟨i, _, rfl⟩ := List.mem_map.mp ha
    exact okd_lot i
  · rw [List.length_map, gen_len]
    have : 2 ^ n ≤ 2 ^ 11 := Nat.pow_le_pow_right (by decide) h
    have := llv
    omega
theorem law_law_lots : ∀ as m Q, S_law_lots as m Q → d_law_lots (padn n_law_lots as) m (fin Q) := by
  rintro as m Q ⟨n, hn, rfl, q⟩
  have hll := llv
  refine ⟨by show 0 ≤ LL; omega, by show 1 ≤ LL; omega, _, rfl, (n : Nat), rfl, by omega, by omega, ?_⟩
  rw [natD_map]
  refine forR_ind (fun its env m' => m' = m ∧ ∃ k, k ≤ n ∧ its = ((List.range n).map natD).drop k ∧ ∃ x y : Sl, env = [.val (natD n), .val (.lst ((gen k).map lotD)), x, y]) ?_ ?_ _ _ _ ⟨rfl, 0, Nat.zero_le _, rfl, .no, .no, rfl⟩
  · rintro env m' ⟨rfl, k, hk, he, x, y, rfl⟩
    have : k = n := by
      have z := congrArg List.length he
      simp at z
      omega
    subst this
    refine ⟨_, rfl, (lots k).map lotD, ?_, q⟩
    show (if sortOk0 ((gen k).map lotD) then some (sortL ((gen k).map lotD)) else none) = _
    rw [if_pos (sortOk0_lots hn), sort_lots]
  · rintro d ds env m' ⟨rfl, k, hk, he, x, y, rfl⟩
    obtain ⟨h1, h2⟩ := drop_cons he
    have hk' : k < n := by
      have := (List.getElem?_eq_some_iff.mp h1).1
      simpa using this
    have hd : d = natD k := by
      rw [List.getElem?_map, List.getElem?_range hk'] at h1
      exact (Option.some.inj h1).symm
    subst hd
    have hp : 2 ^ k ≤ 2 ^ 11 := Nat.pow_le_pow_right (by decide) (by omega)
    refine ⟨_, rfl, fun K hK => ?_⟩
    refine ⟨_, rfl, _, rfl, _, rfl, by rw [List.length_map, gen_len]; omega, ?_⟩
    refine lcR_m lotD (fun l => lotD (l ++ [k])) (gen k) m' _ (fun l hl => ⟨_, rfl, fun m Q q => ⟨_, rfl, _, rfl, by show 1 ≤ LL; omega, lotD (l ++ [k]), ?_, q⟩⟩) ?_
    · have := (gen_mem.mp hl).few
      show (if _ then some (D.tup (l.map natD ++ [natD k])) else none) = _
      rw [if_pos (by rw [List.length_map]; show l.length + 1 ≤ _; omega)]
      unfold lotD
      rw [List.map_append]; rfl
    · refine ⟨.lst ((gen (k + 1)).map lotD), ?_, hK _ _ ⟨rfl, k + 1, hk', h2, .val (natD k), y, rfl⟩⟩
      show (if _ then some (D.lst ((gen k).map lotD ++ (gen k).map fun l => lotD (l ++ [k]))) else none) = _
      rw [if_pos (by rw [List.length_map, List.length_map, gen_len]; omega)]
      rw [show gen (k + 1) = gen k ++ (gen k).map fun l => l ++ [k] from rfl, List.map_append, List.map_map]; rfl
theorem pair_ite {α : Type} {b : Bool} {x y : α} : (if b = true then x else y) = cond b x y := by cases b <;> rfl
open Classical in
theorem mem_trees {P : List Nat} {T : List (Nat × Nat)} {L : List Nat} : L ∈ trees P T ↔ Tree P T L := by
  unfold trees
  rw [List.mem_filter, lots_mem]
  exact ⟨fun h => of_decide_eq_true h.2, fun h => ⟨h.lot, decide_eq_true h⟩⟩
theorem eq_nat_t {a b : Nat} (h : a = b) : eqD (natD a) (natD b) = some (.bl true) := by rw [eq_nat, decide_eq_true h]
theorem eq_nat_f {a b : Nat} (h : a ≠ b) : eqD (natD a) (natD b) = some (.bl false) := by rw [eq_nat, decide_eq_false h]
open Classical in
theorem law_law_trees : ∀ as m Q, S_law_trees as m Q → d_law_trees (padn n_law_trees as) m (fin Q) := by
  rintro as m Q ⟨P, T, hW, rfl, q⟩
  have hll := llv
  have h11 := hW.few
  refine ⟨_, rfl, _, rfl, P, T, _, hW.pl, hW.ok, by omega, .inr rfl, rfl, by show 0 ≤ LL; omega, rfl, _, rfl, _, len_tup wayD T, T.length, h11, rfl, _, rfl, ?_⟩
  refine forR_ind (fun its env m' => m' = m ∧ ∃ k, k ≤ (lots T.length).length ∧ its = ((lots T.length).map lotD).drop k ∧ ∃ x y : Sl, env = [.val (plD P), .val (.tup (T.map wayD)), .val (natD (rk P T)), .own ((((lots T.length).take k).filter fun L => decide (Tree P T L)).map lotD), x, y]) ?_ ?_ _ _ _ ⟨rfl, 0, Nat.zero_le _, rfl, .no, .no, rfl⟩
  · rintro env m' ⟨rfl, k, hk, he, x, y, rfl⟩
    have : k = (lots T.length).length := by
      have z := congrArg List.length he
      simp at z
      omega
    subst this
    rw [List.take_length]
    exact ⟨_, rfl, q⟩
  · rintro d ds env m' ⟨rfl, k, hk, he, x, y, rfl⟩
    obtain ⟨h1, h2⟩ := drop_cons he
    rw [List.getElem?_map] at h1
    obtain ⟨L, hL, rfl⟩ := Option.map_eq_some_iff.mp h1
    have hk' : k < (lots T.length).length := (List.getElem?_eq_some_iff.mp hL).1
    have lot := lots_mem.mp (List.mem_of_getElem? hL)
    have hfew := lot.few
    have etk : (lots T.length).take (k + 1) = (lots T.length).take k ++ [L] := by
      rw [List.take_succ_eq_append_getElem hk']
      congr 2
      exact (List.getElem?_eq_some_iff.mp hL).2
    refine ⟨_, rfl, fun K hK => ?_⟩
    have yes : Tree P T L → K [.val (plD P), .val (.tup (T.map wayD)), .val (natD (rk P T)), .own ((((lots T.length).take k).filter fun L => decide (Tree P T L)).map lotD ++ [lotD L]), .val (lotD L), y] m' := fun e => by
      refine hK _ _ ⟨rfl, k + 1, hk', h2, .val (lotD L), y, ?_⟩
      have z : [L].filter (fun j => decide (Tree P T j)) = [L] := by simp [e]
      rw [etk, List.filter_append, z, List.map_append]; rfl
    have no : ¬ Tree P T L → K [.val (plD P), .val (.tup (T.map wayD)), .val (natD (rk P T)), .own ((((lots T.length).take k).filter fun L => decide (Tree P T L)).map lotD), .val (lotD L), y] m' := fun e => by
      refine hK _ _ ⟨rfl, k + 1, hk', h2, .val (lotD L), y, ?_⟩
      have z : [L].filter (fun j => decide (Tree P T j)) = [] := by simp [e]
      rw [etk, List.filter_append, z, List.append_nil]
    by_cases e1 : L.length = rk P T
    · refine ⟨_, rfl, _, len_tup natD L, _, rfl, _, eq_nat_t e1, true, rfl, _, rfl, _, rfl, _, rfl, by rw [List.length_map]; omega, ?_⟩
      refine lcR_m natD (fun i => wayD (T.getD i (0, 0))) L m' _ (fun i hi => ⟨_, rfl, fun m Q q => ⟨_, rfl, _, rfl, _, ix_ties (lot.inb i hi), q⟩⟩) ?_
      refine ⟨P, tl T L, _, hW.pl, tl_ok hW.ok lot.inb, by rw [tl_len]; omega, .inl (by unfold tl; rw [List.map_map]; rfl), rfl, ?_⟩
      by_cases e2 : rk P (tl T L) = rk P T
      · refine ⟨_, rfl, _, eq_nat_t e2, true, rfl, _, rfl, _, rfl, ?_, yes ⟨lot, e1, e2⟩⟩
        rw [List.length_map]
        have z1 := List.length_filter_le (fun L => decide (Tree P T L)) ((lots T.length).take k)
        rw [List.length_take, lots_len] at z1
        have z2 : 2 ^ T.length ≤ 2 ^ 11 := Nat.pow_le_pow_right (by decide) h11
        omega
      · exact ⟨_, rfl, _, eq_nat_f e2, false, rfl, no fun t => e2 t.full⟩
    · exact ⟨_, rfl, _, len_tup natD L, _, rfl, _, eq_nat_f e1, false, rfl, no fun t => e1 t.size⟩
theorem law_law_any : ∀ as m Q, S_law_any as m Q → d_law_any (padn n_law_any as) m (fin Q) := by
  rintro as m Q (⟨P, hne, h100, rfl, q⟩ | ⟨Ls, hne, hlen, rfl, q⟩)
  · have hl : P.length ≤ LL := by have := llv; omega
    have hpos : 0 < P.length := List.length_pos_iff.mpr hne
    refine ⟨_, rfl, _, rfl, .inl rfl, _, rfl, _, len_pl hl, (P.length : Int), by omega, by omega, rfl, fun d hd => ?_⟩
    have hd' : d < P.length := by omega
    exact ⟨_, ix_pl hl (List.getElem?_eq_getElem hd'), q _ (List.getElem_mem hd')⟩
  · have hpos : 0 < Ls.length := List.length_pos_iff.mpr hne
    have hll := llv
    refine ⟨_, rfl, _, rfl, .inl rfl, _, rfl, _, rfl, (Ls.length : Int), by omega, by omega, rfl, fun d hd => ?_⟩
    have hd' : d < Ls.length := by omega
    refine ⟨Ls[d], ?_, q _ (List.getElem_mem hd')⟩
    show atI Ls (d : Int) = _
    exact atI_nat (List.getElem?_eq_getElem hd')
end T
namespace T
open PySem L2 G
abbrev cD (x : Nat) : D := .str (c1 x)
theorem erase_map {α β : Type} (f : α → β) : ∀ (l : List α) (k : Nat), (l.map f).eraseIdx k = (l.eraseIdx k).map f
  | [], _ => rfl
  | _ :: _, 0 => rfl
  | a :: r, k + 1 => by simp [erase_map f r k]
theorem erase_perm : ∀ (l : List Nat) (k : Nat) (x : Nat), l[k]? = some x → (x :: l.eraseIdx k).Perm l
  | [], _, _, h => by simp at h
  | a :: r, 0, x, h => by simp at h; subst h; exact .refl _
  | a :: r, k + 1, x, h => by
    have := erase_perm r k x (by simpa using h)
    simp only [List.eraseIdx_cons_succ]
    exact (List.Perm.swap a x _).trans (this.cons a)
theorem letters_chars : charsD (Str.ofString "abcdefgh") = [97, 98, 99, 100, 101, 102, 103, 104].map cD := by
  have e : (Str.ofString "abcdefgh") = plS [97, 98, 99, 100, 101, 102, 103, 104] := by decide +kernel
  rw [e]; rfl
theorem sortOk_c1 {l : List Nat} (h : l.length ≤ LL) (hs : ∀ a ∈ l, a < 1000) : sortOk (l.map cD) = true := by
  have h0 : alikeL (l.map cD) = true := by
    unfold alikeL
    rw [List.all_map]
    refine List.all_eq_true.mpr fun a _ => ?_
    show (l.map cD).all _ = true
    rw [List.all_map]
    exact List.all_eq_true.mpr fun b _ => rfl
  have h1 : (l.map cD).all D.noT = true := by rw [List.all_map]; exact List.all_eq_true.mpr fun _ _ => rfl
  have h2 : (l.map cD).all (·.okd 60) = true := by
    rw [List.all_map]
    refine List.all_eq_true.mpr fun a ha => ?_
    show PyData.strOk (c1 a) = true
    have := hs a ha
    unfold PyData.strOk c1
    simp
    omega
  unfold sortOk
  rw [h0, h1, h2, List.length_map, decide_eq_true h, Bool.or_true]; rfl
theorem sorted_c1 {l : List Nat} (h : l.length ≤ LL) (hs : ∀ a ∈ l, a < 1000) : sortedD [.lst (l.map cD)] = some ((srt l).map cD) := by
  show (if sortOk (l.map cD) then some (sortL (l.map cD)) else none) = _
  rw [if_pos (sortOk_c1 h hs)]
  congr 1
  unfold sortL srt
  refine (List.map_mergeSort fun a _ b _ => ?_).symm
  show decide (a ≤ b) = !D.lt (.str (c1 b)) (.str (c1 a))
  rw [lt_c1]
  by_cases h : a ≤ b
  · rw [decide_eq_true h, decide_eq_false (by omega)]; rfl
  · rw [decide_eq_false h, decide_eq_true (by omega)]; rfl
theorem add_c1 (a b : Nat) : addD (cD a) (cD b) = some (wayD (a, b)) := by
  show (if (c1 a).length + (c1 b).length ≤ LL then some (D.str (c1 a ++ c1 b)) else none) = _
  have h : (c1 a).length + (c1 b).length ≤ LL := (by decide : 2 ≤ LL)
  rw [if_pos h]
  rfl

theorem tie_mk {P : List Nat} {a b : Nat} (ha : a ∈ P) (hb : b ∈ P) : min a b ∈ P ∧ max a b ∈ P ∧ min a b ≤ max a b := by
  rcases Nat.le_total a b with h | h
  · rw [Nat.min_eq_left h, Nat.max_eq_right h]; exact ⟨ha, hb, h⟩
  · rw [Nat.min_eq_right h, Nat.max_eq_left h]; exact ⟨hb, ha, h⟩
theorem law_law_parts : ∀ as m Q, S_law_parts as m Q → d_law_parts (padn n_law_parts as) m (fin Q) := by
  rintro as m Q ⟨rfl, q⟩
  have hll := llv
  have el : listD [.str "abcdefgh"] = some ([97, 98, 99, 100, 101, 102, 103, 104].map cD) := by
    show (if (Str.ofString "abcdefgh").length ≤ LL then some (charsD (Str.ofString "abcdefgh")) else none) = _
    rw [letters_chars, if_pos (by decide +kernel)]
  refine ⟨_, el, by decide, by decide, rfl, ?_⟩
  refine ⟨_, rfl, .inl rfl, _, rfl, 4, by decide, by decide, rfl, fun d1 hd1 => ?_⟩
  refine ⟨_, rfl, ((1 + d1 : Nat) : Int), by show D.int (1 + (d1 : Int)) = _; congr 1, by omega, by omega, ?_⟩
  refine forR_ind (fun its env m' => m' = m ∧ ∃ (left found : List Nat) (x6 : Sl), found.length + its.length = 1 + d1 ∧ (left ++ found).Perm [97, 98, 99, 100, 101, 102, 103, 104] ∧ env = [.cask, .val (.int 4), .val (.int 6), .own (left.map cD), .own (found.map cD), .own [], x6, .no, .no, .no, .no]) ?_ ?_ _ _ _
    ⟨rfl, [97, 98, 99, 100, 101, 102, 103, 104], [], .no, ?_, by simp, rfl⟩
  · rintro env m' ⟨rfl, left, found, x6, hlen, hp, rfl⟩
    simp at hlen
    have hin : ∀ a ∈ found, 97 ≤ a ∧ a ≤ 104 := fun a ha => by
      have := hp.mem_iff.mp (List.mem_append_right left ha)
      simp at this
      omega
    have hnd : found.Nodup := by
      have : (left ++ found).Nodup := hp.nodup_iff.mpr (by decide)
      exact (List.nodup_append.mp this).2.1
    have hPl : PlOk (srt found) := ⟨srt_inc hnd, fun a ha => hin a ((srt_perm found).mem_iff.mp ha), by rw [(srt_perm found).length_eq]; omega, by rw [(srt_perm found).length_eq]; omega⟩
    have hpl := (srt_perm found).length_eq
    have hsrt := sorted_c1 (l := found) (by omega) fun a ha => by have := hin a ha; omega
    generalize srt found = P at *
    have hL : P.length ≤ LL := Nat.le_trans hPl.few (by decide)
    have hne : P ≠ [] := List.length_pos_iff.mp hPl.pos
    have hpos := hPl.pos
    have hP4 : P.length ≤ 4 := by omega
    have hP100 : P.length ≤ 100 := by omega
    refine ⟨rfl, _, rfl, P.map cD, hsrt, .str (plS P), joinD_c1 P hL, ?_⟩
    -- the rest, from any ties
    have rest : ∀ (T0 : List (Nat × Nat)) (x10 : Sl), T0.length ≤ 3 → (∀ p ∈ T0, p.1 ∈ P ∧ p.2 ∈ P ∧ p.1 ≤ p.2) →
        (dSeq (dFor (dIRng (dCall S_law_dip (dConsC 0 (dConsA (dOp subD (dOp addD (dVarB 2) (dC (.int 1))) (dCallB lenD0 (dConsL (dVarB 5) dNilL))) dNilA)))) (tgN 6) (dSeq (dPar 8 9 (dConsL (dCall S_law_any (dConsC 0 (dConsA (dVar 7) dNilA))) (dConsL (dCall S_law_any (dConsC 0 (dConsA (dVar 7) dNilA))) dNilL)))
  (dSeq (dIf (dAnd (dTest (dOp eqD (dVarB 8) (dVarB 9))) (dTest (dOp gtD (dCall S_law_dip (dConsC 0 (dConsA (dC (.int 3)) dNilA))) (dC (.int 0))))) (dAsg 9 (dCall S_law_any (dConsC 0 (dConsA (dVar 7) dNilA)))) dNext)
  (dIns 5 (dCall S_law_dip (dConsC 0 (dConsA (dOp addD (dCallB lenD0 (dConsL (dVarB 5) dNilL)) (dC (.int 1))) dNilA))) (dOp addD (dCallB minD2 (dConsL (dVarB 8) (dConsL (dVarB 9) dNilL))) (dCallB maxD2 (dConsL (dVarB 8) (dConsL (dVarB 9) dNilL))))))))
  (dRet (dTup (dConsL (dVar 7) (dConsL (dCallB tupleD (dConsL (dVarB 5) dNilL)) dNilL))))) [.cask, .val (.int 4), .val (.int 6), .own (left.map cD), .own (found.map cD), .own (T0.map wayD), x6, .val (plD P), .no, .no, x10] m' (fin Q) := fun T0 x10 h3 hT0 => by
      refine ⟨_, rfl, .inl rfl, _, rfl, _, rfl, _, rfl, _, len_lst wayD T0, _, rfl, (7 - (T0.length : Nat) : Int), by omega, by omega, ?_, fun d2 hd2 => ?_⟩
      · rfl
      refine ⟨(d2 : Nat), rfl, by omega, by omega, ?_⟩
      rw [natD_map]
      refine forR_ind (fun its env m2 => m2 = m' ∧ ∃ (T : List (Nat × Nat)) (x6 x8 x9 : Sl), T.length + its.length = T0.length + d2 ∧ (∀ p ∈ T, p.1 ∈ P ∧ p.2 ∈ P ∧ p.1 ≤ p.2) ∧ env = [.cask, .val (.int 4), .val (.int 6), .own (left.map cD), .own (found.map cD), .own (T.map wayD), x6, .val (plD P), x8, x9, x10]) ?_ ?_ _ _ _
        ⟨rfl, T0, x6, .no, .no, by rw [List.length_map, List.length_range], hT0, rfl⟩
      · rintro env m2 ⟨rfl, T, x6', x8, x9, hlen', hT, rfl⟩
        simp at hlen'
        exact ⟨_, rfl, _, rfl, _, rfl, (by decide : 2 ≤ LL), q P T ⟨hPl, by omega, hT⟩ hP4 (by omega)⟩
      · rintro d ds env m2 ⟨rfl, T, x6', x8, x9, hlen', hT, rfl⟩
        rw [List.length_cons] at hlen'
        refine ⟨_, rfl, fun K hK => ?_⟩
        refine ⟨_, rfl, .inl rfl, _, rfl, .inl ⟨P, hne, hP100, rfl, fun a ha => ?_⟩⟩
        refine ⟨_, rfl, .inl rfl, _, rfl, .inl ⟨P, hne, hP100, rfl, fun b hb => ?_⟩⟩
        refine ⟨_, _, rfl, ?_⟩
        have fin' : ∀ (b' : Nat), b' ∈ P → dIns 5 (dCall S_law_dip (dConsC 0 (dConsA (dOp addD (dCallB lenD0 (dConsL (dVarB 5) dNilL)) (dC (.int 1))) dNilA))) (dOp addD (dCallB minD2 (dConsL (dVarB 8) (dConsL (dVarB 9) dNilL))) (dCallB maxD2 (dConsL (dVarB 8) (dConsL (dVarB 9) dNilL))))
            [.cask, .val (.int 4), .val (.int 6), .own (left.map cD), .own (found.map cD), .own (T.map wayD), .val d, .val (plD P), .val (cD a), .val (cD b'), x10] m2 { nx := K, rt := Q } := fun b' hb' => by
          refine ⟨_, rfl, _, rfl, .inl rfl, _, rfl, _, len_lst wayD T, _, rfl, ((T.length : Nat) + 1 : Int), by omega, by omega, rfl, fun k hk => ?_⟩
          refine ⟨_, rfl, _, rfl, _, min_c a b', _, rfl, _, rfl, _, max_c a b', _, add_c1 _ _, k, rfl, by rw [List.length_map]; omega, by rw [List.length_map]; omega, ?_⟩
          have e : (T.map wayD).take k ++ [wayD (min a b', max a b')] ++ (T.map wayD).drop k = (T.take k ++ [(min a b', max a b')] ++ T.drop k).map wayD := by
            rw [List.map_append, List.map_append, List.map_take, List.map_drop]; rfl
          rw [e]
          refine hK _ _ ⟨rfl, T.take k ++ [(min a b', max a b')] ++ T.drop k, .val d, .val (cD a), .val (cD b'), ?_, fun p hp => ?_, rfl⟩
          · simp only [List.length_append, List.length_take, List.length_drop, List.length_singleton]; omega
          · rcases List.mem_append.mp hp with hp | hp
            · rcases List.mem_append.mp hp with hp | hp
              · exact hT p (List.mem_of_mem_take hp)
              · rw [List.mem_singleton] at hp
                subst hp
                exact tie_mk ha hb'
            · exact hT p (List.mem_of_mem_drop hp)
        refine ⟨_, rfl, _, rfl, _, eq_c a b, _, rfl, ?_⟩
        by_cases hab : a = b
        · rw [decide_eq_true hab]
          refine ⟨_, rfl, .inl rfl, 3, by decide, by decide, rfl, fun d3 hd3 => ⟨_, rfl, _, rfl, ?_⟩⟩
          by_cases h3 : (0 : Int) < (d3 : Nat)
          · rw [decide_eq_true h3]
            exact ⟨_, rfl, .inl rfl, _, rfl, .inl ⟨P, hne, hP100, rfl, fun b' hb' => fin' b' hb'⟩⟩
          · rw [decide_eq_false h3]
            exact fin' b hb
        · rw [decide_eq_false hab]
          exact fin' b hb
    refine ⟨_, rfl, .inl rfl, 2, by decide, by decide, rfl, fun d4 hd4 => ⟨_, eqD_int _ _, _, rfl, ?_⟩⟩
    by_cases h4 : ((d4 : Nat) : Int) = 0
    · rw [decide_eq_true h4]
      refine ⟨_, rfl, _, len_pl hL, _, rfl, ((P.length : Nat) - 1 : Int), rfl, by omega, by omega, ?_⟩
      have en : ((P.length : Nat) - 1 : Int) = ((P.length - 1 : Nat) : Int) := by omega
      rw [en, natD_map]
      refine ⟨by rw [List.length_map, List.length_range]; omega, ?_⟩
      refine lcR_m natD (fun i => wayD (P.getD i 0, P.getD (i + 1) 0)) (List.range (P.length - 1)) m' _ (fun i hi => ?_) ?_
      · have hi' := List.mem_range.mp hi
        have g1 : P[i]? = some (P.getD i 0) := by rw [List.getD_eq_getElem?_getD, List.getElem?_eq_getElem (by omega)]; rfl
        have g2 : P[i + 1]? = some (P.getD (i + 1) 0) := by rw [List.getD_eq_getElem?_getD, List.getElem?_eq_getElem (by omega)]; rfl
        exact ⟨_, rfl, fun m Q q => ⟨_, rfl, _, rfl, _, ix_pl hL g1, _, rfl, _, rfl, _, rfl, _, ix_pl hL g2, _, add_c1 _ _, q⟩⟩
      · have := rest ((List.range (P.length - 1)).map fun i => (P.getD i 0, P.getD (i + 1) 0)) .no (by rw [List.length_map, List.length_range]; omega) fun p hp => by
          obtain ⟨i, hi, rfl⟩ := List.mem_map.mp hp
          have hi' := List.mem_range.mp hi
          have e1 : P.getD i 0 = P[i]'(by omega) := by rw [List.getD_eq_getElem?_getD, List.getElem?_eq_getElem (by omega)]; rfl
          have e2 : P.getD (i + 1) 0 = P[i + 1]'(by omega) := by rw [List.getD_eq_getElem?_getD, List.getElem?_eq_getElem (by omega)]; rfl
          refine ⟨by show P.getD i 0 ∈ P; rw [e1]; exact List.getElem_mem _, by show P.getD (i + 1) 0 ∈ P; rw [e2]; exact List.getElem_mem _, ?_⟩
          show P.getD i 0 ≤ P.getD (i + 1) 0
          rw [e1, e2]
          exact Nat.le_of_lt (List.pairwise_iff_getElem.mp hPl.inc i (i + 1) _ _ (by omega))
        rw [List.map_map] at this
        exact this
    · rw [decide_eq_false h4]
      exact rest [] .no (by decide) fun p hp => by cases hp
  · rintro d ds env m' ⟨rfl, left, found, x6, hlen, hp, rfl⟩
    rw [List.length_cons] at hlen
    have hl8 := hp.length_eq
    simp at hl8
    refine ⟨_, rfl, fun K hK => ?_⟩
    refine ⟨_, _, rfl, rfl, by decide, _, rfl, .inl rfl, _, rfl, _, rfl, (left.length : Nat), by omega, by omega, by rw [List.length_map], fun k hk => ?_⟩
    have hk' : k < left.length := by omega
    have hkx : left[k]? = some left[k] := List.getElem?_eq_getElem hk'
    refine ⟨k, cD left[k], rfl, by rw [List.getElem?_map, hkx]; rfl, by rw [List.length_map]; omega, by rw [List.length_map]; omega, hK _ _ ⟨rfl, left.eraseIdx k, found ++ [left[k]], .val d, by rw [List.length_append, List.length_singleton]; omega, ?_, ?_⟩⟩
    · have h1 := erase_perm left k _ hkx
      have h2 : (left.eraseIdx k ++ (found ++ [left[k]])).Perm ((left[k] :: left.eraseIdx k) ++ found) := by
        have : (left.eraseIdx k ++ (found ++ [left[k]])).Perm ((left.eraseIdx k ++ found) ++ [left[k]]) := by rw [List.append_assoc]
        exact this.trans (List.perm_append_comm (l₁ := left.eraseIdx k ++ found) (l₂ := [left[k]]))
      exact (h2.trans (h1.append_right found)).trans hp
    · rw [erase_map, List.map_append]; rfl
  · rw [natD_map, List.length_map, List.length_range]; simp
end T
/-! small things for laws: loops, cuts, sums, least numbers -/
namespace T
open PySem L2 G
theorem rg_get {n k : Nat} (h : k < n) : (List.range n)[k]? = some k := List.getElem?_range h
theorem forR_rg {f : D → Env' → Option Env'} {body : DS} {E : DEnds} (g : Nat → D) (n : Nat) (J : Nat → Env' → Nat → Prop) (h0 : ∀ env m, J n env m → E.nx env m)
    (hs : ∀ i, i < n → ∀ env m, J i env m → ∃ env2, f (g i) env = some env2 ∧ ∀ K : Env' → Nat → Prop, (∀ e' m', J (i + 1) e' m' → K e' m') → body env2 m { E with nx := K, ct := K, bk := E.nx }) (env : Env') (m : Nat) (h : J 0 env m) :
    ForR f body ((List.range n).map g) env m E := by
  refine forR_ind (fun its env m => ∃ i, i ≤ n ∧ its = ((List.range n).map g).drop i ∧ J i env m) ?_ ?_ _ _ _ ⟨0, Nat.zero_le _, rfl, h⟩
  · rintro env m ⟨i, hi, he, hJ⟩
    have := congrArg List.length he
    simp at this
    have : i = n := by omega
    subst this
    exact h0 _ _ hJ
  · rintro d ds env m ⟨i, hi, he, hJ⟩
    obtain ⟨a1, a2⟩ := drop_cons he
    have hi' : i < n := by
      have := (List.getElem?_eq_some_iff.mp a1).1
      simpa using this
    rw [List.getElem?_map, rg_get hi'] at a1
    cases a1
    obtain ⟨env2, e2, hb⟩ := hs i hi' env m hJ
    exact ⟨env2, e2, fun K hK => hb K fun e' m' hJ' => hK e' m' ⟨i + 1, hi', a2, hJ'⟩⟩

theorem forR_l {α : Type} {f : D → Env' → Option Env'} {body : DS} {E : DEnds} (g : α → D) (xs : List α) (J : Nat → Env' → Nat → Prop) (h0 : ∀ env m, J xs.length env m → E.nx env m)
    (hs : ∀ i x, xs[i]? = some x → ∀ env m, J i env m → ∃ env2, f (g x) env = some env2 ∧ ∀ K : Env' → Nat → Prop, (∀ e' m', J (i + 1) e' m' → K e' m') → body env2 m { E with nx := K, ct := K, bk := E.nx }) (env : Env') (m : Nat) (h : J 0 env m) :
    ForR f body (xs.map g) env m E := by
  refine forR_ind (fun its env m => ∃ i, i ≤ xs.length ∧ its = (xs.map g).drop i ∧ J i env m) ?_ ?_ _ _ _ ⟨0, Nat.zero_le _, rfl, h⟩
  · rintro env m ⟨i, hi, he, hJ⟩
    have := congrArg List.length he
    simp at this
    have : i = xs.length := by omega
    subst this
    exact h0 _ _ hJ
  · rintro d ds env m ⟨i, hi, he, hJ⟩
    obtain ⟨a1, a2⟩ := drop_cons he
    rw [List.getElem?_map] at a1
    obtain ⟨x, hx, rfl⟩ := Option.map_eq_some_iff.mp a1
    have hi' := (List.getElem?_eq_some_iff.mp hx).1
    obtain ⟨env2, e2, hb⟩ := hs i x hx env m hJ
    exact ⟨env2, e2, fun K hK => hb K fun e' m' hJ' => hK e' m' ⟨i + 1, hi', a2, hJ'⟩⟩
theorem ltR_m {α : Type} {f : D → Env' → Option Env'} {de : DL} {env : Env'} (e : α → D) (row : α → List D) : ∀ (xs : List α) (m : Nat) (Q : List (List D) → Nat → Prop), (∀ a ∈ xs, ∃ env2, f (e a) env = some env2 ∧ ∀ m Q, Q (row a) m → de env2 m Q) → Q (xs.map row) m → LtR f de env (xs.map e) m Q
  | [], m, Q, _, q => q
  | a :: r, m, Q, h, q => by
    obtain ⟨env2, e1, h2⟩ := h a (by simp)
    exact ⟨env2, e1, h2 m _ (ltR_m e row r m _ (fun b hb => h b (by simp [hb])) q)⟩
theorem all_iff {α : Type} (p : α → Bool) (xs : List α) : allD [.lst (xs.map fun a => D.bl (p a))] = some (.bl (xs.all p)) := by
  have e : (xs.map fun a => D.bl (p a)) = (xs.map p).map D.bl := by rw [List.map_map]; rfl
  show (bools _).map _ = _
  rw [e, bools_of]
  simp
theorem any_iff {α : Type} (p : α → Bool) (xs : List α) : anyD [.lst (xs.map fun a => D.bl (p a))] = some (.bl (xs.any p)) := by
  have e : (xs.map fun a => D.bl (p a)) = (xs.map p).map D.bl := by rw [List.map_map]; rfl
  show (bools _).map _ = _
  rw [e, bools_of]
  simp
theorem rep_flat (k : Nat) (d : D) : (List.replicate k [d]).flatten = (List.range k).map fun _ => d := by
  induction k with
  | zero => rfl
  | succ k ih =>
    rw [List.replicate_succ, List.flatten_cons, ih, List.range_succ_eq_map, List.map_cons, List.map_map]; rfl
theorem cut_to {α : Type} (xs : List α) {k : Nat} (h : k ≤ xs.length) : cutL xs none (some (k : Nat)) = xs.take k := by
  unfold cutL
  rw [HT.sIx_none, HT.sIx_nat, List.drop_zero, Nat.sub_zero, Nat.min_eq_left h]
theorem cut_from {α : Type} (xs : List α) {k : Nat} (h : k ≤ xs.length) : cutL xs (some (k : Nat)) none = xs.drop k := by
  unfold cutL
  rw [HT.sIx_none, HT.sIx_nat, Nat.min_eq_left h]
  exact List.take_of_length_le (by rw [List.length_drop]; omega)
theorem perm_map {α β : Type} {f : α → β} {xs ys : List β} (h : xs.Perm ys) : ∀ l : List α, xs = l.map f → ∃ l' : List α, l'.Perm l ∧ ys = l'.map f := by
  induction h with
  | nil =>
    intro l hl
    exact ⟨l, .refl _, hl⟩
  | cons x _ ih =>
    intro l hl
    cases l with
    | nil => cases hl
    | cons a r =>
      rw [List.map_cons] at hl
      obtain ⟨hx, hr⟩ := List.cons.inj hl
      obtain ⟨l', h1, h2⟩ := ih r hr
      exact ⟨a :: l', h1.cons a, by rw [List.map_cons, h2, hx]⟩
  | swap x y r =>
    intro l hl
    match l, hl with
    | a :: b :: t, hl =>
      rw [List.map_cons, List.map_cons] at hl
      obtain ⟨h1, hl⟩ := List.cons.inj hl
      obtain ⟨h2, hl⟩ := List.cons.inj hl
      exact ⟨b :: a :: t, .swap a b t, by rw [List.map_cons, List.map_cons, hl, h1, h2]⟩
  | trans _ _ ih1 ih2 =>
    intro l hl
    obtain ⟨l1, p1, e1⟩ := ih1 l hl
    obtain ⟨l2, p2, e2⟩ := ih2 l1 e1
    exact ⟨l2, p2.trans p1, e2⟩
theorem ints_map {α : Type} (f : α → Int) (xs : List α) : intsD (xs.map fun j => D.int (f j)) = some (xs.map f) := by
  induction xs with
  | nil => rfl
  | cons a r ih => simp only [List.map_cons, intsD]; rw [ih]; rfl
theorem sumL {α : Type} (f : α → Int) (xs : List α) : sumD [.lst (xs.map fun j => D.int (f j))] = some (.int (xs.map f).sum) := by
  show (intsD _).map _ = _
  rw [ints_map]; rfl
theorem sumT {α : Type} (f : α → Int) (xs : List α) : sumD [.tup (xs.map fun j => D.int (f j))] = some (.int (xs.map f).sum) := by
  show (intsD _).map _ = _
  rw [ints_map]; rfl
theorem ints_nat (xs : List Nat) : intsD (xs.map natD) = some (xs.map fun k : Nat => (k : Int)) := by
  induction xs with
  | nil => rfl
  | cons a r ih => rw [List.map_cons, List.map_cons]; show (intsD (r.map natD)).map _ = _; rw [ih]; rfl
theorem enum_map (n : Nat) (f : Nat → D) : enumD ((List.range n).map f) = (List.range n).map fun k => .tup [natD k, f k] := by
  apply List.ext_getElem?
  intro i
  unfold enumD
  by_cases hi : i < n
  · simp [hi, natD]
  · rw [List.getElem?_eq_none (by simp; omega), List.getElem?_eq_none (by simp; omega)]
theorem rng1 (n : Nat) : rangeD 1 (n : Nat) = (List.range (n - 1)).map fun i => natD (i + 1) := by
  unfold rangeD
  have : (((n : Nat) : Int) - 1).toNat = n - 1 := by omega
  rw [this]
  refine List.map_congr_left fun i _ => ?_
  show D.int _ = D.int _
  congr 1
  omega
theorem at_last {α : Type} (f : α → D) {xs : List α} (h : xs ≠ []) : ∃ x ∈ xs, ixD (.lst (xs.map f)) (.int (-1)) = some (f x) := by
  have hp : 0 < xs.length := List.length_pos_iff.mpr h
  refine ⟨xs[xs.length - 1], List.getElem_mem _, ?_⟩
  show atI (xs.map f) (-1) = _
  unfold atI ixN
  rw [if_neg (by decide), if_pos (by rw [List.length_map]; omega), List.length_map]
  have e : ((-1 : Int) + (xs.length : Nat)).toNat = xs.length - 1 := by omega
  rw [e]
  show (xs.map f)[xs.length - 1]? = _
  rw [List.getElem?_map, List.getElem?_eq_getElem (by omega)]; rfl
theorem ixN_nat {n k : Nat} (h : k < n) : ixN n (k : Nat) = some k := by
  unfold ixN
  rw [if_pos (by omega), if_pos (by omega), Int.toNat_natCast]
theorem lcR_dr {f : D → Env' → Option Env'} {de : DE} {env : Env'} {α β : Type} (e : α → D) (v : β → D) (p : β → Prop) : ∀ (xs : List α) (m : Nat) (Q : List D → Nat → Prop), (∀ a ∈ xs, ∃ env2, f (e a) env = some env2 ∧ ∀ m Q, (∀ b, p b → Q (v b) m) → de env2 m Q) →
    (∀ bs : List β, bs.length = xs.length → (∀ b ∈ bs, p b) → Q (bs.map v) m) → LcR f dYes de env (xs.map e) m Q
  | [], m, Q, _, q => q [] rfl (fun b hb => by simp at hb)
  | a :: r, m, Q, h, q => by
    obtain ⟨env2, e1, h2⟩ := h a (by simp)
    refine ⟨env2, e1, ?_⟩
    show (de env2 m fun y m2 => LcR f dYes de env (r.map e) m2 fun ys m3 => Q (y :: ys) m3)
    refine h2 m _ fun b hb => lcR_dr e v p r m _ (fun b hb => h b (by simp [hb])) fun bs hbs hp => ?_
    exact q (b :: bs) (by simp [hbs]) (fun c hc => by rcases List.mem_cons.mp hc with rfl | hc; exact hb; exact hp c hc)
theorem er_perm {α : Type} : ∀ (l : List α) (k : Nat) (x : α), l[k]? = some x → (x :: l.eraseIdx k).Perm l
  | [], k, x, h => by simp at h
  | a :: r, 0, x, h => by
    simp at h
    subst h
    exact List.Perm.refl _
  | a :: r, k + 1, x, h => by
    simp only [List.eraseIdx_cons_succ]
    have := er_perm r k x (by simpa using h)
    exact (List.Perm.swap a x _).trans (this.cons a)
theorem lt_natD (a b : Nat) : ltD (natD a) (natD b) = some (.bl (decide (a < b))) := by
  show some (D.bl (decide ((a : Int) < (b : Nat)))) = _
  congr 2
  rw [decide_eq_decide]; omega
theorem min_list {ns : List Nat} (h : ns ≠ []) : ∃ m ∈ ns, (∀ y ∈ ns, m ≤ y) ∧ minD1 [.lst (ns.map natD)] = some (natD m) := by
  obtain ⟨k, r, rfl⟩ : ∃ k r, ns = k :: r := by cases ns with | nil => exact absurd rfl h | cons k r => exact ⟨k, r, rfl⟩
  have h1 : minL ((k :: r).map fun k : Nat => (k : Int)) = some ((r.map fun k : Nat => (k : Int)).foldl min (k : Int)) := rfl
  obtain ⟨a, b⟩ := minL_ok h1
  obtain ⟨y, hy, e⟩ := List.mem_map.mp a
  refine ⟨y, hy, fun z hz => ?_, ?_⟩
  · have := b (z : Int) (List.mem_map.mpr ⟨z, hz, rfl⟩)
    omega
  · show ((intsD _).bind _) = _
    rw [ints_nat]
    show (minL ((k :: r).map fun k : Nat => (k : Int))).map D.int = _
    rw [h1, ← e]; rfl
theorem enum_l {α : Type} (f : α → D) (xs : List α) (d : α) : enumD (xs.map f) = (List.range xs.length).map fun k => .tup [natD k, f (xs.getD k d)] := by
  apply List.ext_getElem?
  intro i
  unfold enumD
  by_cases hi : i < xs.length
  · simp [hi, natD]
  · rw [List.getElem?_eq_none (by simp; omega), List.getElem?_eq_none (by simp; omega)]
theorem cutS_from (P : List Nat) {k : Nat} (h : k ≤ P.length) : cutS (plS P) (some (k : Nat)) none = plS (P.drop k) := by
  have e : cutS (plS P) (some (k : Nat)) none = plS (cutL P (some (k : Nat)) none) := rfl
  rw [e, cut_from _ h]
theorem cutS_to (P : List Nat) {k : Nat} (h : k ≤ P.length) : cutS (plS P) none (some (k : Nat)) = plS (P.take k) := by
  have e : cutS (plS P) none (some (k : Nat)) = plS (cutL P none (some (k : Nat))) := rfl
  rw [e, cut_to _ h]
theorem slice_from {P : List Nat} {k : Nat} (h : k ≤ P.length) (hl : P.length ≤ LL) : sliceD (plD P) (some (k : Nat)) none = some (plD (P.drop k)) := by
  show (if (plS P).length ≤ LL then some (D.str (cutS (plS P) (some (k : Nat)) none)) else none) = _
  rw [if_pos (by rw [plS_len]; exact hl), cutS_from P h]
theorem slice_to {P : List Nat} {k : Nat} (h : k ≤ P.length) (hl : P.length ≤ LL) : sliceD (plD P) none (some (k : Nat)) = some (plD (P.take k)) := by
  show (if (plS P).length ≤ LL then some (D.str (cutS (plS P) none (some (k : Nat)))) else none) = _
  rw [if_pos (by rw [plS_len]; exact hl), cutS_to P h]
end T
/-! tables: shifting by one, sums of powers, coefficients that are never below 0 -/
namespace K15
open T
def bin : Nat → Nat → Nat
  | _, 0 => 1
  | 0, _ + 1 => 0
  | n + 1, k + 1 => bin n k + bin n (k + 1)
theorem bin_zero {n : Nat} : ∀ {k : Nat}, n < k → bin n k = 0 := by
  induction n with
  | zero => intro k h; cases k with | zero => omega | succ k => rfl
  | succ n ih => intro k h; cases k with | zero => omega | succ k => show bin n k + bin n (k + 1) = 0; rw [ih (by omega), ih (by omega)]
def sgn (p k : Nat) : Int := if (p + k) % 2 = 1 then -1 else 1
def cf (p k : Nat) : Int := (bin p k : Int) * sgn p k
def sm (n : Nat) (f : Nat → Int) : Int := ((List.range n).map f).sum
theorem sm_zero (f : Nat → Int) : sm 0 f = 0 := rfl
theorem sm_succ (n : Nat) (f : Nat → Int) : sm (n + 1) f = sm n f + f n := by unfold sm; rw [List.range_succ, List.map_append, List.sum_append]; simp
theorem sm_congr {n : Nat} {f g : Nat → Int} (h : ∀ i, i < n → f i = g i) : sm n f = sm n g := by
  unfold sm; congr 1; exact List.map_congr_left fun i hi => h i (List.mem_range.mp hi)
theorem sm_add (n : Nat) (f g : Nat → Int) : sm n (fun i => f i + g i) = sm n f + sm n g := by
  induction n with
  | zero => rfl
  | succ n ih => rw [sm_succ, sm_succ, sm_succ, ih]; omega
theorem sm_mul (n : Nat) (c : Int) (f : Nat → Int) : sm n (fun i => c * f i) = c * sm n f := by
  induction n with
  | zero => simp [sm_zero]
  | succ n ih => rw [sm_succ, sm_succ, ih, Int.mul_add]
theorem sm_const (n : Nat) : sm n (fun _ => 0) = 0 := by
  induction n with
  | zero => rfl
  | succ n ih => rw [sm_succ, ih]; rfl
theorem sm_first (n : Nat) (f : Nat → Int) : sm (n + 1) f = f 0 + sm n fun i => f (i + 1) := by
  induction n with
  | zero => rw [sm_succ, sm_zero, sm_zero]; omega
  | succ n ih => rw [sm_succ, ih, sm_succ]; omega
theorem sm_comm (n m : Nat) (f : Nat → Nat → Int) : sm n (fun i => sm m fun j => f i j) = sm m fun j => sm n fun i => f i j := by
  induction n with
  | zero => rw [sm_zero]; symm; exact (sm_congr fun j _ => sm_zero _).trans (sm_const m)
  | succ n ih => rw [sm_succ, ih, ← sm_add]; exact sm_congr fun j _ => (sm_succ n _).symm
theorem sm_more {n m : Nat} {f : Nat → Int} (h : n ≤ m) (z : ∀ i, n ≤ i → f i = 0) : sm m f = sm n f := by
  induction m with
  | zero => have : n = 0 := by omega
            rw [this]
  | succ m ih =>
    by_cases e : n = m + 1
    · rw [e]
    · rw [sm_succ, ih (by omega), z m (by omega)]; omega
/-- shifted by one -/
def ex (n : Nat) (f : Nat → Int) (k : Nat) : Int := sm n fun p => f p * cf p k
theorem sgn_up (p k : Nat) : sgn (p + 1) k = - sgn p k := by
  unfold sgn
  by_cases h : (p + k) % 2 = 1
  · rw [if_pos h, if_neg (by omega)]; rfl
  · rw [if_neg h, if_pos (by omega)]
theorem sgn_kk (p k : Nat) : sgn p (k + 1) = - sgn p k := by
  unfold sgn
  by_cases h : (p + k) % 2 = 1
  · rw [if_pos h, if_neg (by omega)]; rfl
  · rw [if_neg h, if_pos (by omega)]
theorem cf_up0 (p : Nat) : cf p 0 + cf (p + 1) 0 = 0 := by
  unfold cf
  rw [sgn_up]
  have e : ∀ p, bin p 0 = 1 := fun p => by cases p <;> rfl
  rw [e, e]; omega
theorem cf_up (p k : Nat) : cf p (k + 1) + cf (p + 1) (k + 1) = cf p k := by
  unfold cf
  have e : bin (p + 1) (k + 1) = bin p k + bin p (k + 1) := rfl
  rw [e, sgn_up, sgn_kk, Int.natCast_add]
  grind
/-- f times what is one more -/
def bump (f : Nat → Int) (p : Nat) : Int := f p + (if p = 0 then 0 else f (p - 1))
theorem ex_bump {n : Nat} {f : Nat → Int} (hz : ∀ p, n ≤ p → f p = 0) (k : Nat) : ex (n + 1) (bump f) k = if k = 0 then 0 else ex (n + 1) f (k - 1) := by
  have e1 : ex (n + 1) (bump f) k = sm (n + 1) (fun p => f p * cf p k) + sm (n + 1) fun p => (if p = 0 then 0 else f (p - 1)) * cf p k := by
    unfold ex
    rw [← sm_add]
    exact sm_congr fun p _ => by unfold bump; rw [Int.add_mul]
  have e2 : (sm (n + 1) fun p => (if p = 0 then 0 else f (p - 1)) * cf p k) = sm (n + 1) fun p => f p * cf (p + 1) k := by
    rw [sm_first, sm_succ, hz n (Nat.le_refl _)]
    have : (sm n fun i => (if i + 1 = 0 then 0 else f (i + 1 - 1)) * cf (i + 1) k) = sm n fun p => f p * cf (p + 1) k := sm_congr fun p _ => by rw [if_neg (by omega)]; rfl
    rw [this]
    simp
  rw [e1, e2, ← sm_add]
  cases k with
  | zero =>
    rw [if_pos rfl]
    refine (sm_congr fun p _ => ?_).trans (sm_const (n + 1))
    rw [← Int.mul_add, cf_up0, Int.mul_zero]
  | succ k =>
    rw [if_neg (by omega)]
    unfold ex
    refine sm_congr fun p _ => ?_
    rw [← Int.mul_add, cf_up]; rfl
theorem ex_add (n : Nat) (f g : Nat → Int) (k : Nat) : ex n (fun p => f p + g p) k = ex n f k + ex n g k := by
  unfold ex
  rw [← sm_add]
  exact sm_congr fun p _ => Int.add_mul _ _ _
theorem ex_congr {n : Nat} {f g : Nat → Int} (h : ∀ p, p < n → f p = g p) (k : Nat) : ex n f k = ex n g k := sm_congr fun p hp => by rw [h p hp]
theorem ex_more {n m : Nat} {f : Nat → Int} (h : n ≤ m) (z : ∀ p, n ≤ p → f p = 0) (k : Nat) : ex m f k = ex n f k := sm_more h fun p hp => by rw [z p hp, Int.zero_mul]
/-! ### powers of sums -/
theorem binom (a b : Int) : ∀ p : Nat, (a - b) ^ p = sm (p + 1) fun i => cf p i * a ^ i * b ^ (p - i)
  | 0 => by
    rw [sm_succ, sm_zero]
    have : cf 0 0 = 1 := by decide
    rw [this]; simp
  | p + 1 => by
    have ih := binom a b p
    rw [Int.pow_succ, ih, Int.mul_comm, Int.sub_mul, ← sm_mul, ← sm_mul]
    have e1 : (sm (p + 1) fun i => a * (cf p i * a ^ i * b ^ (p - i))) = sm (p + 1) fun i => cf p i * a ^ (i + 1) * b ^ (p - i) := sm_congr fun i _ => by rw [Int.pow_succ]; grind
    have e2 : (sm (p + 1) fun i => b * (cf p i * a ^ i * b ^ (p - i))) = sm (p + 1) fun i => cf p i * a ^ i * b ^ (p + 1 - i) := sm_congr fun i hi => by
      have : p + 1 - i = (p - i) + 1 := by omega
      rw [this, Int.pow_succ]; grind
    rw [e1, e2, sm_first (p + 1)]
    have e3 : (sm (p + 1) fun i => cf p i * a ^ i * b ^ (p + 1 - i)) = cf p 0 * a ^ 0 * b ^ (p + 1) + sm p fun i => cf p (i + 1) * a ^ (i + 1) * b ^ (p + 1 - (i + 1)) := by rw [sm_first, Nat.sub_zero]
    rw [e3]
    have e4 : (sm p fun i => cf p (i + 1) * a ^ (i + 1) * b ^ (p + 1 - (i + 1))) = sm (p + 1) fun i => cf p (i + 1) * a ^ (i + 1) * b ^ (p - i) := by
      rw [sm_succ]
      have z : cf p (p + 1) = 0 := by unfold cf; rw [bin_zero (by omega)]; simp
      rw [z]
      have : (sm p fun i => cf p (i + 1) * a ^ (i + 1) * b ^ (p + 1 - (i + 1))) = sm p fun i => cf p (i + 1) * a ^ (i + 1) * b ^ (p - i) := sm_congr fun i _ => by
        have : p + 1 - (i + 1) = p - i := by omega
        rw [this]
      rw [this]; simp
    rw [e4]
    have e5 : (sm (p + 1) fun i => cf (p + 1) (i + 1) * a ^ (i + 1) * b ^ (p + 1 - (i + 1))) = (sm (p + 1) fun i => cf p i * a ^ (i + 1) * b ^ (p - i)) - sm (p + 1) fun i => cf p (i + 1) * a ^ (i + 1) * b ^ (p - i) := by
      have n1 : ∀ (n : Nat) (f g : Nat → Int), sm n (fun i => f i - g i) = sm n f - sm n g := fun n f g => by
        have := sm_add n (fun i => f i - g i) g
        have e : (sm n fun i => f i - g i + g i) = sm n f := sm_congr fun i _ => by omega
        rw [e] at this
        omega
      rw [← n1]
      refine sm_congr fun i _ => ?_
      have : p + 1 - (i + 1) = p - i := by omega
      rw [this, ← cf_up p i]
      grind
    rw [e5]
    have e6 : cf (p + 1) 0 = - cf p 0 := by have := cf_up0 p; omega
    rw [e6]
    have e7 : p + 1 - 0 = p + 1 := rfl
    rw [e7]
    grind
/-- the sum of the shifted row -/
theorem ex_sum (h : Nat) (f : Nat → Int) (a b : Int) : (sm (h + 1) fun i => ex (h + 1) f i * a ^ i * b ^ (h - i)) = sm (h + 1) fun p => f p * (a - b) ^ p * b ^ (h - p) := by
  have e1 : (sm (h + 1) fun i => ex (h + 1) f i * a ^ i * b ^ (h - i)) = sm (h + 1) fun i => sm (h + 1) fun p => f p * (cf p i * a ^ i * b ^ (h - i)) := sm_congr fun i _ => by
    unfold ex
    rw [Int.mul_assoc, Int.mul_comm, ← sm_mul]
    refine sm_congr fun p _ => ?_
    grind
  rw [e1, sm_comm]
  refine sm_congr fun p hp => ?_
  rw [sm_mul, Int.mul_assoc]
  congr 1
  rw [binom, Int.mul_comm, ← sm_mul]
  rw [sm_more (n := p + 1) (m := h + 1) (by omega) fun i hi => by unfold cf; rw [bin_zero (by omega)]; simp]
  refine sm_congr fun i hi => ?_
  have : b ^ (h - i) = b ^ (h - p) * b ^ (p - i) := by
    rw [← Int.pow_add]
    congr 1
    omega
  rw [this]
  grind
def ex2 (n m : Nat) (c : Nat → Nat → Int) (i j : Nat) : Int := ex n (fun p => ex m (c p) j) i
def S2 (a b : Nat) (f : Nat → Nat → Int) (x0 x1 y0 y1 : Int) : Int := sm a fun i => sm b fun j => f i j * (x0 ^ i * x1 ^ (a - 1 - i)) * y0 ^ j * y1 ^ (b - 1 - j)
theorem S2_ex (h w : Nat) (c : Nat → Nat → Int) (x0 x1 y0 y1 : Int) : S2 (h + 1) (w + 1) (ex2 (h + 1) (w + 1) c) x0 x1 y0 y1 = S2 (h + 1) (w + 1) c (x0 - x1) x1 (y0 - y1) y1 := by
  unfold S2
  have hh : h + 1 - 1 = h := rfl
  have hw : w + 1 - 1 = w := rfl
  rw [hh, hw]
  -- along y
  have A : ∀ (F : Nat → Int) , True := fun _ => trivial
  have e1 : (sm (h + 1) fun i => sm (w + 1) fun j => ex2 (h + 1) (w + 1) c i j * (x0 ^ i * x1 ^ (h - i)) * y0 ^ j * y1 ^ (w - j)) =
      sm (w + 1) fun j => (y0 ^ j * y1 ^ (w - j)) * sm (h + 1) fun i => ex (h + 1) (fun p => ex (w + 1) (c p) j) i * x0 ^ i * x1 ^ (h - i) := by
    rw [sm_comm]
    refine sm_congr fun j _ => ?_
    rw [← sm_mul]
    refine sm_congr fun i _ => ?_
    unfold ex2
    grind
  have e2 : (sm (h + 1) fun i => sm (w + 1) fun j => c i j * ((x0 - x1) ^ i * x1 ^ (h - i)) * (y0 - y1) ^ j * y1 ^ (w - j)) =
      sm (h + 1) fun p => ((x0 - x1) ^ p * x1 ^ (h - p)) * sm (w + 1) fun j => ex (w + 1) (c p) j * y0 ^ j * y1 ^ (w - j) := by
    refine sm_congr fun p _ => ?_
    rw [ex_sum, ← sm_mul]
    refine sm_congr fun j _ => ?_
    grind
  rw [e1, e2]
  have e3 : (sm (w + 1) fun j => (y0 ^ j * y1 ^ (w - j)) * sm (h + 1) fun i => ex (h + 1) (fun p => ex (w + 1) (c p) j) i * x0 ^ i * x1 ^ (h - i)) = sm (w + 1) fun j => sm (h + 1) fun p => (y0 ^ j * y1 ^ (w - j)) * (ex (w + 1) (c p) j * (x0 - x1) ^ p * x1 ^ (h - p)) := by
    refine sm_congr fun j _ => ?_
    rw [ex_sum, sm_mul]
  rw [e3, sm_comm]
  refine sm_congr fun p _ => ?_
  rw [← sm_mul]
  refine sm_congr fun j _ => ?_
  grind
end K15
namespace K15
open T
/-! ### all choices of ties -/
def fo {α : Type} (Q : List (List α)) (ps : List α) : List (List α) := ps.foldl (fun acc p => acc ++ acc.map (· ++ [p])) Q
def sb {α : Type} (ps : List α) : List (List α) := fo [[]] ps
section
variable {α : Type}
theorem fo_cons (x : α) : ∀ (ps : List α) (Q : List (List α)), fo (Q.map (x :: ·)) ps = (fo Q ps).map (x :: ·)
  | [], Q => rfl
  | p :: ps, Q => by
    show fo (Q.map (x :: ·) ++ (Q.map (x :: ·)).map (· ++ [p])) ps = (fo (Q ++ Q.map (· ++ [p])) ps).map (x :: ·)
    rw [← fo_cons x ps, List.map_append, List.map_map, List.map_map]; rfl
theorem fo_perm : ∀ (ps : List α) {Q R : List (List α)}, Q.Perm R → (fo Q ps).Perm (fo R ps)
  | [], Q, R, h => h
  | p :: ps, Q, R, h => fo_perm ps (h.append (h.map _))
theorem fo_app : ∀ (ps : List α) (Q R : List (List α)), (fo (Q ++ R) ps).Perm (fo Q ps ++ fo R ps)
  | [], Q, R => .refl _
  | p :: ps, Q, R => by
    show (fo ((Q ++ R) ++ (Q ++ R).map (· ++ [p])) ps).Perm (fo (Q ++ Q.map (· ++ [p])) ps ++ fo (R ++ R.map (· ++ [p])) ps)
    refine (fo_perm ps ?_).trans (fo_app ps _ _)
    rw [List.map_append, List.append_assoc, List.append_assoc]
    refine List.Perm.append_left Q ?_
    rw [← List.append_assoc, ← List.append_assoc]
    exact List.Perm.append_right _ List.perm_append_comm
theorem sb_cons (x : α) (ps : List α) : (sb (x :: ps)).Perm (sb ps ++ (sb ps).map (x :: ·)) := by
  show (fo ([[]] ++ [[x]]) ps).Perm (fo [[]] ps ++ (fo [[]] ps).map (x :: ·))
  rw [← fo_cons]
  exact fo_app ps [[]] [[x]]
theorem sb_snoc (ps : List α) (p : α) : sb (ps ++ [p]) = sb ps ++ (sb ps).map (· ++ [p]) := by
  unfold sb fo
  rw [List.foldl_append]; rfl
theorem mem_sb : ∀ {ps S : List α}, S ∈ sb ps → S.Sublist ps
  | [], S, h => by
    have : S = [] := by simpa [sb, fo] using h
    rw [this]; exact .slnil
  | x :: ps, S, h => by
    have h := (sb_cons x ps).mem_iff.mp h
    rcases List.mem_append.mp h with h | h
    · exact (mem_sb h).cons x
    · obtain ⟨r, h1, rfl⟩ := List.mem_map.mp h
      exact (mem_sb h1).cons₂ x
end
/-- lots by what their rank lacks and what they have to spare -/
noncomputable def cc (P : List Nat) (A B : List (Nat × Nat)) (i j : Nat) : Nat := (sb B).countP fun S => decide (rk P (A ++ S) + i = rk P (A ++ B) ∧ rk P (A ++ S) + j = rk P A + S.length)
section
variable {P : List Nat} (nd : P.Nodup)
include nd
theorem rk_app_le (A : List (Nat × Nat)) : ∀ {S : List (Nat × Nat)}, Ok P S → rk P (A ++ S) ≤ rk P A + S.length := by
  intro S
  have key : ∀ (n : Nat) (S : List (Nat × Nat)), S.length = n → Ok P S → rk P (A ++ S) ≤ rk P A + n := by
    intro n
    induction n with
    | zero => intro S hn _; rw [List.eq_nil_of_length_eq_zero hn, List.append_nil]; omega
    | succ n ih =>
      intro S hn ok
      obtain ⟨S', e, rfl⟩ : ∃ S' e, S = S' ++ [e] := by
        rcases List.eq_nil_or_concat S with z | ⟨l, a, z⟩
        · rw [z] at hn; simp at hn
        · exact ⟨l, a, by rw [z, List.concat_eq_append]⟩
      have h1 := ih S' (by simpa using hn) fun p hp => ok p (List.mem_append_left _ hp)
      have he := ok e (by simp)
      have h2 := rk_add (P := P) (E := A ++ S') nd he.1 he.2
      rw [← List.append_assoc]
      have : rk P (A ++ S' ++ [(e.1, e.2)]) = rk P (A ++ S' ++ [e]) := rfl
      omega
  exact fun ok => key S.length S rfl ok
theorem rk_sub {A B : List (Nat × Nat)} (h : ∀ p ∈ A, p ∈ B) : rk P A ≤ rk P B := rk_mono nd fun p hp => .tie (h p hp)
theorem cc_cons (A : List (Nat × Nat)) (e : Nat × Nat) (B : List (Nat × Nat)) (i j : Nat) :
    cc P A (e :: B) i j = (sb B).countP (fun S => decide (rk P (A ++ S) + i = rk P (A ++ e :: B) ∧ rk P (A ++ S) + j = rk P A + S.length)) + (sb B).countP fun S => decide (rk P (A ++ e :: S) + i = rk P (A ++ e :: B) ∧ rk P (A ++ e :: S) + j = rk P A + (S.length + 1)) := by
  unfold cc
  rw [(sb_cons e B).countP_eq, List.countP_append, List.countP_map]
  congr 1
omit nd in
theorem cp_congr {l : List (List (Nat × Nat))} {p q : List (Nat × Nat) → Prop} [DecidablePred p] [DecidablePred q] (h : ∀ S ∈ l, p S ↔ q S) : l.countP (fun S => decide (p S)) = l.countP fun S => decide (q S) :=
  List.countP_congr fun S hS => by rw [decide_eq_true_eq, decide_eq_true_eq]; exact h S hS
omit nd in
theorem cp_none {l : List (List (Nat × Nat))} {p : List (Nat × Nat) → Prop} [DecidablePred p] (h : ∀ S ∈ l, ¬ p S) : l.countP (fun S => decide (p S)) = 0 := by
  rw [List.countP_eq_zero]
  intro S hS
  rw [decide_eq_true_eq]; exact h S hS
theorem cc_far {A B : List (Nat × Nat)} (okB : Ok P B) {i j : Nat} (h : B.length < i ∨ B.length < j) : cc P A B i j = 0 := by
  refine cp_none fun S hS => ?_
  rintro ⟨h1, h2⟩
  have sl := mem_sb hS
  have s1 := sl.length_le
  have okS : Ok P S := fun p hp => okB p (sl.subset hp)
  have r1 : rk P A ≤ rk P (A ++ S) := rk_sub nd fun p hp => List.mem_append_left _ hp
  have r2 := rk_app_le nd A okB
  omega
theorem cc_loop {A B : List (Nat × Nat)} {e : Nat × Nat} (okB : Ok P B) (c : Conn A e.1 e.2) (i j : Nat) : (cc P A (e :: B) i j : Int) = bump (fun q => (cc P A B i q : Int)) j := by
  have same : ∀ S, rk P (A ++ e :: S) = rk P (A ++ S) := fun S => by
    have a : rk P (A ++ e :: S) ≤ rk P (A ++ S) := rk_mono nd fun p hp => by
      rcases List.mem_append.mp hp with hp | hp
      · exact .tie (List.mem_append_left _ hp)
      · rcases List.mem_cons.mp hp with rfl | hp
        · exact c.sub fun p hp => List.mem_append_left _ hp
        · exact .tie (List.mem_append_right _ hp)
    have b : rk P (A ++ S) ≤ rk P (A ++ e :: S) := rk_sub nd fun p hp => by
      rcases List.mem_append.mp hp with hp | hp
      · exact List.mem_append_left _ hp
      · exact List.mem_append_right _ (by simp [hp])
    omega
  rw [cc_cons nd]
  unfold bump
  have e1 : (sb B).countP (fun S => decide (rk P (A ++ S) + i = rk P (A ++ e :: B) ∧ rk P (A ++ S) + j = rk P A + S.length)) = cc P A B i j := by rw [same B]; rfl
  have e2 : (sb B).countP (fun S => decide (rk P (A ++ e :: S) + i = rk P (A ++ e :: B) ∧ rk P (A ++ e :: S) + j = rk P A + (S.length + 1))) = if j = 0 then 0 else cc P A B i (j - 1) := by
    by_cases hj : j = 0
    · rw [if_pos hj]
      refine cp_none fun S hS => ?_
      rintro ⟨_, h2⟩
      rw [same S] at h2
      have := rk_app_le nd A (S := S) fun p hp => okB p ((mem_sb hS).subset hp)
      omega
    · rw [if_neg hj]
      refine cp_congr fun S hS => ?_
      rw [same S, same B]
      constructor <;> rintro ⟨a, b⟩ <;> exact ⟨a, by omega⟩
  rw [e1, e2]
  by_cases hj : j = 0
  · rw [if_pos hj, if_pos hj]; simp
  · rw [if_neg hj, if_neg hj]; simp
theorem cc_bridge {A B : List (Nat × Nat)} {e : Nat × Nat} (okB : Ok P B) (he : e.1 ∈ P ∧ e.2 ∈ P) (c : ¬ Conn (A ++ B) e.1 e.2) (i j : Nat) : (cc P A (e :: B) i j : Int) = bump (fun p => (cc P A B p j : Int)) i := by
  have more : ∀ S : List (Nat × Nat), (∀ p ∈ S, p ∈ B) → rk P (A ++ e :: S) = rk P (A ++ S) + 1 := fun S hS => by
    have h1 : rk P ((A ++ S) ++ [(e.1, e.2)]) = rk P (A ++ S) + 1 := rk_join nd he.1 he.2 fun z => c (z.sub fun p hp => by
      rcases List.mem_append.mp hp with hp | hp
      · exact List.mem_append_left _ hp
      · exact List.mem_append_right _ (hS p hp))
    rw [← h1]
    refine rk_same fun p => ?_
    simp only [List.mem_append, List.mem_cons, List.mem_singleton, List.not_mem_nil, or_false]
    constructor
    · rintro (h | h | h)
      · exact .inl (.inl h)
      · exact .inr h
      · exact .inl (.inr h)
    · rintro ((h | h) | h)
      · exact .inl h
      · exact .inr (.inr h)
      · exact .inr (.inl h)
  rw [cc_cons nd]
  unfold bump
  have hB := more B fun p hp => hp
  have e1 : (sb B).countP (fun S => decide (rk P (A ++ S) + i = rk P (A ++ e :: B) ∧ rk P (A ++ S) + j = rk P A + S.length)) = if i = 0 then 0 else cc P A B (i - 1) j := by
    by_cases hi : i = 0
    · rw [if_pos hi]
      refine cp_none fun S hS => ?_
      rintro ⟨h1, _⟩
      have : rk P (A ++ S) ≤ rk P (A ++ B) := rk_sub nd fun p hp => by
        rcases List.mem_append.mp hp with hp | hp
        · exact List.mem_append_left _ hp
        · exact List.mem_append_right _ ((mem_sb hS).subset hp)
      omega
    · rw [if_neg hi]
      refine cp_congr fun S hS => ?_
      rw [hB]
      constructor <;> rintro ⟨a, b⟩ <;> exact ⟨by omega, b⟩
  have e2 : (sb B).countP (fun S => decide (rk P (A ++ e :: S) + i = rk P (A ++ e :: B) ∧ rk P (A ++ e :: S) + j = rk P A + (S.length + 1))) = cc P A B i j := by
    refine cp_congr fun S hS => ?_
    rw [hB, more S fun p hp => (mem_sb hS).subset hp]
    constructor <;> rintro ⟨a, b⟩ <;> exact ⟨by omega, by omega⟩
  rw [e1, e2]
  by_cases hi : i = 0
  · rw [if_pos hi, if_pos hi]; simp
  · rw [if_neg hi, if_neg hi]; simp; omega
theorem cc_both {A B : List (Nat × Nat)} {e : Nat × Nat} (he : e.1 ∈ P ∧ e.2 ∈ P) (c1 : Conn (A ++ B) e.1 e.2) (c2 : ¬ Conn A e.1 e.2) (i j : Nat) : cc P A (e :: B) i j = cc P A B i j + cc P (A ++ [e]) B i j := by
  have hB : rk P (A ++ e :: B) = rk P (A ++ B) := by
    have a : rk P (A ++ e :: B) ≤ rk P (A ++ B) := rk_mono nd fun p hp => by
      rcases List.mem_append.mp hp with hp | hp
      · exact .tie (List.mem_append_left _ hp)
      · rcases List.mem_cons.mp hp with rfl | hp
        · exact c1
        · exact .tie (List.mem_append_right _ hp)
    have b : rk P (A ++ B) ≤ rk P (A ++ e :: B) := rk_sub nd fun p hp => by
      rcases List.mem_append.mp hp with hp | hp
      · exact List.mem_append_left _ hp
      · exact List.mem_append_right _ (by simp [hp])
    omega
  have hA : rk P (A ++ [e]) = rk P A + 1 := rk_join (P := P) (E := A) (u := e.1) (v := e.2) nd he.1 he.2 c2
  rw [cc_cons nd]
  congr 1
  · rw [hB]; rfl
  · refine cp_congr fun S hS => ?_
    rw [List.append_assoc, List.append_assoc, hA]
    show (rk P (A ++ ([e] ++ S)) + i = rk P (A ++ ([e] ++ B)) ∧ rk P (A ++ ([e] ++ S)) + j = rk P A + (S.length + 1)) ↔ _
    constructor <;> rintro ⟨a, b⟩ <;> exact ⟨a, by omega⟩
end
theorem cf00 (j : Nat) : cf 0 j = if j = 0 then 1 else 0 := by
  cases j with
  | zero => decide
  | succ j => unfold cf; rw [show bin 0 (j + 1) = 0 from rfl]; simp
/-- the table's numbers -/
theorem tab_pos {P : List Nat} (nd : P.Nodup) : ∀ (B A : List (Nat × Nat)), Ok P A → Ok P B → ∀ (n m : Nat), B.length < n → B.length < m → ∀ i j, 0 ≤ ex2 n m (fun p q => (cc P A B p q : Int)) i j
  | [], A, _, _, n, m, hn, hm, i, j => by
    obtain ⟨n, rfl⟩ : ∃ k, n = k + 1 := ⟨n - 1, by omega⟩
    obtain ⟨m, rfl⟩ : ∃ k, m = k + 1 := ⟨m - 1, by omega⟩
    have hc : ∀ p q, cc P A [] p q = if p = 0 ∧ q = 0 then 1 else 0 := fun p q => by
      show List.countP _ [[]] = _
      rw [List.countP_singleton]
      simp only [List.append_nil, List.length_nil, decide_eq_true_eq]
      have : (rk P A + p = rk P A ∧ rk P A + q = rk P A + 0) ↔ (p = 0 ∧ q = 0) := by omega
      simp only [this]
    have e1 : ∀ p, ex (m + 1) (fun q => (cc P A [] p q : Int)) j = if p = 0 then cf 0 j else 0 := fun p => by
      unfold ex
      rw [sm_first]
      have : (sm m fun q => ((cc P A [] p (q + 1) : Nat) : Int) * cf (q + 1) j) = 0 := (sm_congr fun q _ => by rw [hc, if_neg (by omega)]; simp).trans (sm_const m)
      rw [this]
      show ((cc P A [] p 0 : Nat) : Int) * cf 0 j + 0 = _
      rw [hc]
      by_cases z : p = 0 <;> simp [z]
    have e2 : ex2 (n + 1) (m + 1) (fun p q => (cc P A [] p q : Int)) i j = cf 0 j * cf 0 i := by
      unfold ex2
      rw [ex_congr (g := fun p => if p = 0 then cf 0 j else 0) fun p _ => e1 p]
      unfold ex
      rw [sm_first]
      have : (sm n fun p => (if p + 1 = 0 then cf 0 j else 0) * cf (p + 1) i) = 0 := (sm_congr fun p _ => by rw [if_neg (by omega), Int.zero_mul]).trans (sm_const n)
      rw [this]; simp
    rw [e2, cf00, cf00]
    split <;> split <;> simp
  | e :: B, A, okA, okB, n, m, hn, hm, i, j => by
    rw [List.length_cons] at hn hm
    obtain ⟨n, rfl⟩ : ∃ k, n = k + 1 := ⟨n - 1, by omega⟩
    obtain ⟨m, rfl⟩ : ∃ k, m = k + 1 := ⟨m - 1, by omega⟩
    have he := okB e (List.mem_cons_self ..)
    have okB' : Ok P B := fun p hp => okB p (List.mem_cons_of_mem _ hp)
    have ih := tab_pos nd B A okA okB' (n + 1) (m + 1) (by omega) (by omega)
    by_cases c2 : Conn A e.1 e.2
    · have e1 : ∀ p, ex (m + 1) (fun q => (cc P A (e :: B) p q : Int)) j = if j = 0 then 0 else ex (m + 1) (fun q => (cc P A B p q : Int)) (j - 1) := fun p => by
        rw [ex_congr (g := bump fun q => (cc P A B p q : Int)) fun q _ => cc_loop nd okB' c2 p q]
        exact ex_bump (fun q hq => by rw [cc_far nd okB' (.inr (by omega))]; rfl) j
      unfold ex2
      rw [ex_congr (fun p _ => e1 p)]
      by_cases hj : j = 0
      · rw [ex_congr (g := fun _ => 0) fun p _ => by rw [if_pos hj]]
        unfold ex
        rw [(sm_congr fun p _ => Int.zero_mul _).trans (sm_const _)]
        exact Int.le_refl _
      · rw [ex_congr (g := fun p => ex (m + 1) (fun q => (cc P A B p q : Int)) (j - 1)) fun p _ => by rw [if_neg hj]]
        exact ih i (j - 1)
    · by_cases c1 : Conn (A ++ B) e.1 e.2
      · have okA' : Ok P (A ++ [e]) := fun p hp => by
          rcases List.mem_append.mp hp with hp | hp
          · exact okA p hp
          · rw [List.mem_singleton] at hp; rw [hp]; exact he
        have ih2 := tab_pos nd B (A ++ [e]) okA' okB' (n + 1) (m + 1) (by omega) (by omega)
        have e1 : ex2 (n + 1) (m + 1) (fun p q => (cc P A (e :: B) p q : Int)) i j = ex2 (n + 1) (m + 1) (fun p q => (cc P A B p q : Int)) i j + ex2 (n + 1) (m + 1) (fun p q => (cc P (A ++ [e]) B p q : Int)) i j := by
          unfold ex2
          rw [← ex_add]
          refine ex_congr (fun p _ => ?_) i
          rw [← ex_add]
          exact ex_congr (fun q _ => by show ((cc P A (e :: B) p q : Nat) : Int) = (cc P A B p q : Nat) + (cc P (A ++ [e]) B p q : Nat); rw [cc_both nd he c1 c2]; simp) j
        rw [e1]
        have := ih i j
        have := ih2 i j
        omega
      · have e1 : ∀ p, ex (m + 1) (fun q => (cc P A (e :: B) p q : Int)) j = bump (fun p => ex (m + 1) (fun q => (cc P A B p q : Int)) j) p := fun p => by
          unfold bump
          have e2 : ex (m + 1) (fun q => (cc P A (e :: B) p q : Int)) j = ex (m + 1) (fun q => (cc P A B p q : Int) + (if p = 0 then 0 else (cc P A B (p - 1) q : Int))) j := ex_congr (fun q _ => by rw [cc_bridge nd okB' he c1]; rfl) j
          rw [e2, ex_add]
          congr 1
          by_cases hp : p = 0
          · rw [if_pos hp, ex_congr (g := fun _ => 0) fun q _ => by rw [if_pos hp]]
            unfold ex
            exact (sm_congr fun p _ => Int.zero_mul _).trans (sm_const _)
          · rw [if_neg hp, ex_congr (g := fun q => (cc P A B (p - 1) q : Int)) fun q _ => by rw [if_neg hp]]
        unfold ex2
        rw [ex_congr (fun p _ => e1 p)]
        rw [ex_bump (fun p hp => by
          unfold ex
          exact (sm_congr fun q _ => by show ((cc P A B p q : Nat) : Int) * cf q j = 0; rw [cc_far nd okB' (.inl (by omega))]; simp).trans (sm_const _)) i]
        by_cases hi : i = 0
        · rw [if_pos hi]; exact Int.le_refl _
        · rw [if_neg hi]; exact ih (i - 1) j
end K15
/-! lots counted, tables, values: what each def promises -/
namespace K15
open PySem L2 G T
noncomputable def cN (P : List Nat) (T : List (Nat × Nat)) (i j : Nat) : Nat := (lots T.length).countP fun L => decide (rk P (tl T L) + i = rk P T ∧ rk P (tl T L) + j = L.length)
noncomputable def cI (P : List Nat) (T : List (Nat × Nat)) (i j : Nat) : Int := (cN P T i j : Nat)
/-- a table of numbers -/
def rowI (b : Nat) (f : Nat → Int) : List D := (List.range b).map fun j => .int (f j)
def tabI (a b : Nat) (f : Nat → Nat → Int) : List (List D) := (List.range a).map fun i => rowI b (f i)
noncomputable abbrev hi (P : List Nat) (T : List (Nat × Nat)) : Nat := rk P T
noncomputable abbrev wi (P : List Nat) (T : List (Nat × Nat)) : Nat := T.length - rk P T
noncomputable def tE (P : List Nat) (T : List (Nat × Nat)) : Nat → Nat → Int := ex2 (hi P T + 1) (wi P T + 1) (cI P T)
def tupT (rows : List (List D)) : D := .tup (rows.map D.tup)
def lstT (rows : List (List D)) : D := .lst (rows.map D.lst)
structure Fr (a b : Int) : Prop where
  lo : -1000000 ≤ a
  up : a ≤ 1000000
  pos : 1 ≤ b
  few : b ≤ 1000
  co : Int.gcd a b = 1
def prD (a b : Int) : D := .tup [.int a, .int b]
def frD (a b : Int) : D := prD (a / (Int.gcd a b : Nat)) (b / (Int.gcd a b : Nat))
def Sm (x : Int) : Prop := x.natAbs < 2 ^ 20
noncomputable def vTop (P : List Nat) (T : List (Nat × Nat)) (a b c d : Int) : Int := S2 (hi P T + 1) (wi P T + 1) (cI P T) (a - b) b (c - d) d
noncomputable def vBot (P : List Nat) (T : List (Nat × Nat)) (b d : Int) : Int := b ^ hi P T * d ^ wi P T
def S_common_divisor : G.Spec := fun as m Q => ∃ a b : Int, as = [.val (.int a), .val (.int b)] ∧ Q (natD (Int.gcd a b)) m
def S_fraction : G.Spec := fun as m Q => ∃ a b : Int, 0 < b ∧ b.natAbs < 2 ^ 400 ∧ as = [.val (.int a), .val (.int b)] ∧ Q (frD a b) m
def S_is_fraction : G.Spec := fun as m Q => ∃ a b : Int, Fr a b ∧ as = [.val (prD a b)] ∧ Q (.bl true) m
def S_every_lot : G.Spec := fun as m Q => ∃ P T, T.length ≤ 11 ∧ as = [.val (webD P T)] ∧ Q (.lst ((lots T.length).map lotD)) m
def S_empty_rows : SpecT := fun as m Q => ∃ P T, WbOk P T ∧ as = [.val (webD P T)] ∧ Q (tabI (hi P T + 1) (wi P T + 1) fun _ _ => 0) m
def S_as_table : G.Spec := fun as m Q => ∃ rows : List (List D), rows.length ≤ 100 ∧ as = [.val (lstT rows)] ∧ Q (tupT rows) m
def S_counted_lots : G.Spec := fun as m Q => ∃ P T, WbOk P T ∧ as = [.val (webD P T)] ∧ Q (lstT (tabI (hi P T + 1) (wi P T + 1) (cI P T))) m
def S_lot_counts : G.Spec := fun as m Q => ∃ P T, WbOk P T ∧ as = [.val (webD P T)] ∧ Q (tupT (tabI (hi P T + 1) (wi P T + 1) (cI P T))) m
def S_ways_to_choose : G.Spec := fun as m Q => ∃ n k : Nat, k ≤ n ∧ n ≤ 12 ∧ as = [.val (natD n), .val (natD k)] ∧ Q (natD (bin n k)) m
def S_shifted : G.Spec := fun as m Q => ∃ (n : Nat) (f : Nat → Int), n ≤ 12 ∧ as = [.val (.lst (rowI n f))] ∧ Q (.lst (rowI n (ex n f))) m
def S_table_rows : G.Spec := fun as m Q => ∃ P T, WbOk P T ∧ as = [.val (webD P T)] ∧ Q (lstT (tabI (hi P T + 1) (wi P T + 1) (tE P T))) m
def S_table : G.Spec := fun as m Q => ∃ P T, WbOk P T ∧ as = [.val (webD P T)] ∧ Q (tupT (tabI (hi P T + 1) (wi P T + 1) (tE P T))) m
def S_power : G.Spec := fun as m Q => ∃ (x : Int) (n : Nat), Sm x ∧ n ≤ 12 ∧ as = [.val (.int x), .val (natD n)] ∧ Q (.int (x ^ n)) m
def S_value : G.Spec := fun as m Q => ∃ P T a b c d, WbOk P T ∧ Fr a b ∧ Fr c d ∧ as = [.val (webD P T), .val (prD a b), .val (prD c d)] ∧ Q (frD (vTop P T a b c d) (vBot P T b d)) m
def S_law_counted : G.Spec := fun as m Q => ∃ P T, WbOk P T ∧ as = [.val (plD P), .val (.tup (T.map wayD))] ∧ Q (tupT (tabI (hi P T + 1) (wi P T + 1) (cI P T))) m
def S_law_power : G.Spec := S_power
def S_law_sum : G.Spec := fun as m Q => ∃ (a b : Nat) (f : Nat → Nat → Int) (x0 x1 y0 y1 : Int), a ≤ 11 ∧ b ≤ 11 ∧ (∀ i j, i ≤ a → j ≤ b → (f i j).natAbs < 2 ^ 60) ∧ Sm x0 ∧ Sm x1 ∧ Sm y0 ∧ Sm y1 ∧ as = [.val (tupT (tabI (a + 1) (b + 1) f)), .val (prD x0 x1), .val (prD y0 y1)] ∧ Q (prD (S2 (a + 1) (b + 1) f x0 x1 y0 y1) (x1 ^ a * y1 ^ b)) m
def S_law_common : G.Spec := fun as m Q => ∃ a b : Int, b.natAbs < 2 ^ 190 ∧ as = [.val (.int a), .val (.int b)] ∧ Q (natD (Int.gcd a b)) m
def S_law_fraction : G.Spec := fun as m Q => as = [.cask] ∧ ∀ a b, Fr a b → Q (prD a b) m
def S_law_table_right : G.Spec := fun as m Q => ∃ P T, WbOk P T ∧ T.length ≤ 6 ∧ as = [.val (tupT (tabI (hi P T + 1) (wi P T + 1) (tE P T))), .val (tupT (tabI (hi P T + 1) (wi P T + 1) (cI P T)))] ∧ Q (.bl true) m
def S_law_right : G.Spec := fun as m Q => as = [.cask] ∧ Q (.bl true) m
theorem S_common_divisor_len : ∀ as m Q, S_common_divisor as m Q → as.length = 2 := by rintro as m Q ⟨_, _, rfl, _⟩; rfl
theorem S_fraction_len : ∀ as m Q, S_fraction as m Q → as.length = 2 := by rintro as m Q ⟨_, _, _, _, rfl, _⟩; rfl
theorem S_is_fraction_len : ∀ as m Q, S_is_fraction as m Q → as.length = 1 := by rintro as m Q ⟨_, _, _, rfl, _⟩; rfl
theorem S_every_lot_len : ∀ as m Q, S_every_lot as m Q → as.length = 1 := by rintro as m Q ⟨_, _, _, rfl, _⟩; rfl
theorem S_empty_rows_len : ∀ as m Q, S_empty_rows as m Q → as.length = 1 := by rintro as m Q ⟨_, _, _, rfl, _⟩; rfl
theorem S_as_table_len : ∀ as m Q, S_as_table as m Q → as.length = 1 := by rintro as m Q ⟨_, _, rfl, _⟩; rfl
theorem S_counted_lots_len : ∀ as m Q, S_counted_lots as m Q → as.length = 1 := by rintro as m Q ⟨_, _, _, rfl, _⟩; rfl
theorem S_lot_counts_len : ∀ as m Q, S_lot_counts as m Q → as.length = 1 := by rintro as m Q ⟨_, _, _, rfl, _⟩; rfl
theorem S_ways_to_choose_len : ∀ as m Q, S_ways_to_choose as m Q → as.length = 2 := by rintro as m Q ⟨_, _, _, _, rfl, _⟩; rfl
theorem S_shifted_len : ∀ as m Q, S_shifted as m Q → as.length = 1 := by rintro as m Q ⟨_, _, _, rfl, _⟩; rfl
theorem S_table_rows_len : ∀ as m Q, S_table_rows as m Q → as.length = 1 := by rintro as m Q ⟨_, _, _, rfl, _⟩; rfl
theorem S_table_len : ∀ as m Q, S_table as m Q → as.length = 1 := by rintro as m Q ⟨_, _, _, rfl, _⟩; rfl
theorem S_power_len : ∀ as m Q, S_power as m Q → as.length = 2 := by rintro as m Q ⟨_, _, _, _, rfl, _⟩; rfl
theorem S_value_len : ∀ as m Q, S_value as m Q → as.length = 3 := by rintro as m Q ⟨_, _, _, _, _, _, _, _, _, rfl, _⟩; rfl
theorem S_law_counted_len : ∀ as m Q, S_law_counted as m Q → as.length = 2 := by rintro as m Q ⟨_, _, _, rfl, _⟩; rfl
theorem S_law_power_len : ∀ as m Q, S_law_power as m Q → as.length = 2 := S_power_len
theorem S_law_sum_len : ∀ as m Q, S_law_sum as m Q → as.length = 3 := by rintro as m Q ⟨_, _, _, _, _, _, _, _, _, _, _, _, _, _, rfl, _⟩; rfl
theorem S_law_common_len : ∀ as m Q, S_law_common as m Q → as.length = 2 := by rintro as m Q ⟨_, _, _, rfl, _⟩; rfl
theorem S_law_fraction_len : ∀ as m Q, S_law_fraction as m Q → as.length = 1 := by rintro as m Q ⟨rfl, _⟩; rfl
theorem S_law_table_right_len : ∀ as m Q, S_law_table_right as m Q → as.length = 2 := by rintro as m Q ⟨_, _, _, _, rfl, _⟩; rfl
theorem S_law_right_len : ∀ as m Q, S_law_right as m Q → as.length = 1 := by rintro as m Q ⟨rfl, _⟩; rfl
end K15
namespace K15
open PySem L2 G T

def pm0 {α : Type} : List α → List α
  | [x0] => [x0]
  | l => l
def pm120 {α : Type} : List α → List α
  | [x0, x1, x2] => [x1, x2, x0]
  | l => l
def d_common_divisor : DS := (dSeq (dPar 0 1 (dConsL (dCallB absD (dConsL (dVarB 0) dNilL)) (dConsL (dCallB absD (dConsL (dVarB 1) dNilL)) dNilL)))
  (dSeq (dWhile (dTest (dOp neD (dVarB 1) (dC (.int 0)))) (dPar 0 1 (dConsL (dVar 1) (dConsL (dOp modD (dVarB 0) (dVarB 1)) dNilL))))
  (dRet (dVar 0))))

abbrev n_common_divisor : Nat := 2
-- 0 one, 1 other

def d_fraction : DS := (dSeq (dAsg 2 (dOp mulWD (dCall S_common_divisor (dConsA (dVar 0) (dConsA (dVar 1) dNilA))) (dIfE (dTest (dOp gtD (dVarB 1) (dC (.int 0)))) (dC (.int 1)) (dC (.int (-1))))))
  (dRet (dTup (dConsL (dOp fdivWD (dVarB 0) (dVarB 2)) (dConsL (dOp fdivWD (dVarB 1) (dVarB 2)) dNilL)))))

abbrev n_fraction : Nat := 3
-- 0 top, 1 bottom, 2 common

def d_is_fraction : DS := (dSeq (dIf (dOr (dNot (dTest (dIsi isTupD (dVarB 0)))) (dTest (dOp neD (dCallB lenD0 (dConsL (dVarB 0) dNilL)) (dC (.int 2))))) (dRet (dC (.bl false))) dNext)
  (dSeq (dIf (dOr (dNot (dTest (dCall S_is_between (dConsA (dOp ixD (dVarB 0) (dC (.int 0))) (dConsA (dNeg (dC (.int 1000000))) (dConsA (dC (.int 1000000)) dNilA)))))) (dNot (dTest (dCall S_is_between (dConsA (dOp ixD (dVarB 0) (dC (.int 1))) (dConsA (dC (.int 1)) (dConsA (dC (.int 1000)) dNilA))))))) (dRet (dC (.bl false))) dNext)
  (dRet (dOp eqD (dCall S_common_divisor (dConsA (dOp ixD (dVarB 0) (dC (.int 0))) (dConsA (dOp ixD (dVarB 0) (dC (.int 1))) dNilA))) (dC (.int 1))))))

abbrev n_is_fraction : Nat := 1
-- 0 value

def d_every_lot : DS := (dSeq (dAsg 1 (dNew (dLst (dConsL (dTup dNilL) dNilL))))
  (dSeq (dFor (dISrc (dCall S_every_tie (dConsA (dVar 0) dNilA))) (tgN 2) (dAsg 1 (dOp addD (dVarB 1) (dNew (dLc (dISrc (dVarB 1)) (tgN 3) dYes (dOp addD (dVarB 3) (dTup (dConsL (dVar 2) dNilL))) [3])))))
  (dRet (dNew (dCallN sorted0D (dConsL (dVarB 1) dNilL))))))

abbrev n_every_lot : Nat := 4
-- 0 web, 1 found, 2 index, 3 lot

def d1_empty_rows : DS := (dAsg 1 (dCall S_every_tie (dConsA (dVar 0) dNilA)))
def d2_empty_rows : DR := (dLt (dIRng (dOp addD (dCall S_rank_of (dConsA (dVar 0) (dConsA (dVar 1) dNilA))) (dC (.int 1)))) (tgN 2) (dRepL (dNew (dLst (dConsL (dC (.int 0)) dNilL))) (dOp addD (dCall S_spare_of (dConsA (dVar 0) (dConsA (dVar 1) dNilA))) (dC (.int 1)))) [2])

abbrev n_empty_rows : Nat := 3
-- 0 web, 1 whole, 2 turn

def d_as_table : DS := (dRet (dCallB tupleD (dConsL (dNew (dLc (dISrc (dVarB 0)) (tgN 1) dYes (dCallB tupleD (dConsL (dVarB 1) dNilL)) [1])) dNilL)))

abbrev n_as_table : Nat := 2
-- 0 rows, 1 row

def d_counted_lots : DS := (dSeq (dMix [1, 2] (dConsT (dCallT S_empty_rows (dConsA (dVar 0) dNilA)) (dConsA (dCall S_rank_of (dConsA (dVar 0) (dConsA (dCall S_every_tie (dConsA (dVar 0) dNilA)) dNilA))) dNilA)))
  (dSeq (dFor (dISrc (dCall S_every_lot (dConsA (dVar 0) dNilA))) (tgN 3) (dAugT (· + ·) 1 (dOp subD (dVarB 2) (dCall S_rank_of (dConsA (dVar 0) (dConsA (dVar 3) dNilA)))) (dCall S_spare_of (dConsA (dVar 0) (dConsA (dVar 3) dNilA))) (dC (.int 1))))
  (dFreezeT 1 (dRet (dVar 1)))))

abbrev n_counted_lots : Nat := 4
-- 0 web, 1 rows, 2 most, 3 lot

def d_lot_counts : DS := (dSeq (dDrop (dCall S_check_web (dConsA (dVar 0) dNilA)))
  (dRet (dCall S_as_table (dConsA (dCall S_counted_lots (dConsA (dVar 0) dNilA)) dNilA))))

abbrev n_lot_counts : Nat := 1
-- 0 web

def d_ways_to_choose : DS := (dSeq (dAsg 2 (dC (.int 1)))
  (dSeq (dFor (dIRng (dVar 1)) (tgN 3) (dAsg 2 (dOp fdivD (dOp mulD (dVarB 2) (dOp subD (dVarB 0) (dVarB 3))) (dOp addD (dVarB 3) (dC (.int 1))))))
  (dRet (dVar 2))))

abbrev n_ways_to_choose : Nat := 4
-- 0 many, 1 some, 2 found, 3 turn

def d_shifted : DS := (dSeq (dAsgW 1 (dNew (dRepL (dNew (dLst (dConsL (dC (.int 0)) dNilL))) (dCallB lenD0 (dConsL (dVarB 0) dNilL)))))
  (dSeq (dFor (dIEnum (dVar 0)) (tgT (tgCons (tgN 2) (tgCons (tgN 3) tgNil)) 2) (dFor (dIRng (dOp addD (dVarB 2) (dC (.int 1)))) (tgN 4) (dAugL 1 (dVar 4) (dOp mulD (dOp mulD (dVarB 3) (dCall S_ways_to_choose (dConsA (dVar 2) (dConsA (dVar 4) dNilA)))) (dIfE (dTest (dOp eqD (dOp modD (dOp subD (dVarB 2) (dVarB 4)) (dC (.int 2))) (dC (.int 1)))) (dC (.int (-1))) (dC (.int 1)))))))
  (dRetO 1)))

abbrev n_shifted : Nat := 5
-- 0 row, 1 found own, 2 power, 3 number, 4 lower

def d_table_rows : DS := (dSeq (dAsg 1 (dNew (dLc (dISrc (dCall S_counted_lots (dConsA (dVar 0) dNilA))) (tgN 3) dYes (dCall S_shifted (dConsA (dVar 3) dNilA)) [3])))
  (dSeq (dAsg 2 (dNew (dLc (dIRng (dCallB lenD0 (dConsL (dOp ixD (dVarB 1) (dC (.int 0))) dNilL))) (tgN 4) dYes (dCall S_shifted (dConsA (dNew (dLc (dISrc (dVarB 1)) (tgN 3) dYes (dOp ixD (dVarB 3) (dVarB 4)) [3])) dNilA)) [4])))
  (dRet (dNew (dLc (dIRng (dCallB lenD0 (dConsL (dVarB 1) dNilL))) (tgN 4) dYes (dNew (dLc (dISrc (dVarB 2)) (tgN 5) dYes (dOp ixD (dVarB 5) (dVarB 4)) [5])) [4])))))

abbrev n_table_rows : Nat := 6
-- 0 web, 1 rows, 2 columns, 3 row, 4 place, 5 column

def d_table : DS := (dSeq (dDrop (dCall S_check_web (dConsA (dVar 0) dNilA)))
  (dRet (dCall S_as_table (dConsA (dCall S_table_rows (dConsA (dVar 0) dNilA)) dNilA))))

abbrev n_table : Nat := 1
-- 0 web

def d_power : DS := (dSeq (dAsg 2 (dC (.int 1)))
  (dSeq (dFor (dIRng (dVar 1)) (tgN 3) (dAsg 2 (dOp mulWD (dVarB 2) (dVarB 0))))
  (dRet (dVar 2))))

abbrev n_power : Nat := 4
-- 0 number, 1 many, 2 found, 3 turn

def d_value : DS := (dSeq (dDrop (dCall S_check_web (dConsA (dVar 0) dNilA)))
  (dSeq (dFor (dISrc (dTup (dConsL (dVar 1) (dConsL (dVar 2) dNilL)))) (tgN 3) (dIf (dNot (dTest (dCall S_is_fraction (dConsA (dVar 3) dNilA)))) dNever dNext))
  (dSeq (dAsg 4 (dCall S_table_rows (dConsA (dVar 0) dNilA)))
  (dSeq (dMix [5, 6, 7] (dConsA (dOp subD (dCallB lenD0 (dConsL (dVarB 4) dNilL)) (dC (.int 1))) (dConsA (dOp subD (dCallB lenD0 (dConsL (dOp ixD (dVarB 4) (dC (.int 0))) dNilL)) (dC (.int 1))) (dConsA (dC (.int 0)) dNilA))))
  (dSeq (dFor (dIEnum (dVar 4)) (tgT (tgCons (tgN 8) (tgCons (tgN 9) tgNil)) 2) (dFor (dIEnum (dVar 9)) (tgT (tgCons (tgN 10) (tgCons (tgN 11) tgNil)) 2) (dAugN 7 (dOp mulWD (dOp mulWD (dOp mulWD (dOp mulWD (dVarB 11) (dCall S_power (dConsA (dOp ixD (dVarB 1) (dC (.int 0))) (dConsA (dVar 8) dNilA)))) (dCall S_power (dConsA (dOp ixD (dVarB 1) (dC (.int 1))) (dConsA (dOp subD (dVarB 5) (dVarB 8)) dNilA)))) (dCall S_power (dConsA (dOp ixD (dVarB 2) (dC (.int 0))) (dConsA (dVar 10) dNilA)))) (dCall S_power (dConsA (dOp ixD (dVarB 2) (dC (.int 1))) (dConsA (dOp subD (dVarB 6) (dVarB 10)) dNilA)))))))
  (dRet (dCall S_fraction (dConsA (dVar 7) (dConsA (dOp mulWD (dCall S_power (dConsA (dOp ixD (dVarB 1) (dC (.int 1))) (dConsA (dVar 5) dNilA))) (dCall S_power (dConsA (dOp ixD (dVarB 2) (dC (.int 1))) (dConsA (dVar 6) dNilA)))) dNilA)))))))))

abbrev n_value : Nat := 12
-- 0 web, 1 x, 2 y, 3 one, 4 rows, 5 high, 6 wide, 7 top, 8 i, 9 row, 10 j, 11 number

def d_law_counted : DS := (dSeq (dAsg 2 (dCall S_law_rank (dConsA (dVar 0) (dConsA (dVar 1) dNilA))))
  (dSeq (dAsgTb 3 (dLt (dIRng (dOp addD (dVarB 2) (dC (.int 1)))) (tgN 8) (dRepL (dNew (dLst (dConsL (dC (.int 0)) dNilL))) (dOp addD (dOp subD (dCallB lenD0 (dConsL (dVarB 1) dNilL)) (dVarB 2)) (dC (.int 1)))) [8]))
  (dSeq (dFor (dISrc (dCall S_law_lots (dConsA (dCallB lenD0 (dConsL (dVarB 1) dNilL)) dNilA))) (tgN 4) (dSeq (dAsg 5 (dCall S_law_rank (dConsA (dVar 0) (dConsA (dNew (dLc (dISrc (dVarB 4)) (tgN 8) dYes (dOp ixD (dVarB 1) (dVarB 8)) [8])) dNilA))))
  (dSeq (dPar 6 7 (dConsL (dOp subD (dVarB 2) (dVarB 5)) (dConsL (dOp subD (dCallB lenD0 (dConsL (dVarB 4) dNilL)) (dVarB 5)) dNilL)))
  (dSetT 3 (dOp addD (dIxT 3 (dVar 6) (dVar 7)) (dC (.int 1))) (dVar 6) (dVar 7)))))
  (dFreezeT 3 (dRet (dCallB tupleD (dConsL (dNew (dLc (dISrc (dVarB 3)) (tgN 9) dYes (dCallB tupleD (dConsL (dVarB 9) dNilL)) [9])) dNilL)))))))

abbrev n_law_counted : Nat := 10
-- 0 _law_places, 1 _law_ties, 2 _law_top, 3 _law_found, 4 _law_lot, 5 _law_joined, 6 _law_i, 7 _law_j, 8 _law_k, 9 _law_row

def d_law_power : DS := (dSeq (dAsg 2 (dC (.int 1)))
  (dSeq (dFor (dIRng (dVar 1)) (tgN 3) (dAsg 2 (dOp mulWD (dVarB 2) (dVarB 0))))
  (dRet (dVar 2))))

abbrev n_law_power : Nat := 4
-- 0 _law_number, 1 _law_many, 2 _law_found, 3 _law_turn

def d_law_sum : DS := (dSeq (dMix [3, 4, 5] (dConsA (dOp subD (dCallB lenD0 (dConsL (dVarB 0) dNilL)) (dC (.int 1))) (dConsA (dOp subD (dCallB lenD0 (dConsL (dOp ixD (dVarB 0) (dC (.int 0))) dNilL)) (dC (.int 1))) (dConsA (dC (.int 0)) dNilA))))
  (dSeq (dFor (dIRng (dOp addD (dVarB 3) (dC (.int 1)))) (tgN 6) (dFor (dIRng (dOp addD (dVarB 4) (dC (.int 1)))) (tgN 7) (dSeq (dAsg 8 (dOp mulWD (dCall S_law_power (dConsA (dOp ixD (dVarB 1) (dC (.int 0))) (dConsA (dVar 6) dNilA))) (dCall S_law_power (dConsA (dOp ixD (dVarB 1) (dC (.int 1))) (dConsA (dOp subD (dVarB 3) (dVarB 6)) dNilA)))))
  (dAsg 5 (dOp addD (dVarB 5) (dOp mulWD (dOp mulWD (dOp mulWD (dOp ixD (dOp ixD (dVarB 0) (dVarB 6)) (dVarB 7)) (dVarB 8)) (dCall S_law_power (dConsA (dOp ixD (dVarB 2) (dC (.int 0))) (dConsA (dVar 7) dNilA)))) (dCall S_law_power (dConsA (dOp ixD (dVarB 2) (dC (.int 1))) (dConsA (dOp subD (dVarB 4) (dVarB 7)) dNilA)))))))))
  (dRet (dTup (dConsL (dVar 5) (dConsL (dOp mulWD (dCall S_law_power (dConsA (dOp ixD (dVarB 1) (dC (.int 1))) (dConsA (dVar 3) dNilA))) (dCall S_law_power (dConsA (dOp ixD (dVarB 2) (dC (.int 1))) (dConsA (dVar 4) dNilA)))) dNilL))))))

abbrev n_law_sum : Nat := 9
-- 0 _law_rows, 1 _law_left_x, 2 _law_right_y, 3 _law_high, 4 _law_wide, 5 _law_top, 6 _law_i, 7 _law_j, 8 _law_left

def d_law_common : DS := (dSeq (dPar 0 1 (dConsL (dCallB absD (dConsL (dVarB 0) dNilL)) (dConsL (dCallB absD (dConsL (dVarB 1) dNilL)) dNilL)))
  (dSeq (dFor (dIRng (dC (.int 400))) (tgN 2) (dSeq (dIf (dTest (dOp eqD (dVarB 1) (dC (.int 0)))) dBreak dNext)
  (dPar 0 1 (dConsL (dVar 1) (dConsL (dOp modD (dCallB intD (dConsL (dVarB 0) dNilL)) (dVarB 1)) dNilL)))))
  (dRet (dVar 0))))

abbrev n_law_common : Nat := 3
-- 0 _law_one, 1 _law_other, 2 _law_turn

def d_law_fraction : DS := (dSeq (dPar 1 2 (dConsL (dCall S_law_dip (dConsC 0 (dConsA (dC (.int 4)) dNilA))) (dConsL (dOp ixD (dNew (dLst (dConsL (dC (.int 1)) (dConsL (dC (.int (-1))) dNilL)))) (dCall S_law_dip (dConsC 0 (dConsA (dC (.int 2)) dNilA)))) dNilL)))
  (dSeq (dIf (dTest (dOp ltD (dVarB 1) (dC (.int 2)))) (dRet (dTup (dConsL (dCall S_law_any (dConsC 0 (dConsA (dNew (dLst (dConsL (dC (.int 0)) (dConsL (dC (.int 1)) (dConsL (dC (.int 2)) (dConsL (dC (.int (-1))) (dConsL (dC (.int 3)) (dConsL (dC (.int (-2))) dNilL)))))))) dNilA))) (dConsL (dC (.int 1)) dNilL)))) dNext)
  (dSeq (dPar 3 4 (dConsL (dCall S_law_dip (dConsC 0 (dConsA (dOp ixD (dNew (dLst (dConsL (dC (.int 10)) (dConsL (dOp addD (dOp powD (dC (.int 10)) (dC (.int 6))) (dC (.int 1))) dNilL)))) (dOp subD (dVarB 1) (dC (.int 2)))) dNilA))) (dConsL (dOp addD (dC (.int 1)) (dCall S_law_dip (dConsC 0 (dConsA (dOp ixD (dNew (dLst (dConsL (dC (.int 9)) (dConsL (dC (.int 1000)) dNilL)))) (dOp subD (dVarB 1) (dC (.int 2)))) dNilA)))) dNilL)))
  (dSeq (dAsg 5 (dCall S_law_common (dConsA (dVar 3) (dConsA (dVar 4) dNilA))))
  (dRet (dTup (dConsL (dOp mulD (dVarB 2) (dOp fdivD (dVarB 3) (dVarB 5))) (dConsL (dOp fdivD (dVarB 4) (dVarB 5)) dNilL))))))))

abbrev n_law_fraction : Nat := 6
-- 0 _law_pot_here, 1 _law_way, 2 _law_sign, 3 _law_top, 4 _law_bottom, 5 _law_by

def d_law_table_right : DS := (dSeq (dIf (dOr (dNot (dTest (dIsi isTupD (dVarB 0)))) (dTest (dOp neD (dNew (dLc (dISrc (dVarB 0)) (tgN 2) dYes (dCallB lenD0 (dConsL (dVarB 2) dNilL)) [2])) (dNew (dLc (dISrc (dVarB 1)) (tgN 2) dYes (dCallB lenD0 (dConsL (dVarB 2) dNilL)) [2]))))) (dRet (dC (.bl false))) dNext)
  (dSeq (dFor (dISrc (dVar 0)) (tgN 2) (dSeq (dIf (dOr (dNot (dTest (dIsi isTupD (dVarB 2)))) (dNot (dTest (dCallB allD (dConsL (dNew (dLc (dISrc (dVarB 2)) (tgN 5) dYes (dAndV (dIsi isIntD (dVarB 5)) (dOp geD (dVarB 5) (dC (.int 0)))) [5])) dNilL))))) (dRet (dC (.bl false))) dNext)
  (dIf (dTest (dOp inD (dC (.bl true)) (dNew (dLc (dISrc (dVarB 2)) (tgN 5) dYes (dIsi isBoolD (dVarB 5)) [5])))) (dRet (dC (.bl false))) dNext)))
  (dSeq (dFor (dIRng (dCallB lenD0 (dConsL (dVarB 1) dNilL))) (tgN 3) (dFor (dIRng (dCallB lenD0 (dConsL (dOp ixD (dVarB 1) (dC (.int 0))) dNilL))) (tgN 4) (dIf (dTest (dOp neD (dCall S_law_sum (dConsA (dVar 0) (dConsA (dTup (dConsL (dOp addD (dVarB 3) (dC (.int 1))) (dConsL (dC (.int 1)) dNilL))) (dConsA (dTup (dConsL (dOp addD (dVarB 4) (dC (.int 1))) (dConsL (dC (.int 1)) dNilL))) dNilA)))) (dCall S_law_sum (dConsA (dVar 1) (dConsA (dTup (dConsL (dVar 3) (dConsL (dC (.int 1)) dNilL))) (dConsA (dTup (dConsL (dVar 4) (dConsL (dC (.int 1)) dNilL))) dNilA)))))) (dRet (dC (.bl false))) dNext)))
  (dRet (dC (.bl true))))))

abbrev n_law_table_right : Nat := 6
-- 0 _law_told, 1 _law_counts, 2 _law_row, 3 _law_left_x, 4 _law_right_y, 5 _law_each

def d_law_right : DS := (dSeq (dAsgT (tgT (tgCons (tgN 1) (tgCons (tgN 2) tgNil)) 2) (dCall S_law_parts (dConsC 0 (dConsA (dC (.int 4)) (dConsA (dC (.int 6)) dNilA)))))
  (dSeq (dPar 3 4 (dConsL (dMake (dConsA (dVar 1) (dConsA (dVar 2) dNilA))) (dConsL (dCall S_law_counted (dConsA (dVar 1) (dConsA (dVar 2) dNilA))) dNilL)))
  (dSeq (dIf (dOr (dTest (dOp neD (dCallB reprD (dConsL (dCall S_lot_counts (dConsA (dVar 3) dNilA)) dNilL)) (dCallB reprD (dConsL (dVarB 4) dNilL)))) (dTest (dOp neD (dCallK S_lot_counts pm0 (dConsA (dVar 3) dNilA)) (dVarB 4)))) (dRet (dC (.bl false))) dNext)
  (dSeq (dIf (dOr (dNot (dTest (dCall S_law_table_right (dConsA (dCall S_table (dConsA (dVar 3) dNilA)) (dConsA (dVar 4) dNilA))))) (dTest (dOp neD (dCallK S_table pm0 (dConsA (dVar 3) dNilA)) (dCall S_table (dConsA (dVar 3) dNilA))))) (dRet (dC (.bl false))) dNext)
  (dSeq (dFor (dIRng (dC (.int 3))) (tgN 5) (dSeq (dPar 6 7 (dConsL (dCall S_law_fraction (dConsC 0 dNilA)) (dConsL (dCall S_law_fraction (dConsC 0 dNilA)) dNilL)))
  (dSeq (dAsgT (tgT (tgCons (tgN 8) (tgCons (tgN 9) tgNil)) 2) (dCall S_law_sum (dConsA (dVar 4) (dConsA (dTup (dConsL (dOp subD (dOp ixD (dVarB 6) (dC (.int 0))) (dOp ixD (dVarB 6) (dC (.int 1)))) (dConsL (dOp ixD (dVarB 6) (dC (.int 1))) dNilL))) (dConsA (dTup (dConsL (dOp subD (dOp ixD (dVarB 7) (dC (.int 0))) (dOp ixD (dVarB 7) (dC (.int 1)))) (dConsL (dOp ixD (dVarB 7) (dC (.int 1))) dNilL))) dNilA)))))
  (dSeq (dAsg 10 (dCall S_law_common (dConsA (dVar 8) (dConsA (dVar 9) dNilA))))
  (dSeq (dAsg 11 (dTup (dConsL (dOp fdivWD (dVarB 8) (dVarB 10)) (dConsL (dOp fdivWD (dVarB 9) (dVarB 10)) dNilL))))
  (dIf (dOr (dTest (dOp neD (dCallB reprD (dConsL (dCall S_value (dConsA (dVar 3) (dConsA (dVar 6) (dConsA (dVar 7) dNilA)))) dNilL)) (dCallB reprD (dConsL (dVarB 11) dNilL)))) (dTest (dOp neD (dCallK S_value pm120 (dConsA (dVar 7) (dConsA (dVar 3) (dConsA (dVar 6) dNilA)))) (dVarB 11)))) (dRet (dC (.bl false))) dNext))))))
  (dRet (dC (.bl true))))))))

abbrev n_law_right : Nat := 12
-- 0 _law_pot_here, 1 _law_places, 2 _law_ties, 3 _law_mine, 4 _law_counts, 5 _law_turn, 6 _law_left_x, 7 _law_right_y, 8 _law_top, 9 _law_bottom, 10 _law_by, 11 _law_due

end K15
namespace K15
open PySem L2 G T
/-! ### bounds -/
theorem lg {x : Int} {k : Nat} (h : x.natAbs < 2 ^ k) : x.natAbs.log2 ≤ k := by
  by_cases z : x.natAbs = 0
  · rw [z]; exact Nat.zero_le _
  · exact Nat.le_of_lt ((Nat.log2_lt z).mpr h)
theorem mulW_ok {x y : Int} {k l : Nat} (hx : x.natAbs < 2 ^ k) (hy : y.natAbs < 2 ^ l) (h : k + l < 1000000) : mulWD (.int x) (.int y) = some (.int (x * y)) := by
  have := lg hx
  have := lg hy
  exact if_pos (by omega)
theorem fdivW_ok {x y : Int} {l : Nat} (h0 : 0 < y) (hy : y.natAbs < 2 ^ l) (h : l < 9000) : fdivWD (.int x) (.int y) = some (.int (x / y)) := by
  have := lg hy
  exact if_pos ⟨h0, by omega⟩
theorem bd_mul {x y : Int} {k l : Nat} (hx : x.natAbs < 2 ^ k) (hy : y.natAbs < 2 ^ l) : (x * y).natAbs < 2 ^ (k + l) := by
  rw [Int.natAbs_mul, Nat.pow_add]
  exact Nat.mul_lt_mul'' hx hy
theorem bd_up {x : Int} {k l : Nat} (h : x.natAbs < 2 ^ k) (hl : k ≤ l) : x.natAbs < 2 ^ l := Nat.lt_of_lt_of_le h (Nat.pow_le_pow_right (by decide) hl)
theorem bd_pow {x : Int} (h : Sm x) (n : Nat) : (x ^ n).natAbs < 2 ^ (20 * n + 1) := by
  rw [Int.natAbs_pow]
  have : x.natAbs ^ n ≤ (2 ^ 20) ^ n := Nat.pow_le_pow_left (Nat.le_of_lt h) n
  rw [← Nat.pow_mul] at this
  have h2 : (2 : Nat) ^ (20 * n) < 2 ^ (20 * n + 1) := Nat.pow_lt_pow_right (by decide) (by omega)
  omega
theorem bd_sm {k : Nat} {f : Nat → Int} : ∀ {n : Nat}, (∀ i, i < n → (f i).natAbs < 2 ^ k) → (sm n f).natAbs ≤ n * 2 ^ k
  | 0, _ => by rw [sm_zero]; simp
  | n + 1, h => by
    rw [sm_succ]
    have h1 := bd_sm (n := n) fun i hi => h i (by omega)
    have h2 := h n (by omega)
    have h3 := Int.natAbs_add_le (sm n f) (f n)
    rw [Nat.add_mul, Nat.one_mul]
    omega
theorem bd_sm4 {k n : Nat} {f : Nat → Int} (hn : n ≤ 12) (h : ∀ i, i < n → (f i).natAbs < 2 ^ k) : (sm n f).natAbs < 2 ^ (k + 4) := by
  have h1 := bd_sm h
  rw [Nat.pow_add]
  have h2 : n * 2 ^ k ≤ 12 * 2 ^ k := Nat.mul_le_mul_right _ hn
  have h3 : 0 < 2 ^ k := Nat.pow_pos (by decide)
  have h4 : (2 : Nat) ^ 4 = 16 := by decide
  rw [h4]
  omega
theorem bin_le : ∀ n k : Nat, bin n k ≤ 2 ^ n
  | 0, 0 => by decide
  | 0, k + 1 => by show 0 ≤ _; omega
  | n + 1, 0 => by show 1 ≤ _; exact Nat.pow_pos (by decide)
  | n + 1, k + 1 => by
    show bin n k + bin n (k + 1) ≤ _
    have := bin_le n k
    have := bin_le n (k + 1)
    rw [Nat.pow_succ]; omega
theorem cf_bd {p k : Nat} (h : p ≤ 12) : (cf p k).natAbs < 2 ^ 13 := by
  unfold cf
  have h1 := bin_le p k
  have h2 : (2 : Nat) ^ p ≤ 2 ^ 12 := Nat.pow_le_pow_right (by decide) h
  have h3 : (sgn p k).natAbs = 1 := by unfold sgn; split <;> rfl
  rw [Int.natAbs_mul, h3, Nat.mul_one, Int.natAbs_natCast]
  have : (2 : Nat) ^ 12 < 2 ^ 13 := by decide
  omega
theorem ex_bd {n k : Nat} {f : Nat → Int} {i : Nat} (hn : n ≤ 12) (h : ∀ p, p < n → (f p).natAbs < 2 ^ k) : (ex n f i).natAbs < 2 ^ (k + 17) := bd_sm4 (k := k + 13) hn fun p hp => bd_mul (h p hp) (cf_bd (by omega))
theorem ex2_bd {n m k : Nat} {c : Nat → Nat → Int} {i j : Nat} (hn : n ≤ 12) (hm : m ≤ 12) (h : ∀ p q, (c p q).natAbs < 2 ^ k) : (ex2 n m c i j).natAbs < 2 ^ (k + 34) := ex_bd (k := k + 17) hn fun p _ => ex_bd hm fun q _ => h p q
theorem mul_ok {i : Int} (j : Int) (h : -(2 ^ 64) < i ∧ i < 2 ^ 64) : mulD (.int i) (.int j) = some (.int (i * j)) := by
  unfold mulD
  exact if_pos (.inl h)
theorem mul_ok2 (i : Int) {j : Int} (h : -(2 ^ 64) < j ∧ j < 2 ^ 64) : mulD (.int i) (.int j) = some (.int (i * j)) := by
  unfold mulD
  exact if_pos (.inr h)
/-! ### ways to choose -/
theorem bin_up : ∀ n t : Nat, (bin n (t + 1) : Int) * ((t : Int) + 1) = (bin n t : Int) * ((n : Int) - (t : Int))
  | 0, 0 => by decide
  | 0, t + 1 => by show (0 : Int) * _ = 0 * _; simp
  | n + 1, 0 => by
    have h := bin_up n 0
    have e0 : bin n 0 = 1 := by cases n <;> rfl
    have e1 : bin (n + 1) 0 = 1 := rfl
    have e2 : bin (n + 1) (0 + 1) = bin n 0 + bin n (0 + 1) := rfl
    rw [e0] at h
    rw [e2, e1, e0]
    simp at h ⊢
    omega
  | n + 1, t + 1 => by
    have h1 := bin_up n t
    have h2 := bin_up n (t + 1)
    have e2 : bin (n + 1) (t + 1 + 1) = bin n (t + 1) + bin n (t + 1 + 1) := rfl
    have e3 : bin (n + 1) (t + 1) = bin n t + bin n (t + 1) := rfl
    rw [e2, e3]
    push_cast at h1 h2 ⊢
    grind
theorem law_ways_to_choose : ∀ as m Q, S_ways_to_choose as m Q → d_ways_to_choose (padn n_ways_to_choose as) m (fin Q) := by
  rintro as m Q ⟨n, k, hk, hn, rfl, q⟩
  have hll := llv
  refine ⟨_, rfl, (k : Nat), rfl, by omega, by omega, ?_⟩
  rw [natD_map]
  refine forR_rg natD k (fun i env m' => m' = m ∧ ∃ s, env = [.val (natD n), .val (natD k), .val (natD (bin n i)), s]) ?_ ?_ _ _ ⟨rfl, .no, by
    have : bin n 0 = 1 := by cases n <;> rfl
    rw [this]; rfl⟩
  · rintro env m' ⟨rfl, s, rfl⟩
    exact ⟨_, rfl, q⟩
  · rintro i hi env m' ⟨rfl, s, rfl⟩
    refine ⟨_, rfl, fun K hK => ?_⟩
    have h1 := bin_le n i
    have h2 : (2 : Nat) ^ n ≤ 2 ^ 12 := Nat.pow_le_pow_right (by decide) hn
    have h3 : (2 : Nat) ^ 12 = 4096 := by decide
    have e1 : mulD (natD (bin n i)) (.int ((n : Nat) - (i : Nat) : Int)) = some (.int ((bin n i : Nat) * ((n : Nat) - (i : Nat) : Int))) := mul_ok _ ⟨by omega, by omega⟩
    refine ⟨_, rfl, _, rfl, _, rfl, _, rfl, _, e1, _, rfl, _, rfl, natD (bin n (i + 1)), ?_, hK _ _ ⟨rfl, _, rfl⟩⟩
    show (if _ then some (D.int (((bin n i : Nat) * ((n : Nat) - (i : Nat) : Int)) / ((i : Nat) + 1 : Int))) else none) = _
    rw [if_pos (by omega), ← bin_up n i, Int.mul_ediv_cancel _ (by omega)]; rfl
/-! ### powers -/
theorem law_power_all {d : DS} (hd : d = d_power) : ∀ as m Q, S_power as m Q → d (padn n_power as) m (fin Q) := by
  subst hd
  rintro as m Q ⟨x, n, hx, hn, rfl, q⟩
  have hll := llv
  refine ⟨_, rfl, (n : Nat), rfl, by omega, by omega, ?_⟩
  rw [natD_map]
  refine forR_rg natD n (fun i env m' => m' = m ∧ ∃ s, env = [.val (.int x), .val (natD n), .val (.int (x ^ i)), s]) ?_ ?_ _ _ ⟨rfl, .no, by rw [Int.pow_zero]; rfl⟩
  · rintro env m' ⟨rfl, s, rfl⟩
    exact ⟨_, rfl, q⟩
  · rintro i hi env m' ⟨rfl, s, rfl⟩
    refine ⟨_, rfl, fun K hK => ?_⟩
    refine ⟨_, rfl, _, rfl, _, mulW_ok (bd_pow hx i) hx (by omega), hK _ _ ⟨rfl, .val (natD i), ?_⟩⟩
    rw [Int.pow_succ]; rfl
theorem law_power : ∀ as m Q, S_power as m Q → d_power (padn n_power as) m (fin Q) := law_power_all rfl
theorem law_law_power : ∀ as m Q, S_law_power as m Q → d_law_power (padn n_law_power as) m (fin Q) := law_power_all rfl
/-! ### what divides both -/
theorem abs_nat (i : Int) : absD [.int i] = some (natD i.natAbs) := by
  show some (D.int (if i < 0 then -i else i)) = some (D.int (i.natAbs : Nat))
  congr 2
  split <;> omega
theorem gcd_step (p q : Nat) : Nat.gcd q (p % q) = Nat.gcd p q := by rw [Nat.gcd_comm p q, Nat.gcd_rec q p, Nat.gcd_comm]
theorem mod_nat {p q : Nat} (h : q ≠ 0) : modD (natD p) (natD q) = some (natD (p % q)) := if_pos (by omega)
theorem law_common_divisor : ∀ as m Q, S_common_divisor as m Q → d_common_divisor (padn n_common_divisor as) m (fin Q) := by
  rintro as m Q ⟨a, b, rfl, q⟩
  refine ⟨_, rfl, _, abs_nat a, _, rfl, _, abs_nat b, _, _, rfl, ?_⟩
  refine ⟨fun k env m' => m' = m ∧ ∃ x y : Nat, k = y ∧ Nat.gcd x y = Int.gcd a b ∧ env = [.val (natD x), .val (natD y)], ⟨b.natAbs, rfl, a.natAbs, b.natAbs, rfl, rfl, rfl⟩, ?_⟩
  rintro k env m' ⟨rfl, x, y, rfl, hg, rfl⟩
  refine ⟨_, rfl, _, ne_nat k 0, _, rfl, ?_⟩
  by_cases z : k = 0
  · rw [decide_eq_false (not_not_intro z)]
    subst z
    rw [Nat.gcd_zero_right] at hg
    refine ⟨_, rfl, ?_⟩
    rw [hg]; exact q
  · rw [decide_eq_true z]
    exact ⟨_, rfl, _, rfl, _, rfl, _, mod_nat z, _, _, rfl, x % k, Nat.mod_lt _ (by omega), rfl, k, x % k, rfl, (gcd_step x k).trans hg, rfl⟩
theorem int_nat (p : Nat) : intD [natD p] = some (natD p) := rfl
theorem law_law_common : ∀ as m Q, S_law_common as m Q → d_law_common (padn n_law_common as) m (fin Q) := by
  rintro as m Q ⟨a, b, hb, rfl, q⟩
  refine ⟨_, rfl, _, abs_nat a, _, rfl, _, abs_nat b, _, _, rfl, ?_⟩
  refine ⟨((400 : Nat) : Int), rfl, by decide, by decide, ?_⟩
  rw [natD_map]
  refine forR_rg natD 400 (fun i env m' => m' = m ∧ ∃ (x y : Nat) (s : Sl), Nat.gcd x y = Int.gcd a b ∧ (i = 0 → y < 2 ^ 190) ∧ (0 < i → y < x ∧ x * y * 2 ^ (i - 1) < 2 ^ 380) ∧ env = [.val (natD x), .val (natD y), s]) ?_ ?_ _ _ ⟨rfl, a.natAbs, b.natAbs, .no, rfl, fun _ => hb, fun z => absurd z (by omega), rfl⟩
  · rintro env m' ⟨rfl, x, y, s, hg, _, h1, rfl⟩
    obtain ⟨h2, h3⟩ := h1 (by omega)
    have z : y = 0 := by
      apply Classical.byContradiction
      intro z
      have a1 : 1 ≤ x * y := Nat.mul_pos (by omega) (by omega)
      have a2 : 1 * 2 ^ 399 ≤ x * y * 2 ^ (400 - 1) := Nat.mul_le_mul_right _ a1
      have a3 : (2 : Nat) ^ 380 < 1 * 2 ^ 399 := by decide
      omega
    subst z
    rw [Nat.gcd_zero_right] at hg
    refine ⟨_, rfl, ?_⟩
    rw [hg]; exact q
  · rintro i hi env m' ⟨rfl, x, y, s, hg, h0, h1, rfl⟩
    refine ⟨_, rfl, fun K hK => ?_⟩
    refine ⟨_, rfl, _, eq_nat y 0, _, rfl, ?_⟩
    by_cases z : y = 0
    · rw [decide_eq_true z]
      subst z
      rw [Nat.gcd_zero_right] at hg
      refine ⟨_, rfl, ?_⟩
      rw [hg]; exact q
    · rw [decide_eq_false z]
      refine ⟨_, rfl, _, rfl, _, rfl, _, rfl, _, mod_nat z, _, _, rfl, hK _ _ ⟨rfl, y, x % y, .val (natD i), (gcd_step x y).trans hg, fun e => absurd e (by omega), fun _ => ⟨Nat.mod_lt _ (by omega), ?_⟩, rfl⟩⟩
      have hm := Nat.mod_lt x (y := y) (by omega)
      rw [Nat.add_sub_cancel]
      by_cases e : i = 0
      · subst e
        have h0 := h0 rfl
        rw [Nat.pow_zero, Nat.mul_one]
        have : (2 : Nat) ^ 380 = 2 ^ 190 * 2 ^ 190 := by decide
        rw [this]
        exact Nat.mul_lt_mul'' h0 (by omega)
      · obtain ⟨h2, h3⟩ := h1 (by omega)
        obtain ⟨j, rfl⟩ : ∃ j, i = j + 1 := ⟨i - 1, by omega⟩
        rw [Nat.add_sub_cancel] at h3
        refine Nat.lt_of_le_of_lt ?_ h3
        have hd := Nat.div_add_mod x y
        have hq : 1 ≤ x / y := Nat.div_pos (by omega) (by omega)
        have hq2 : y * 1 ≤ y * (x / y) := Nat.mul_le_mul_left _ hq
        have h4 : 2 * (x % y) ≤ x := by omega
        rw [Nat.pow_succ]
        calc y * (x % y) * (2 ^ j * 2) = y * (2 * (x % y)) * 2 ^ j := by grind
          _ ≤ y * x * 2 ^ j := Nat.mul_le_mul_right _ (Nat.mul_le_mul_left _ h4)
          _ = x * y * 2 ^ j := by rw [Nat.mul_comm y x]
theorem gcd_pos {a b : Int} (h : 0 < b) : 0 < Int.gcd a b := Int.gcd_pos_of_ne_zero_right a (by omega)
theorem gcd_le {a b : Int} (h : 0 < b) : Int.gcd a b ≤ b.natAbs := Nat.le_of_dvd (by omega) (Nat.gcd_dvd_right a.natAbs b.natAbs)
theorem gt_int (a b : Int) : gtD (.int a) (.int b) = some (.bl (decide (b < a))) := rfl
theorem law_fraction : ∀ as m Q, S_fraction as m Q → d_fraction (padn n_fraction as) m (fin Q) := by
  rintro as m Q ⟨a, b, h0, hb, rfl, q⟩
  have hg := gcd_pos (a := a) h0
  have hl : ((Int.gcd a b : Nat) : Int).natAbs < 2 ^ 400 := by
    rw [Int.natAbs_natCast]
    exact Nat.lt_of_le_of_lt (gcd_le h0) hb
  refine ⟨_, rfl, _, rfl, a, b, rfl, ?_⟩
  refine ⟨_, rfl, _, gt_int b 0, _, rfl, ?_⟩
  rw [decide_eq_true h0]
  refine ⟨natD (Int.gcd a b), ?_, ?_⟩
  · have := mulW_ok (y := 1) (l := 1) hl (by decide) (by omega)
    rw [Int.mul_one] at this
    exact this
  · exact ⟨_, rfl, _, rfl, _, fdivW_ok (by omega) hl (by omega), _, rfl, _, rfl, _, fdivW_ok (by omega) hl (by omega), by show 2 ≤ LL; have := llv; omega, q⟩
theorem law_is_fraction : ∀ as m Q, S_is_fraction as m Q → d_is_fraction (padn n_is_fraction as) m (fin Q) := by
  rintro as m Q ⟨a, b, hf, rfl, q⟩
  refine ⟨_, rfl, _, rfl, _, rfl, _, rfl, _, rfl, _, rfl, _, rfl, ?_⟩
  refine ⟨_, rfl, _, rfl, _, rfl, a, -1000000, 1000000, rfl, _, rfl, ?_⟩
  rw [decide_eq_true ⟨hf.lo, hf.up⟩]
  refine ⟨_, rfl, _, rfl, b, 1, 1000, rfl, _, rfl, ?_⟩
  rw [decide_eq_true ⟨hf.pos, hf.few⟩]
  refine ⟨_, rfl, _, rfl, _, rfl, _, rfl, a, b, rfl, ?_⟩
  rw [hf.co]
  exact ⟨_, rfl, q⟩
theorem law_every_lot : ∀ as m Q, S_every_lot as m Q → d_every_lot (padn n_every_lot as) m (fin Q) := by
  rintro as m Q ⟨P, T, hn, rfl, q⟩
  have hll := llv
  refine ⟨by show 0 ≤ LL; omega, by show 1 ≤ LL; omega, _, rfl, P, T, hn, rfl, _, rfl, ?_⟩
  refine forR_l natD (List.range T.length) (fun k env m' => m' = m ∧ ∃ x y : Sl, env = [.val (webD P T), .val (.lst ((gen k).map lotD)), x, y]) ?_ ?_ _ _ ⟨rfl, .no, .no, rfl⟩
  · rintro env m' ⟨rfl, x, y, rfl⟩
    rw [List.length_range]
    refine ⟨_, rfl, (lots T.length).map lotD, ?_, q⟩
    show (if sortOk0 ((gen T.length).map lotD) then some (sortL ((gen T.length).map lotD)) else none) = _
    rw [if_pos (sortOk0_lots hn), sort_lots]
  · rintro i k hk env m' ⟨rfl, x, y, rfl⟩
    have hi' : i < T.length := by have := (List.getElem?_eq_some_iff.mp hk).1; simpa using this
    rw [rg_get hi'] at hk
    cases hk
    have hp : 2 ^ i ≤ 2 ^ 11 := Nat.pow_le_pow_right (by decide) (by omega)
    refine ⟨_, rfl, fun K hK => ?_⟩
    refine ⟨_, rfl, _, rfl, _, rfl, by rw [List.length_map, gen_len]; omega, ?_⟩
    refine lcR_m lotD (fun l => lotD (l ++ [i])) (gen i) m' _ (fun l hl => ⟨_, rfl, fun m Q q => ⟨_, rfl, _, rfl, by show 1 ≤ LL; omega, lotD (l ++ [i]), ?_, q⟩⟩) ?_
    · have := (gen_mem.mp hl).few
      show (if _ then some (D.tup (l.map natD ++ [natD i])) else none) = _
      rw [if_pos (by rw [List.length_map]; show l.length + 1 ≤ _; omega)]
      unfold lotD
      rw [List.map_append]; rfl
    · refine ⟨.lst ((gen (i + 1)).map lotD), ?_, hK _ _ ⟨rfl, .val (natD i), y, rfl⟩⟩
      show (if _ then some (D.lst ((gen i).map lotD ++ (gen i).map fun l => lotD (l ++ [i]))) else none) = _
      rw [if_pos (by rw [List.length_map, List.length_map, gen_len]; omega)]
      rw [show gen (i + 1) = gen i ++ (gen i).map fun l => l ++ [i] from rfl, List.map_append, List.map_map]; rfl
theorem rng_in (n : Nat) : ∀ i ∈ List.range n, i < n := fun i hi => List.mem_range.mp hi
theorem rk_le {P : List Nat} {T : List (Nat × Nat)} (hW : WbOk P T) : rk P T ≤ T.length := rk_size hW.pl.nd T hW.ok
theorem law_empty_rows : ∀ as m Q, S_empty_rows as m Q → d1_empty_rows (padn n_empty_rows as) m { nx := fun env' m' => d2_empty_rows env' m' Q, rt := fun _ _ => False } := by
  rintro as m Q ⟨P, T, hW, rfl, q⟩
  have hll := llv
  have h11 := hW.few
  have hr := rk_le hW
  refine ⟨_, rfl, P, T, h11, rfl, ?_⟩
  refine ⟨_, rfl, _, rfl, P, T, List.range T.length, hW, by rw [List.length_range]; omega, rng_in _, rfl, _, rfl, ((rk P T + 1 : Nat) : Int), by rw [tl_range]; rfl, by omega, by omega, ?_⟩
  rw [natD_map]
  refine ⟨by simp; omega, ?_⟩
  refine ltR_m natD (fun _ => (List.range (T.length - rk P T + 1)).map fun _ => D.int 0) (List.range (rk P T + 1)) m _ (fun a _ => ⟨_, rfl, fun m Q q => ?_⟩) q
  refine ⟨by show 1 ≤ LL; omega, _, rfl, _, rfl, P, T, List.range T.length, hW, by rw [List.length_range]; omega, rng_in _, rfl, _, rfl, _, ((T.length - rk P T + 1 : Nat) : Int), rfl, ?_, by omega, by omega, by show 1 * _ ≤ _; omega, ?_⟩
  · rw [tl_range, List.length_range]
    show D.int _ = D.int _
    congr 1
    omega
  · rw [Int.toNat_natCast, _root_.T.rep_flat]; exact q
theorem law_as_table : ∀ as m Q, S_as_table as m Q → d_as_table (padn n_as_table as) m (fin Q) := by
  rintro as m Q ⟨rows, h100, rfl, q⟩
  have hll := llv
  refine ⟨_, rfl, _, rfl, by rw [List.length_map]; omega, ?_⟩
  exact lcR_m D.lst D.tup rows m _ (fun row _ => ⟨_, rfl, fun m Q q => ⟨_, rfl, _, rfl, q⟩⟩) ⟨_, rfl, q⟩
end K15
namespace K15
open PySem L2 G T
/-! ### lots and choices of ties -/
theorem gen_sb (T : List (Nat × Nat)) : ∀ k, k ≤ T.length → (gen k).map (tl T) = sb (T.take k)
  | 0, _ => rfl
  | k + 1, h => by
    have hk : T[k]? = some (T.getD k (0, 0)) := tie_get (by omega)
    have e : T.take (k + 1) = T.take k ++ [T.getD k (0, 0)] := by rw [List.take_succ, hk]; rfl
    rw [e, sb_snoc, ← gen_sb T k (by omega), show gen (k + 1) = gen k ++ (gen k).map fun l => l ++ [k] from rfl, List.map_append, List.map_map, List.map_map]
    congr 1
    refine List.map_congr_left fun l _ => ?_
    show tl T (l ++ [k]) = tl T l ++ [T.getD k (0, 0)]
    unfold tl
    rw [List.map_append]; rfl
theorem cN_cc (P : List Nat) (T : List (Nat × Nat)) (i j : Nat) : cN P T i j = cc P [] T i j := by
  unfold cN cc
  have h1 : (lots T.length).Perm (gen T.length) := List.mergeSort_perm _ _
  rw [h1.countP_eq]
  have h2 := gen_sb T T.length (Nat.le_refl _)
  rw [List.take_length] at h2
  rw [← h2, List.countP_map]
  congr 1
  funext L
  show decide _ = decide _
  rw [decide_eq_decide, List.nil_append, List.nil_append, rk_nil, tl_len, Nat.zero_add]
theorem lot_sub {T : List (Nat × Nat)} {L : List Nat} (h : L ∈ lots T.length) : (tl T L).Sublist T := by
  have h1 : (lots T.length).Perm (gen T.length) := List.mergeSort_perm _ _
  have h2 := gen_sb T T.length (Nat.le_refl _)
  rw [List.take_length] at h2
  exact mem_sb (h2 ▸ List.mem_map.mpr ⟨L, h1.mem_iff.mp h, rfl⟩)
theorem spare_le {P : List Nat} (nd : P.Nodup) {S T : List (Nat × Nat)} (h : S.Sublist T) : ∀ A : List (Nat × Nat), Ok P T → rk P (A ++ T) + S.length ≤ rk P (A ++ S) + T.length := by
  induction h with
  | slnil => intro A _; simp
  | cons e h ih =>
    rename_i S T
    intro A ok
    have h1 := ih A fun p hp => ok p (List.mem_cons_of_mem _ hp)
    have he := ok e (List.mem_cons_self ..)
    have h2 : rk P ((A ++ T) ++ [(e.1, e.2)]) ≤ rk P (A ++ T) + 1 := rk_add nd he.1 he.2
    have h3 : rk P ((A ++ T) ++ [(e.1, e.2)]) = rk P (A ++ e :: T) := rk_same fun p => by
      simp only [List.mem_append, List.mem_cons, List.mem_singleton, List.not_mem_nil, or_false]
      constructor
      · rintro ((h | h) | h)
        · exact .inl h
        · exact .inr (.inr h)
        · exact .inr (.inl h)
      · rintro (h | h | h)
        · exact .inl (.inl h)
        · exact .inr h
        · exact .inl (.inr h)
    rw [List.length_cons]
    omega
  | cons_cons e h ih =>
    rename_i S T
    intro A ok
    have h1 := ih (A ++ [e]) fun p hp => ok p (List.mem_cons_of_mem _ hp)
    rw [List.append_assoc, List.append_assoc] at h1
    rw [List.length_cons, List.length_cons]
    have : rk P (A ++ ([e] ++ T)) = rk P (A ++ e :: T) := rfl
    have : rk P (A ++ ([e] ++ S)) = rk P (A ++ e :: S) := rfl
    omega
structure LotR (P : List Nat) (T : List (Nat × Nat)) (L : List Nat) : Prop where
  a : rk P (tl T L) ≤ rk P T
  b : rk P (tl T L) ≤ L.length
  c : L.length - rk P (tl T L) ≤ wi P T
theorem lotR {P : List Nat} {T : List (Nat × Nat)} (hW : WbOk P T) {L : List Nat} (h : L ∈ lots T.length) : LotR P T L := by
  have sub := lot_sub h
  have nd := hW.pl.nd
  have ok : Ok P (tl T L) := fun p hp => hW.ok p (sub.subset hp)
  have h1 : rk P (tl T L) ≤ rk P T := rk_mono nd fun p hp => .tie (sub.subset hp)
  have h2 := rk_size nd _ ok
  have h3 := spare_le nd sub [] hW.ok
  rw [List.nil_append, List.nil_append] at h3
  rw [tl_len] at h2 h3
  have := rk_le hW
  exact ⟨h1, h2, by unfold wi; omega⟩
theorem cN_far {P : List Nat} {T : List (Nat × Nat)} (hW : WbOk P T) {i j : Nat} (h : hi P T < i ∨ wi P T < j) : cN P T i j = 0 := by
  unfold cN
  rw [List.countP_eq_zero]
  intro L hL
  have r := lotR hW hL
  have := r.a
  have := r.b
  have := r.c
  simp only [decide_eq_true_eq]
  unfold hi at h
  omega
/-- numbers of the table are never below 0 -/
theorem tE_pos {P : List Nat} {T : List (Nat × Nat)} (hW : WbOk P T) (i j : Nat) : 0 ≤ tE P T i j := by
  have h := tab_pos hW.pl.nd T [] (fun p hp => by simp at hp) hW.ok (T.length + 1) (T.length + 1) (by omega) (by omega) i j
  have hr := rk_le hW
  have e1 : ∀ p, ex (T.length + 1) (fun q => ((cc P [] T p q : Nat) : Int)) j = ex (wi P T + 1) (cI P T p) j := fun p => by
    have a : ex (T.length + 1) (fun q => ((cc P [] T p q : Nat) : Int)) j = ex (T.length + 1) (cI P T p) j := ex_congr (fun q _ => by unfold cI; rw [cN_cc]) j
    rw [a]
    exact ex_more (by unfold wi; omega) (fun q hq => by unfold cI; rw [cN_far hW (.inr (by omega))]; rfl) j
  have e2 : ex2 (T.length + 1) (T.length + 1) (fun p q => ((cc P [] T p q : Nat) : Int)) i j = tE P T i j := by
    unfold tE ex2
    rw [ex_congr fun p _ => e1 p]
    refine ex_more (by unfold hi; omega) (fun p hp => ?_) i
    unfold ex
    exact (sm_congr fun q _ => by unfold cI; rw [cN_far hW (.inl (by omega))]; exact Int.zero_mul _).trans (sm_const _)
  rw [← e2]; exact h
theorem cI_bd {P : List Nat} {T : List (Nat × Nat)} (h : T.length ≤ 11) (i j : Nat) : (cI P T i j).natAbs < 2 ^ 12 := by
  unfold cI cN
  rw [Int.natAbs_natCast]
  have h1 : (lots T.length).countP (fun L => decide (rk P (tl T L) + i = rk P T ∧ rk P (tl T L) + j = L.length)) ≤ (lots T.length).length := List.countP_le_length
  rw [lots_len] at h1
  have h2 : (2 : Nat) ^ T.length ≤ 2 ^ 11 := Nat.pow_le_pow_right (by decide) h
  have h3 : (2 : Nat) ^ 11 < 2 ^ 12 := by decide
  omega
theorem wi_le {P : List Nat} {T : List (Nat × Nat)} : wi P T ≤ T.length := by unfold wi; omega
theorem tE_bd {P : List Nat} {T : List (Nat × Nat)} (hW : WbOk P T) (i j : Nat) : (tE P T i j).natAbs < 2 ^ 46 := by
  have := rk_le hW
  have := hW.few
  have := wi_le (P := P) (T := T)
  exact ex2_bd (k := 12) (by unfold hi; omega) (by omega) fun p q => cI_bd hW.few p q
/-! ### tables -/
theorem rowI_len (b : Nat) (f : Nat → Int) : (rowI b f).length = b := by unfold rowI; simp
theorem tabI_len (a b : Nat) (f : Nat → Nat → Int) : (tabI a b f).length = a := by unfold tabI; simp
theorem row_get {b j : Nat} (f : Nat → Int) (h : j < b) : (rowI b f)[j]? = some (.int (f j)) := by
  unfold rowI
  rw [List.getElem?_map, rg_get h]; rfl
theorem tab_get {a b i : Nat} (f : Nat → Nat → Int) (h : i < a) : (tabI a b f)[i]? = some (rowI b (f i)) := by
  unfold tabI
  rw [List.getElem?_map, rg_get h]; rfl
theorem row_set {b j : Nat} (f : Nat → Int) (x : Int) (h : j < b) : (rowI b f).set j (.int x) = rowI b fun q => if q = j then x else f q := by
  apply List.ext_getElem?
  intro q
  rw [List.getElem?_set]
  by_cases e : j = q
  · subst e
    rw [if_pos rfl, row_get _ h, rowI_len, if_pos h]
    simp
  · rw [if_neg e]
    by_cases hq : q < b
    · rw [row_get _ hq, row_get _ hq, if_neg fun z => e z.symm]
    · rw [List.getElem?_eq_none (by rw [rowI_len]; omega), List.getElem?_eq_none (by rw [rowI_len]; omega)]
theorem tab_set {a b i j : Nat} (f : Nat → Nat → Int) (x : Int) (hi : i < a) (hj : j < b) : (tabI a b f).set i ((rowI b (f i)).set j (.int x)) = tabI a b fun p q => if p = i ∧ q = j then x else f p q := by
  rw [row_set _ _ hj]
  apply List.ext_getElem?
  intro p
  rw [List.getElem?_set]
  by_cases e : i = p
  · subst e
    rw [if_pos rfl, tab_get _ hi, tabI_len, if_pos hi]
    simp
  · rw [if_neg e]
    by_cases hp : p < a
    · rw [tab_get _ hp, tab_get _ hp]
      congr 1
      unfold rowI
      refine List.map_congr_left fun q _ => ?_
      show D.int (f p q) = D.int (if p = i ∧ q = j then x else f p q)
      rw [if_neg fun z => e z.1.symm]
    · rw [List.getElem?_eq_none (by rw [tabI_len]; omega), List.getElem?_eq_none (by rw [tabI_len]; omega)]
/-- lots counted so far -/
noncomputable def cP (P : List Nat) (T : List (Nat × Nat)) (Ls : List (List Nat)) (i j : Nat) : Int := ((Ls.countP fun L => decide (rk P (tl T L) + i = rk P T ∧ rk P (tl T L) + j = L.length) : Nat) : Int)
theorem cP_step {P : List Nat} {T : List (Nat × Nat)} {Ls : List (List Nat)} {k : Nat} {L : List Nat} (h : Ls[k]? = some L) (r : LotR P T L) : cP P T (Ls.take (k + 1)) = fun p q => if p = rk P T - rk P (tl T L) ∧ q = L.length - rk P (tl T L) then cP P T (Ls.take k) (rk P T - rk P (tl T L)) (L.length - rk P (tl T L)) + 1 else cP P T (Ls.take k) p q := by
  have e : Ls.take (k + 1) = Ls.take k ++ [L] := by rw [List.take_succ, h]; rfl
  have := r.a
  have := r.b
  funext p q
  unfold cP
  rw [e, List.countP_append, List.countP_singleton]
  by_cases z : p = rk P T - rk P (tl T L) ∧ q = L.length - rk P (tl T L)
  · rw [if_pos z]
    obtain ⟨rfl, rfl⟩ := z
    rw [if_pos (by rw [decide_eq_true_eq]; omega)]
    simp
  · rw [if_neg z, if_neg (by rw [decide_eq_true_eq]; omega)]; rfl
theorem cP_nil (P : List Nat) (T : List (Nat × Nat)) (Ls : List (List Nat)) : cP P T (Ls.take 0) = fun _ _ => 0 := rfl
theorem cP_all (P : List Nat) (T : List (Nat × Nat)) : cP P T ((lots T.length).take (lots T.length).length) = cI P T := by rw [List.take_length]; rfl
theorem sub_nat {a b : Nat} (h : b ≤ a) : D.int ((a : Int) - (b : Int)) = natD (a - b) := by
  show D.int _ = D.int _
  congr 1
  omega
theorem law_counted_lots : ∀ as m Q, S_counted_lots as m Q → d_counted_lots (padn n_counted_lots as) m (fin Q) := by
  rintro as m Q ⟨P, T, hW, rfl, q⟩
  have hll := llv
  have h11 := hW.few
  have hr := rk_le hW
  refine ⟨_, rfl, P, T, hW, rfl, ?_⟩
  refine ⟨_, rfl, _, rfl, P, T, h11, rfl, P, T, List.range T.length, hW, by rw [List.length_range]; omega, rng_in _, rfl, ?_⟩
  rw [tl_range]
  refine fun qs => ⟨rfl, ?_⟩
  refine ⟨_, rfl, P, T, h11, rfl, _, rfl, ?_⟩
  refine forR_l lotD (lots T.length) (fun k env m' => m' = m ∧ ∃ qs s, env = [.val (webD P T), .tb qs (tabI (hi P T + 1) (wi P T + 1) (cP P T ((lots T.length).take k))), .val (natD (rk P T)), s]) ?_ ?_ _ _ ⟨rfl, qs, .no, rfl⟩
  · rintro env m' ⟨rfl, qs, s, rfl⟩
    rw [cP_all]
    exact ⟨qs, _, rfl, _, rfl, q⟩
  · rintro k L hL env m' ⟨rfl, qs, s, rfl⟩
    have mem := List.mem_of_getElem? hL
    have lot := lots_mem.mp mem
    have r := lotR hW mem
    have h1 := r.a
    have h2 := r.b
    have h3 := r.c
    have hf := lot.few
    refine ⟨_, rfl, fun K hK => ?_⟩
    refine ⟨qs, _, rfl, _, rfl, _, rfl, _, rfl, P, T, L, hW, by omega, lot.inb, rfl, _, rfl, _, _, sub_nat h1, tab_get _ (by unfold hi; omega), ?_⟩
    refine ⟨_, rfl, _, rfl, P, T, L, hW, by omega, lot.inb, rfl, _, _, sub_nat h2, row_get _ (by omega), _, rfl, ?_⟩
    have := tab_set (a := hi P T + 1) (b := wi P T + 1) (cP P T ((lots T.length).take k)) (cP P T ((lots T.length).take k) (rk P T - rk P (tl T L)) (L.length - rk P (tl T L)) + 1) (i := rk P T - rk P (tl T L)) (j := L.length - rk P (tl T L)) (by unfold hi; omega) (by omega)
    rw [← cP_step hL r] at this
    rw [← this] at hK
    exact hK _ _ ⟨rfl, qs, _, rfl⟩
theorem law_lot_counts : ∀ as m Q, S_lot_counts as m Q → d_lot_counts (padn n_lot_counts as) m (fin Q) := by
  rintro as m Q ⟨P, T, hW, rfl, q⟩
  have := hW.few
  have := rk_le hW
  exact ⟨_, rfl, P, T, rfl, _, rfl, P, T, hW, rfl, _, by rw [tabI_len]; unfold hi; omega, rfl, q⟩
theorem law_law_counted : ∀ as m Q, S_law_counted as m Q → d_law_counted (padn n_law_counted as) m (fin Q) := by
  rintro as m Q ⟨P, T, hW, rfl, q⟩
  have hll := llv
  have h11 := hW.few
  have hr := rk_le hW
  refine ⟨_, rfl, _, rfl, P, T, _, hW.pl, hW.ok, by omega, .inr rfl, rfl, ?_⟩
  refine ⟨_, rfl, _, rfl, ((rk P T + 1 : Nat) : Int), rfl, by omega, by omega, ?_⟩
  rw [natD_map]
  refine ⟨by simp; omega, ?_⟩
  refine ltR_m natD (fun _ => (List.range (T.length - rk P T + 1)).map fun _ => D.int 0) (List.range (rk P T + 1)) m _ (fun a _ => ⟨_, rfl, fun m Q q => ?_⟩) fun qs => ?_
  · refine ⟨by show 1 ≤ LL; omega, _, rfl, _, len_tup wayD T, _, rfl, _, rfl, _, rfl, _, ((T.length - rk P T + 1 : Nat) : Int), rfl, ?_, by omega, by omega, by show 1 * _ ≤ _; omega, ?_⟩
    · show D.int _ = D.int _
      congr 1
      omega
    · rw [Int.toNat_natCast, _root_.T.rep_flat]; exact q
  refine ⟨_, rfl, _, len_tup wayD T, T.length, h11, rfl, _, rfl, ?_⟩
  refine forR_l lotD (lots T.length) (fun k env m' => m' = m ∧ ∃ qs s4 s5 s6 s7, env = [.val (plD P), .val (.tup (T.map wayD)), .val (natD (rk P T)), .tb qs (tabI (hi P T + 1) (wi P T + 1) (cP P T ((lots T.length).take k))), s4, s5, s6, s7, .no, .no]) ?_ ?_ _ _ ⟨rfl, qs, .no, .no, .no, .no, rfl⟩
  · rintro env m' ⟨rfl, qs, s4, s5, s6, s7, rfl⟩
    rw [cP_all]
    refine ⟨qs, _, rfl, _, rfl, _, rfl, by rw [List.length_map, tabI_len]; unfold hi; omega, ?_⟩
    exact lcR_m D.lst D.tup (tabI (hi P T + 1) (wi P T + 1) (cI P T)) m' _ (fun row _ => ⟨_, rfl, fun m Q q => ⟨_, rfl, _, rfl, q⟩⟩) ⟨_, rfl, q⟩
  · rintro k L hL env m' ⟨rfl, qs, s4, s5, s6, s7, rfl⟩
    have mem := List.mem_of_getElem? hL
    have lot := lots_mem.mp mem
    have r := lotR hW mem
    have h1 := r.a
    have h2 := r.b
    have h3 := r.c
    have hf := lot.few
    refine ⟨_, rfl, fun K hK => ?_⟩
    refine ⟨_, rfl, _, rfl, _, rfl, by rw [List.length_map]; omega, ?_⟩
    refine lcR_m natD (fun k => wayD (T.getD k (0, 0))) L m' _ (fun j hj => ⟨_, rfl, fun m Q q => ⟨_, rfl, _, rfl, _, ix_ties (lot.inb j hj), q⟩⟩) ?_
    have et : (L.map fun k => wayD (T.getD k (0, 0))) = (tl T L).map wayD := by unfold tl; rw [List.map_map]; rfl
    rw [et]
    refine ⟨P, tl T L, _, hW.pl, tl_ok hW.ok lot.inb, by rw [tl_len]; omega, .inl rfl, rfl, ?_⟩
    refine ⟨_, rfl, _, rfl, _, rfl, _, rfl, _, len_tup natD L, _, rfl, _, rfl, _, _, rfl, ?_⟩
    have i1 : (rk P T - rk P (tl T L)) < hi P T + 1 := by unfold hi; omega
    have i2 : L.length - rk P (tl T L) < wi P T + 1 := by omega
    refine ⟨qs, _, rfl, _, rfl, _, _, sub_nat h1, tab_get _ i1, _, rfl, _, _, sub_nat h2, row_get _ i2, _, rfl, ?_⟩
    refine ⟨qs, _, rfl, _, rfl, _, _, sub_nat h1, tab_get _ i1, _, rfl, _, sub_nat h2, by rw [rowI_len]; exact i2, ?_⟩
    have := tab_set (a := hi P T + 1) (b := wi P T + 1) (cP P T ((lots T.length).take k)) (cP P T ((lots T.length).take k) (rk P T - rk P (tl T L)) (L.length - rk P (tl T L)) + 1) i1 i2
    rw [← cP_step hL r] at this
    rw [← this] at hK
    exact hK _ _ ⟨rfl, qs, _, _, _, _, rfl⟩
end K15
namespace K15
open PySem L2 G T
theorem row_ix {n j : Nat} (g : Nat → Int) (h : j < n) : ixD (.lst (rowI n g)) (natD j) = some (.int (g j)) := ix_lst (f := fun j => D.int (g j)) (xs := List.range n) (rg_get h)
theorem row_ixT {n j : Nat} (g : Nat → Int) (h : j < n) : ixD (.tup (rowI n g)) (natD j) = some (.int (g j)) := ix_tup (f := fun j => D.int (g j)) (xs := List.range n) (rg_get h)
theorem row_lenL (n : Nat) (g : Nat → Int) : lenD0 [.lst (rowI n g)] = some (natD n) := by
  have := len_lst (fun j => D.int (g j)) (List.range n)
  rw [List.length_range] at this
  exact this
theorem row_lenT (n : Nat) (g : Nat → Int) : lenD0 [.tup (rowI n g)] = some (natD n) := by
  have := len_tup (fun j => D.int (g j)) (List.range n)
  rw [List.length_range] at this
  exact this
theorem lst_is (a b : Nat) (f : Nat → Nat → Int) : lstT (tabI a b f) = .lst ((List.range a).map fun i => .lst (rowI b (f i))) := by
  unfold lstT tabI
  rw [List.map_map]; rfl
theorem tup_is (a b : Nat) (f : Nat → Nat → Int) : tupT (tabI a b f) = .tup ((List.range a).map fun i => .tup (rowI b (f i))) := by
  unfold tupT tabI
  rw [List.map_map]; rfl
theorem rg_lenL (n : Nat) (g : Nat → D) : lenD0 [.lst ((List.range n).map g)] = some (natD n) := by
  have := len_lst g (List.range n)
  rw [List.length_range] at this
  exact this
theorem rg_lenT (n : Nat) (g : Nat → D) : lenD0 [.tup ((List.range n).map g)] = some (natD n) := by
  have := len_tup g (List.range n)
  rw [List.length_range] at this
  exact this
theorem rg_ixL {n j : Nat} (g : Nat → D) (h : j < n) : ixD (.lst ((List.range n).map g)) (natD j) = some (g j) := ix_lst (rg_get h)
theorem rg_ixT {n j : Nat} (g : Nat → D) (h : j < n) : ixD (.tup ((List.range n).map g)) (natD j) = some (g j) := ix_tup (rg_get h)
theorem sub_nd {a b : Nat} (h : b ≤ a) : subD (natD a) (natD b) = some (natD (a - b)) := congrArg some (sub_nat h)
/-! ### rows shifted -/
theorem row_congr {n : Nat} {f g : Nat → Int} (h : ∀ i, f i = g i) : rowI n f = rowI n g := by rw [funext h]
theorem law_shifted : ∀ as m Q, S_shifted as m Q → d_shifted (padn n_shifted as) m (fin Q) := by
  rintro as m Q ⟨n, f, hn, rfl, q⟩
  have hll := llv
  refine ⟨by show 1 ≤ LL; omega, _, rfl, _, row_lenL n f, _, (n : Nat), rfl, rfl, by omega, by omega, by show 1 * _ ≤ _; omega, ?_⟩
  rw [Int.toNat_natCast, _root_.T.rep_flat]
  refine ⟨_, rfl, _, rfl, ?_⟩
  have en : enumD (rowI n f) = (List.range n).map fun k => .tup [natD k, .int (f k)] := enum_map n fun k => .int (f k)
  rw [en]
  refine forR_rg (fun k => .tup [natD k, .int (f k)]) n (fun p env m' => m' = m ∧ ∃ s2 s3 s4, env = [.val (.lst (rowI n f)), .own (rowI n (ex p f)), s2, s3, s4]) ?_ ?_ _ _ ⟨rfl, .no, .no, .no, rfl⟩
  · rintro env m' ⟨rfl, s2, s3, s4, rfl⟩
    exact ⟨_, rfl, q⟩
  · rintro p hp env m' ⟨rfl, s2, s3, s4, rfl⟩
    refine ⟨_, rfl, fun K hK => ?_⟩
    refine ⟨_, rfl, _, rfl, ((p + 1 : Nat) : Int), rfl, by omega, by omega, ?_⟩
    rw [natD_map]
    refine forR_rg natD (p + 1) (fun l env m2 => m2 = m' ∧ ∃ s4, env = [.val (.lst (rowI n f)), .own (rowI n fun k => ex p f k + if k < l then f p * cf p k else 0), .val (natD p), .val (.int (f p)), s4]) ?_ ?_ _ _ ⟨rfl, s4, ?_⟩
    · rintro env m2 ⟨rfl, s4, rfl⟩
      have e : (rowI n fun k => ex p f k + if k < p + 1 then f p * cf p k else 0) = rowI n (ex (p + 1) f) := row_congr fun k => by
        have : ex (p + 1) f k = ex p f k + f p * cf p k := sm_succ p _
        rw [this]
        by_cases z : k < p + 1
        · rw [if_pos z]
        · rw [if_neg z]
          have : cf p k = 0 := by unfold cf; rw [bin_zero (by omega)]; simp
          rw [this]; simp
      rw [e]
      exact hK _ _ ⟨rfl, _, _, _, rfl⟩
    · rintro l hl env m2 ⟨rfl, s4, rfl⟩
      refine ⟨_, rfl, fun K2 hK2 => ?_⟩
      have b1 := bin_le p l
      have b2 : (2 : Nat) ^ p ≤ 2 ^ 12 := Nat.pow_le_pow_right (by decide) (by omega)
      have b3 : (2 : Nat) ^ 12 = 4096 := by decide
      refine ⟨_, rfl, _, rfl, l, _, rfl, row_get _ (by omega), ?_⟩
      refine ⟨_, rfl, _, rfl, _, rfl, p, l, by omega, by omega, rfl, _, mul_ok2 (f p) (j := (bin p l : Nat)) ⟨by omega, by omega⟩, ?_⟩
      refine ⟨_, rfl, _, rfl, _, rfl, _, rfl, .bl (decide (((p : Int) - (l : Int)) % 2 = 1)), rfl, _, rfl, ?_⟩
      have fin_ : ∀ x : Int, x = f p * cf p l → K2 [.val (.lst (rowI n f)), .own ((rowI n fun k => ex p f k + if k < l then f p * cf p k else 0).set l (.int ((ex p f l + if l < l then f p * cf p l else 0) + x))), .val (natD p), .val (.int (f p)), .val (natD l)] m2 := fun x hx => by
        refine hK2 _ _ ⟨rfl, .val (natD l), ?_⟩
        rw [row_set _ _ (by omega)]
        have : (rowI n fun q => if q = l then (ex p f l + if l < l then f p * cf p l else 0) + x else ex p f q + if q < l then f p * cf p q else 0) = rowI n fun k => ex p f k + if k < l + 1 then f p * cf p k else 0 := row_congr fun k => by
          by_cases z : k = l
          · subst z
            rw [if_pos rfl, if_neg (by omega), if_pos (by omega), hx]; omega
          · rw [if_neg z]
            by_cases z2 : k < l
            · rw [if_pos z2, if_pos (by omega)]
            · rw [if_neg z2, if_neg (by omega)]
        rw [this]
      by_cases z : (p + l) % 2 = 1
      · rw [decide_eq_true (by omega)]
        refine ⟨_, mul_ok2 _ (j := -1) ⟨by decide, by decide⟩, _, rfl, fin_ _ ?_⟩
        unfold cf sgn
        rw [if_pos z, Int.mul_assoc]
      · rw [decide_eq_false (by omega)]
        refine ⟨_, mul_ok2 _ (j := 1) ⟨by decide, by decide⟩, _, rfl, fin_ _ ?_⟩
        unfold cf sgn
        rw [if_neg z, Int.mul_assoc]
    · have : rowI n (ex p f) = rowI n fun k => ex p f k + if k < 0 then f p * cf p k else 0 := row_congr fun k => by rw [if_neg (by omega)]; omega
      rw [this]; rfl
theorem law_table_rows : ∀ as m Q, S_table_rows as m Q → d_table_rows (padn n_table_rows as) m (fin Q) := by
  rintro as m Q ⟨P, T, hW, rfl, q⟩
  have hll := llv
  have h11 := hW.few
  have hr := rk_le hW
  have hw := wi_le (P := P) (T := T)
  have hh : hi P T ≤ 11 := by unfold hi; omega
  rw [lst_is] at q
  refine ⟨_, rfl, P, T, hW, rfl, (List.range (hi P T + 1)).map fun i => .lst (rowI (wi P T + 1) (cI P T i)), by rw [lst_is]; rfl, by simp; omega, ?_⟩
  refine lcR_m (fun i => D.lst (rowI (wi P T + 1) (cI P T i))) (fun i => D.lst (rowI (wi P T + 1) (ex (wi P T + 1) (cI P T i)))) (List.range (hi P T + 1)) m _ (fun i _ => ⟨_, rfl, fun m Q q => ⟨_, rfl, wi P T + 1, cI P T i, by omega, rfl, q⟩⟩) ?_
  refine ⟨_, rfl, _, rg_ixL _ (j := 0) (by omega), _, row_lenL _ _, ((wi P T + 1 : Nat) : Int), rfl, by omega, by omega, ?_⟩
  rw [natD_map]
  refine ⟨by simp; omega, ?_⟩
  refine lcR_m natD (fun j => D.lst (rowI (hi P T + 1) fun i => tE P T i j)) (List.range (wi P T + 1)) m _ (fun j hj => ⟨_, rfl, fun m Q q => ?_⟩) ?_
  · refine ⟨_, rfl, _, rfl, by simp; omega, ?_⟩
    exact lcR_m (fun i => D.lst (rowI (wi P T + 1) (ex (wi P T + 1) (cI P T i)))) (fun i => D.int (ex (wi P T + 1) (cI P T i) j)) (List.range (hi P T + 1)) m _ (fun i _ => ⟨_, rfl, fun m Q q => ⟨_, rfl, _, rfl, _, row_ix _ (rng_in _ j hj), q⟩⟩) ⟨hi P T + 1, fun i => ex (wi P T + 1) (cI P T i) j, by omega, rfl, q⟩
  refine ⟨_, rfl, _, rg_lenL _ _, ((hi P T + 1 : Nat) : Int), rfl, by omega, by omega, ?_⟩
  rw [natD_map]
  refine ⟨by simp; omega, ?_⟩
  refine lcR_m natD (fun i => D.lst (rowI (wi P T + 1) (tE P T i))) (List.range (hi P T + 1)) m _ (fun i hi' => ⟨_, rfl, fun m Q q => ?_⟩) q
  refine ⟨_, rfl, _, rfl, by simp; omega, ?_⟩
  exact lcR_m (fun j => D.lst (rowI (hi P T + 1) fun i => tE P T i j)) (fun j => D.int (tE P T i j)) (List.range (wi P T + 1)) m _ (fun j _ => ⟨_, rfl, fun m Q q => ⟨_, rfl, _, rfl, _, row_ix _ (rng_in _ i hi'), q⟩⟩) q
theorem law_table : ∀ as m Q, S_table as m Q → d_table (padn n_table as) m (fin Q) := by
  rintro as m Q ⟨P, T, hW, rfl, q⟩
  have := hW.few
  have := rk_le hW
  exact ⟨_, rfl, P, T, rfl, _, rfl, P, T, hW, rfl, _, by rw [tabI_len]; unfold hi; omega, rfl, q⟩
/-! ### sums -/
theorem Fr.sa {a b : Int} (h : Fr a b) : Sm a := by
  have := h.lo
  have := h.up
  have e : (2 : Nat) ^ 20 = 1048576 := by decide
  unfold Sm; omega
theorem Fr.sb {a b : Int} (h : Fr a b) : Sm b := by
  have := h.pos
  have := h.few
  have e : (2 : Nat) ^ 20 = 1048576 := by decide
  unfold Sm; omega
theorem Fr.sd {a b : Int} (h : Fr a b) : Sm (a - b) := by
  have := h.pos
  have := h.few
  have := h.lo
  have := h.up
  have e : (2 : Nat) ^ 20 = 1048576 := by decide
  unfold Sm; omega
theorem law_value : ∀ as m Q, S_value as m Q → d_value (padn n_value as) m (fin Q) := by
  rintro as m Q ⟨P, T, a, b, c, d, hW, f1, f2, rfl, q⟩
  have hll := llv
  have h11 := hW.few
  have hr := rk_le hW
  have hw := wi_le (P := P) (T := T)
  have hh : hi P T ≤ 11 := by unfold hi; omega
  refine ⟨_, rfl, P, T, rfl, _, rfl, _, rfl, by show 2 ≤ LL; omega, _, rfl, ?_⟩
  refine ⟨_, rfl, _, rfl, a, b, f1, rfl, _, rfl, ?_⟩
  refine ⟨_, rfl, _, rfl, c, d, f2, rfl, _, rfl, ?_⟩
  refine ⟨_, rfl, P, T, hW, rfl, ?_⟩
  rw [lst_is]
  refine ⟨_, rfl, _, rg_lenL _ _, natD (hi P T), sub_nd (a := hi P T + 1) (b := 1) (by omega), ?_⟩
  refine ⟨_, rfl, _, rg_ixL _ (j := 0) (by omega), _, row_lenL _ _, natD (wi P T), sub_nd (a := wi P T + 1) (b := 1) (by omega), rfl, ?_⟩
  refine ⟨_, rfl, _, rfl, ?_⟩
  rw [enum_map]
  let G : Nat → Nat → Int := fun i j => tE P T i j * a ^ i * b ^ (hi P T - i) * c ^ j * d ^ (wi P T - j)
  refine forR_rg (fun k => .tup [natD k, .lst (rowI (wi P T + 1) (tE P T k))]) (hi P T + 1) (fun i env m' => m' = m ∧ ∃ s3 s8 s9 s10 s11, env = [.val (webD P T), .val (prD a b), .val (prD c d), s3, .val (.lst ((List.range (hi P T + 1)).map fun i => .lst (rowI (wi P T + 1) (tE P T i)))), .val (natD (hi P T)), .val (natD (wi P T)), .val (.int (sm i fun i => sm (wi P T + 1) (G i))), s8, s9, s10, s11]) ?_ ?_ _ _ ⟨rfl, _, .no, .no, .no, .no, rfl⟩
  · rintro env m' ⟨rfl, s3, s8, s9, s10, s11, rfl⟩
    have e1 : (sm (hi P T + 1) fun i => sm (wi P T + 1) (G i)) = vTop P T a b c d := by
      unfold vTop
      rw [← S2_ex]
      unfold S2
      refine sm_congr fun i _ => sm_congr fun j _ => ?_
      show tE P T i j * a ^ i * b ^ (hi P T - i) * c ^ j * d ^ (wi P T - j) = tE P T i j * (a ^ i * b ^ (hi P T - i)) * c ^ j * d ^ (wi P T - j)
      rw [Int.mul_assoc (tE P T i j)]
    rw [e1]
    have p1 := bd_pow f1.sb (hi P T)
    have p2 := bd_pow f2.sb (wi P T)
    refine ⟨_, rfl, _, rfl, _, rfl, _, rfl, b, hi P T, f1.sb, by omega, rfl, _, rfl, _, rfl, _, rfl, d, wi P T, f2.sb, by omega, rfl, _, mulW_ok p1 p2 (by omega), ?_⟩
    refine ⟨vTop P T a b c d, vBot P T b d, ?_, ?_, rfl, q⟩
    · exact Int.mul_pos (Int.pow_pos (by have := f1.pos; omega)) (Int.pow_pos (by have := f2.pos; omega))
    · refine bd_up (bd_mul p1 p2) ?_
      have : hi P T + wi P T = T.length := by unfold hi wi; omega
      omega
  · rintro i hi' env m' ⟨rfl, s3, s8, s9, s10, s11, rfl⟩
    refine ⟨_, rfl, fun K hK => ?_⟩
    refine ⟨_, rfl, _, rfl, ?_⟩
    have en : enumD (rowI (wi P T + 1) (tE P T i)) = (List.range (wi P T + 1)).map fun k => .tup [natD k, .int (tE P T i k)] := enum_map _ fun k => .int (tE P T i k)
    rw [en]
    refine forR_rg (fun k => .tup [natD k, .int (tE P T i k)]) (wi P T + 1) (fun j env m2 => m2 = m' ∧ ∃ s10 s11, env = [.val (webD P T), .val (prD a b), .val (prD c d), s3, .val (.lst ((List.range (hi P T + 1)).map fun i => .lst (rowI (wi P T + 1) (tE P T i)))), .val (natD (hi P T)), .val (natD (wi P T)), .val (.int ((sm i fun i => sm (wi P T + 1) (G i)) + sm j (G i))), .val (natD i), .val (.lst (rowI (wi P T + 1) (tE P T i))), s10, s11]) ?_ ?_ _ _ ⟨rfl, s10, s11, by rw [sm_zero, Int.add_zero]; rfl⟩
    · rintro env m2 ⟨rfl, s10, s11, rfl⟩
      rw [sm_succ i] at hK
      exact hK _ _ ⟨rfl, s3, _, _, s10, s11, rfl⟩
    · rintro j hj env m2 ⟨rfl, s10, s11, rfl⟩
      refine ⟨_, rfl, fun K2 hK2 => ?_⟩
      have p0 := tE_bd hW i j
      have p1 := bd_pow f1.sa i
      have p2 := bd_pow f1.sb (hi P T - i)
      have p3 := bd_pow f2.sa j
      have p4 := bd_pow f2.sb (wi P T - j)
      refine ⟨_, rfl, _, rfl, _, rfl, _, rfl, _, rfl, a, i, f1.sa, by omega, rfl, _, mulW_ok p0 p1 (by omega), ?_⟩
      refine ⟨_, rfl, _, rfl, _, rfl, _, rfl, _, sub_nd (by omega), b, hi P T - i, f1.sb, by omega, rfl, _, mulW_ok (bd_mul p0 p1) p2 (by omega), ?_⟩
      refine ⟨_, rfl, _, rfl, _, rfl, c, j, f2.sa, by omega, rfl, _, mulW_ok (bd_mul (bd_mul p0 p1) p2) p3 (by omega), ?_⟩
      refine ⟨_, rfl, _, rfl, _, rfl, _, rfl, _, sub_nd (by omega), d, wi P T - j, f2.sb, by omega, rfl, _, mulW_ok (bd_mul (bd_mul (bd_mul p0 p1) p2) p3) p4 (by omega), _, rfl, ?_⟩
      rw [sm_succ j, ← Int.add_assoc] at hK2
      exact hK2 _ _ ⟨rfl, _, _, rfl⟩
theorem law_law_sum : ∀ as m Q, S_law_sum as m Q → d_law_sum (padn n_law_sum as) m (fin Q) := by
  rintro as m Q ⟨a, b, f, x0, x1, y0, y1, ha, hb, hf, s0, s1, t0, t1, rfl, q⟩
  have hll := llv
  rw [tup_is]
  refine ⟨_, rfl, _, rg_lenT _ _, natD a, sub_nd (a := a + 1) (b := 1) (by omega), ?_⟩
  refine ⟨_, rfl, _, rg_ixT _ (j := 0) (by omega), _, row_lenT _ _, natD b, sub_nd (a := b + 1) (b := 1) (by omega), rfl, ?_⟩
  refine ⟨_, rfl, _, rfl, ((a + 1 : Nat) : Int), rfl, by omega, by omega, ?_⟩
  rw [natD_map]
  let G : Nat → Nat → Int := fun i j => f i j * (x0 ^ i * x1 ^ (a - i)) * y0 ^ j * y1 ^ (b - j)
  refine forR_rg natD (a + 1) (fun i env m' => m' = m ∧ ∃ s6 s7 s8, env = [.val (.tup ((List.range (a + 1)).map fun i => .tup (rowI (b + 1) (f i)))), .val (prD x0 x1), .val (prD y0 y1), .val (natD a), .val (natD b), .val (.int (sm i fun i => sm (b + 1) (G i))), s6, s7, s8]) ?_ ?_ _ _ ⟨rfl, .no, .no, .no, rfl⟩
  · rintro env m' ⟨rfl, s6, s7, s8, rfl⟩
    have p1 := bd_pow s1 a
    have p2 := bd_pow t1 b
    exact ⟨_, rfl, _, rfl, _, rfl, _, rfl, x1, a, s1, by omega, rfl, _, rfl, _, rfl, _, rfl, y1, b, t1, by omega, rfl, _, mulW_ok p1 p2 (by omega), by show 2 ≤ LL; omega, q⟩
  · rintro i hi' env m' ⟨rfl, s6, s7, s8, rfl⟩
    refine ⟨_, rfl, fun K hK => ?_⟩
    refine ⟨_, rfl, _, rfl, ((b + 1 : Nat) : Int), rfl, by omega, by omega, ?_⟩
    rw [natD_map]
    refine forR_rg natD (b + 1) (fun j env m2 => m2 = m' ∧ ∃ s7 s8, env = [.val (.tup ((List.range (a + 1)).map fun i => .tup (rowI (b + 1) (f i)))), .val (prD x0 x1), .val (prD y0 y1), .val (natD a), .val (natD b), .val (.int ((sm i fun i => sm (b + 1) (G i)) + sm j (G i))), .val (natD i), s7, s8]) ?_ ?_ _ _ ⟨rfl, s7, s8, by rw [sm_zero, Int.add_zero]; rfl⟩
    · rintro env m2 ⟨rfl, s7, s8, rfl⟩
      rw [sm_succ i] at hK
      exact hK _ _ ⟨rfl, _, s7, s8, rfl⟩
    · rintro j hj env m2 ⟨rfl, s7, s8, rfl⟩
      refine ⟨_, rfl, fun K2 hK2 => ?_⟩
      have p0 := hf i j (by omega) (by omega)
      have p1 := bd_pow s0 i
      have p2 := bd_pow s1 (a - i)
      have p3 := bd_pow t0 j
      have p4 := bd_pow t1 (b - j)
      refine ⟨_, rfl, _, rfl, _, rfl, x0, i, s0, by omega, rfl, _, rfl, _, rfl, _, rfl, _, rfl, _, sub_nd (by omega), x1, a - i, s1, by omega, rfl, _, mulW_ok p1 p2 (by omega), ?_⟩
      refine ⟨_, rfl, _, rfl, _, rfl, _, rg_ixT _ hi', _, rfl, _, row_ixT _ hj, _, rfl, _, mulW_ok p0 (bd_mul p1 p2) (by omega), ?_⟩
      refine ⟨_, rfl, _, rfl, _, rfl, y0, j, t0, by omega, rfl, _, mulW_ok (bd_mul p0 (bd_mul p1 p2)) p3 (by omega), ?_⟩
      refine ⟨_, rfl, _, rfl, _, rfl, _, rfl, _, sub_nd (by omega), y1, b - j, t1, by omega, rfl, _, mulW_ok (bd_mul (bd_mul p0 (bd_mul p1 p2)) p3) p4 (by omega), _, rfl, ?_⟩
      rw [sm_succ j, ← Int.add_assoc] at hK2
      exact hK2 _ _ ⟨rfl, _, _, rfl⟩
end K15
namespace K15
open PySem L2 G T
/-! ### alike -/
structure Se (d : D) (n : Nat) : Prop where
  c : d.okd n = true
  e : PyData.eqv d.py d.py = true
theorem okdL_all : ∀ {ds : List D} {n : Nat}, (∀ d ∈ ds, d.okd n = true) → okdL ds n = true
  | [], _, _ => rfl
  | d :: r, n, h => by
    unfold okdL
    rw [h d (by simp), okdL_all fun x hx => h x (by simp [hx])]; rfl
theorem eqvL_all : ∀ {ds : List D}, (∀ d ∈ ds, PyData.eqv d.py d.py = true) → PyData.eqvAll (pyL ds) (pyL ds) = true
  | [], _ => rfl
  | d :: r, h => by
    simp only [pyL, PyData.eqvAll]
    rw [h d (by simp), eqvL_all fun x hx => h x (by simp [hx])]; rfl
theorem Se.int (i : Int) (n : Nat) : Se (.int i) n := ⟨rfl, by simp [D.py, PyData.eqv]⟩
theorem Se.tup {ds : List D} {n : Nat} (h : ∀ d ∈ ds, Se d n) : Se (.tup ds) (n + 1) where
  c := by
    unfold D.okd
    rw [show n + 1 - 1 = n from rfl, okdL_all fun d hd => (h d hd).c]; simp
  e := by
    simp only [D.py, PyData.eqv]
    exact eqvL_all fun d hd => (h d hd).e
theorem Se.lst {ds : List D} {n : Nat} (h : ∀ d ∈ ds, Se d n) : Se (.lst ds) (n + 1) where
  c := by
    unfold D.okd
    rw [show n + 1 - 1 = n from rfl, okdL_all fun d hd => (h d hd).c]; simp
  e := by
    simp only [D.py, PyData.eqv]
    exact eqvL_all fun d hd => (h d hd).e
theorem ne_tupS {ds : List D} (h : Se (.tup ds) 60) : neD (.tup ds) (.tup ds) = some (.bl false) := by
  show (deepEq _ _).map _ = _
  unfold deepEq
  rw [h.c, h.e]; rfl
theorem ne_lstS {ds : List D} (h : Se (.lst ds) 60) : neD (.lst ds) (.lst ds) = some (.bl false) := by
  show (deepEq _ _).map _ = _
  unfold deepEq
  rw [h.c, h.e]; rfl
theorem se_row (b : Nat) (f : Nat → Int) (n : Nat) : Se (.tup (rowI b f)) (n + 1) := Se.tup fun d hd => by
  obtain ⟨j, _, rfl⟩ := List.mem_map.mp hd
  exact .int _ _
theorem se_tab (a b : Nat) (f : Nat → Nat → Int) (n : Nat) : Se (tupT (tabI a b f)) (n + 2) := by
  rw [tup_is]
  exact Se.tup fun d hd => by
    obtain ⟨j, _, rfl⟩ := List.mem_map.mp hd
    exact se_row _ _ _
theorem ne_tab (a b : Nat) (f : Nat → Nat → Int) : neD (tupT (tabI a b f)) (tupT (tabI a b f)) = some (.bl false) := ne_tupS (se_tab a b f 58)
theorem ne_pr (a b : Int) : neD (prD a b) (prD a b) = some (.bl false) := ne_tupS (Se.tup (n := 59) fun d hd => by
  rcases List.mem_cons.mp hd with rfl | hd
  · exact .int _ _
  · rw [List.mem_singleton] at hd; subst hd; exact .int _ _)
/-! ### shown -/
theorem show_all : ∀ {ds : List D}, (∀ d ∈ ds, d.py.showable = true ∧ d.py.hasDict = false) → PyData.showableAll (pyL ds) = true ∧ PyData.hasDictAll (pyL ds) = false
  | [], _ => ⟨by simp [pyL, PyData.showableAll], by simp [pyL, PyData.hasDictAll]⟩
  | d :: r, h => by
    obtain ⟨h1, h2⟩ := show_all (ds := r) fun x hx => h x (by simp [hx])
    obtain ⟨h3, h4⟩ := h d (by simp)
    exact ⟨by simp only [pyL, PyData.showableAll, h1, h3, Bool.and_self], by simp only [pyL, PyData.hasDictAll, h2, h4, Bool.or_self]⟩
structure Sh (d : D) (n B : Nat) : Prop where
  a : d.py.showable = true
  b : d.py.hasDict = false
  c : d.okd n = true
  l : d.py.shown.length ≤ B
theorem Sh.tup {ds : List D} {n B : Nat} (h : ∀ d ∈ ds, Sh d n B) : Sh (.tup ds) (n + 1) (3 + ds.length * (B + 2)) where
  a := (show_all fun d hd => ⟨(h d hd).a, (h d hd).b⟩).1
  b := (show_all fun d hd => ⟨(h d hd).a, (h d hd).b⟩).2
  c := by
    unfold D.okd
    rw [show n + 1 - 1 = n from rfl, okdL_all fun d hd => (h d hd).c]; simp
  l := shown_tup_le fun d hd => (h d hd).l
theorem Sh.mono {d : D} {n B B' : Nat} (h : Sh d n B) (hB : B ≤ B') : Sh d n B' := ⟨h.a, h.b, h.c, Nat.le_trans h.l hB⟩
theorem sh_int {i : Int} (h : i.natAbs < 2 ^ 1000) (n : Nat) : Sh (.int i) n 1001 := by
  refine ⟨?_, rfl, rfl, ?_⟩
  · show decide (i.natAbs.log2 < 1920) = true
    have := lg h
    exact decide_eq_true (by omega)
  · have h2 : i.natAbs < 10 ^ 1000 := Nat.lt_of_lt_of_le h (Nat.pow_le_pow_left (by decide) _)
    have e := int_text_length_le10 (k := 1000) (by decide) h2
    show (Str.ofString (toString i)).length ≤ 1001
    rw [ofString_length]; exact e
theorem repr_sh {ds : List D} {B : Nat} (h : Sh (.tup ds) 60 B) (hB : B ≤ LL) : ∃ z, reprD [.tup ds] = some (.str z) := by
  refine ⟨_, if_pos ⟨?_, Nat.le_trans h.l hB⟩⟩
  unfold showD
  rw [h.a, h.b, h.c]; rfl
theorem repr_tab {a b : Nat} {f : Nat → Nat → Int} (ha : a ≤ 7) (hb : b ≤ 7) (hf : ∀ i j, (f i j).natAbs < 2 ^ 1000) : ∃ z, reprD [tupT (tabI a b f)] = some (.str z) := by
  have hll := llv
  rw [tup_is]
  have s : Sh (.tup ((List.range a).map fun i => .tup (rowI b (f i)))) 60 60000 := by
    have := Sh.tup (ds := (List.range a).map fun i => D.tup (rowI b (f i))) (n := 59) (B := 7024) fun d hd => by
      obtain ⟨i, _, rfl⟩ := List.mem_map.mp hd
      have := Sh.tup (ds := rowI b (f i)) (n := 58) (B := 1001) fun d hd => by
        obtain ⟨j, _, rfl⟩ := List.mem_map.mp hd
        exact sh_int (hf i j) _
      rw [rowI_len] at this
      exact this.mono (by omega)
    rw [List.length_map, List.length_range] at this
    exact this.mono (by omega)
  exact repr_sh s (by omega)
theorem repr_pr {a b : Int} (ha : a.natAbs < 2 ^ 1000) (hb : b.natAbs < 2 ^ 1000) : ∃ z, reprD [prD a b] = some (.str z) := by
  have hll := llv
  have := Sh.tup (ds := [.int a, .int b]) (n := 59) (B := 1001) fun d hd => by
    rcases List.mem_cons.mp hd with rfl | hd
    · exact sh_int ha _
    · rw [List.mem_singleton] at hd; subst hd; exact sh_int hb _
  exact repr_sh this (by show 3 + 2 * _ ≤ _; omega)
theorem ne_self (z : Str) : neD (.str z) (.str z) = some (.bl false) := by
  show (some (decide (z = z))).map _ = _
  simp
/-! ### fractions drawn -/
theorem Fr.one {a : Int} (h1 : -1000000 ≤ a) (h2 : a ≤ 1000000) : Fr a 1 := ⟨h1, h2, by decide, by decide, Int.gcd_one_right a⟩
theorem Fr.of {t b : Nat} {s : Int} (ht : t ≤ 1000000) (hb1 : 1 ≤ b) (hb2 : b ≤ 1000) (hs : s = 1 ∨ s = -1) : Fr (s * ((t : Int) / (Nat.gcd t b : Nat))) ((b : Int) / (Nat.gcd t b : Nat)) := by
  have hg : 0 < Nat.gcd t b := Nat.gcd_pos_of_pos_right t (by omega)
  have e1 : (t : Int) / (Nat.gcd t b : Nat) = ((t / Nat.gcd t b : Nat) : Int) := rfl
  have e2 : (b : Int) / (Nat.gcd t b : Nat) = ((b / Nat.gcd t b : Nat) : Int) := rfl
  have l1 : t / Nat.gcd t b ≤ t := Nat.div_le_self _ _
  have l2 : b / Nat.gcd t b ≤ b := Nat.div_le_self _ _
  have l3 : 1 ≤ b / Nat.gcd t b := Nat.div_pos (Nat.le_of_dvd (by omega) (Nat.gcd_dvd_right t b)) hg
  have co : Nat.gcd (t / Nat.gcd t b) (b / Nat.gcd t b) = 1 := by
    rw [Nat.gcd_div (Nat.gcd_dvd_left t b) (Nat.gcd_dvd_right t b)]
    exact Nat.div_self hg
  rw [e1, e2]
  clear e1 e2
  generalize t / Nat.gcd t b = u at *
  generalize b / Nat.gcd t b = v at *
  refine ⟨?_, ?_, by omega, by omega, ?_⟩
  · rcases hs with rfl | rfl <;> omega
  · rcases hs with rfl | rfl <;> omega
  · have : (s * ((u : Nat) : Int)).natAbs = u := by rcases hs with rfl | rfl <;> omega
    unfold Int.gcd
    rw [this]
    exact co
theorem law_law_fraction : ∀ as m Q, S_law_fraction as m Q → d_law_fraction (padn n_law_fraction as) m (fin Q) := by
  rintro as m Q ⟨rfl, q⟩
  have hll := llv
  refine ⟨_, rfl, .inl rfl, 4, by decide, by decide, rfl, fun way hway => ?_⟩
  refine ⟨by show 2 ≤ LL; omega, _, rfl, .inl rfl, 2, by decide, by decide, rfl, fun sg hsg => ?_⟩
  obtain ⟨s, hs, hix⟩ : ∃ s : Int, (s = 1 ∨ s = -1) ∧ ixD (.lst [.int 1, .int (-1)]) (.int (sg : Nat)) = some (.int s) := by
    have : sg = 0 ∨ sg = 1 := by omega
    rcases this with rfl | rfl
    · exact ⟨1, .inl rfl, rfl⟩
    · exact ⟨-1, .inr rfl, rfl⟩
  refine ⟨_, hix, _, _, rfl, ?_⟩
  have hb : ∀ t bo : Nat, t ≤ 1000000 → 1 ≤ bo → bo ≤ 1000 → ∃ x y : Int, Fr x y ∧ mulD (.int s) (.int ((t : Int) / (Nat.gcd t bo : Nat))) = some (.int x) ∧ fdivD (natD bo) (natD (Nat.gcd t bo)) = some (.int y) ∧ fdivD (natD t) (natD (Nat.gcd t bo)) = some (.int ((t : Int) / (Nat.gcd t bo : Nat))) := fun t bo h1 h2 h3 => by
    have hg : 0 < Nat.gcd t bo := Nat.gcd_pos_of_pos_right t (by omega)
    have hg2 : Nat.gcd t bo ≤ bo := Nat.le_of_dvd (by omega) (Nat.gcd_dvd_right t bo)
    exact ⟨_, _, Fr.of h1 h2 h3 hs, mul_ok _ (by rcases hs with rfl | rfl <;> decide), if_pos (by omega), if_pos (by omega)⟩
  have hc : way = 0 ∨ way = 1 ∨ way = 2 ∨ way = 3 := by omega
  have small : ∀ x : D, x ∈ ([.int 0, .int 1, .int 2, .int (-1), .int 3, .int (-2)] : List D) → ∃ i : Int, x = .int i ∧ Fr i 1 := fun x hx => by
    simp only [List.mem_cons, List.not_mem_nil, or_false] at hx
    rcases hx with rfl | rfl | rfl | rfl | rfl | rfl
    · exact ⟨_, rfl, Fr.one (by decide) (by decide)⟩
    · exact ⟨_, rfl, Fr.one (by decide) (by decide)⟩
    · exact ⟨_, rfl, Fr.one (by decide) (by decide)⟩
    · exact ⟨_, rfl, Fr.one (by decide) (by decide)⟩
    · exact ⟨_, rfl, Fr.one (by decide) (by decide)⟩
    · exact ⟨_, rfl, Fr.one (by decide) (by decide)⟩
  rcases hc with rfl | rfl | rfl | rfl
  · refine ⟨_, rfl, _, rfl, _, rfl, ?_⟩
    refine ⟨_, rfl, .inl rfl, by show 6 ≤ LL; omega, .inr ⟨[.int 0, .int 1, .int 2, .int (-1), .int 3, .int (-2)], by simp, by show 6 ≤ LL; omega, rfl, fun x hx => ?_⟩⟩
    obtain ⟨i, rfl, h⟩ := small x hx
    exact ⟨by show 2 ≤ LL; omega, q i 1 h⟩
  · refine ⟨_, rfl, _, rfl, _, rfl, ?_⟩
    refine ⟨_, rfl, .inl rfl, by show 6 ≤ LL; omega, .inr ⟨[.int 0, .int 1, .int 2, .int (-1), .int 3, .int (-2)], by simp, by show 6 ≤ LL; omega, rfl, fun x hx => ?_⟩⟩
    obtain ⟨i, rfl, h⟩ := small x hx
    exact ⟨by show 2 ≤ LL; omega, q i 1 h⟩
  · refine ⟨_, rfl, _, rfl, _, rfl, ?_⟩
    refine ⟨_, rfl, .inl rfl, .int 1000000, rfl, _, rfl, by show 2 ≤ LL; omega, _, rfl, _, rfl, .int 10, rfl, 10, by decide, by decide, rfl, fun t ht => ?_⟩
    refine ⟨_, rfl, .inl rfl, by show 2 ≤ LL; omega, _, rfl, _, rfl, .int 9, rfl, 9, by decide, by decide, rfl, fun d hd => ?_⟩
    refine ⟨natD (1 + d), by show some (D.int _) = some (D.int _); congr 1, _, _, rfl, ?_⟩
    obtain ⟨x, y, fr, e1, e2, e3⟩ := hb t (1 + d) (by omega) (by omega) (by omega)
    refine ⟨_, rfl, _, rfl, (t : Nat), ((1 + d : Nat) : Int), ?_, rfl, ?_⟩
    · have : (2 : Nat) ^ 10 ≤ 2 ^ 190 := Nat.pow_le_pow_right (by decide) (by decide)
      have e : (2 : Nat) ^ 10 = 1024 := by decide
      omega
    · exact ⟨_, rfl, _, rfl, _, rfl, _, e3, _, e1, _, rfl, _, rfl, _, e2, by show 2 ≤ LL; omega, q x y fr⟩
  · refine ⟨_, rfl, _, rfl, _, rfl, ?_⟩
    refine ⟨_, rfl, .inl rfl, .int 1000000, rfl, _, rfl, by show 2 ≤ LL; omega, _, rfl, _, rfl, .int 1000001, rfl, 1000001, by decide, by decide, rfl, fun t ht => ?_⟩
    refine ⟨_, rfl, .inl rfl, by show 2 ≤ LL; omega, _, rfl, _, rfl, .int 1000, rfl, 1000, by decide, by decide, rfl, fun d hd => ?_⟩
    refine ⟨natD (1 + d), by show some (D.int _) = some (D.int _); congr 1, _, _, rfl, ?_⟩
    obtain ⟨x, y, fr, e1, e2, e3⟩ := hb t (1 + d) (by omega) (by omega) (by omega)
    refine ⟨_, rfl, _, rfl, (t : Nat), ((1 + d : Nat) : Int), ?_, rfl, ?_⟩
    · have : (2 : Nat) ^ 10 ≤ 2 ^ 190 := Nat.pow_le_pow_right (by decide) (by decide)
      have e : (2 : Nat) ^ 10 = 1024 := by decide
      omega
    · exact ⟨_, rfl, _, rfl, _, rfl, _, e3, _, e1, _, rfl, _, rfl, _, e2, by show 2 ≤ LL; omega, q x y fr⟩
/-! ### the table is right -/
theorem in_false (n : Nat) : inD (.bl true) (.lst ((List.range n).map fun _ => D.bl false)) = some (.bl false) := by
  show (inB _ _).map _ = _
  have h1 : ((List.range n).map fun _ => D.bl false).all D.flat = true := by
    rw [List.all_eq_true]
    intro x hx
    obtain ⟨_, _, rfl⟩ := List.mem_map.mp hx
    rfl
  have h2 : inL (.bl true) ((List.range n).map fun _ => D.bl false) = false := by
    unfold inL
    rw [Bool.eq_false_iff]
    intro z
    rw [List.any_eq_true] at z
    obtain ⟨x, hx, z⟩ := z
    obtain ⟨_, _, rfl⟩ := List.mem_map.mp hx
    exact absurd z (by decide)
  have : inB (.bl true) (.lst ((List.range n).map fun _ => D.bl false)) = if (D.bl true).flat && ((List.range n).map fun _ => D.bl false).all D.flat then some (inL (.bl true) ((List.range n).map fun _ => D.bl false)) else none := rfl
  rw [this, h1, h2]; rfl
theorem ge_t {x : Int} (h : 0 ≤ x) : geD (.int x) (.int 0) = some (.bl true) := by
  show some (D.bl (decide ((0 : Int) ≤ x))) = _
  rw [decide_eq_true h]
theorem sm_small {x : Nat} (h : x ≤ 1000) : Sm ((x : Nat) : Int) := by
  have e : (2 : Nat) ^ 20 = 1048576 := by decide
  unfold Sm; omega
theorem law_law_table_right : ∀ as m Q, S_law_table_right as m Q → d_law_table_right (padn n_law_table_right as) m (fin Q) := by
  rintro as m Q ⟨P, T, hW, h6, rfl, q⟩
  have hll := llv
  have h11 := hW.few
  have hr := rk_le hW
  have hw := wi_le (P := P) (T := T)
  have hh : hi P T ≤ 6 := by unfold hi; omega
  have sT : srcD (tupT (tabI (hi P T + 1) (wi P T + 1) (tE P T))) = some ((List.range (hi P T + 1)).map fun i => .tup (rowI (wi P T + 1) (tE P T i))) := by rw [tup_is]; rfl
  have sC : srcD (tupT (tabI (hi P T + 1) (wi P T + 1) (cI P T))) = some ((List.range (hi P T + 1)).map fun i => .tup (rowI (wi P T + 1) (cI P T i))) := by rw [tup_is]; rfl
  refine ⟨_, rfl, _, rfl, _, rfl, _, rfl, _, sT, by simp; omega, ?_⟩
  refine lcR_m (fun i => D.tup (rowI (wi P T + 1) (tE P T i))) (fun _ => natD (wi P T + 1)) (List.range (hi P T + 1)) m _ (fun i _ => ⟨_, rfl, fun m Q q => ⟨_, rfl, _, row_lenT _ _, q⟩⟩) ?_
  refine ⟨_, rfl, _, sC, by simp; omega, ?_⟩
  refine lcR_m (fun i => D.tup (rowI (wi P T + 1) (cI P T i))) (fun _ => natD (wi P T + 1)) (List.range (hi P T + 1)) m _ (fun i _ => ⟨_, rfl, fun m Q q => ⟨_, rfl, _, row_lenT _ _, q⟩⟩) ?_
  refine ⟨_, ne_lstS (Se.lst (n := 59) fun d hd => by
    obtain ⟨j, _, rfl⟩ := List.mem_map.mp hd
    exact .int _ _), _, rfl, ?_⟩
  refine ⟨_, rfl, _, sT, ?_⟩
  refine forR_rg (fun i => D.tup (rowI (wi P T + 1) (tE P T i))) (hi P T + 1) (fun _ env m' => m' = m ∧ ∃ s2, env = [.val (tupT (tabI (hi P T + 1) (wi P T + 1) (tE P T))), .val (tupT (tabI (hi P T + 1) (wi P T + 1) (cI P T))), s2, .no, .no, .no]) ?_ ?_ _ _ ⟨rfl, .no, rfl⟩
  · rintro env m' ⟨rfl, s2, rfl⟩
    have lC : lenD0 [tupT (tabI (hi P T + 1) (wi P T + 1) (cI P T))] = some (natD (hi P T + 1)) := by rw [tup_is]; exact rg_lenT _ _
    have xC : ixD (tupT (tabI (hi P T + 1) (wi P T + 1) (cI P T))) (natD 0) = some (.tup (rowI (wi P T + 1) (cI P T 0))) := by rw [tup_is]; exact rg_ixT (fun i => D.tup (rowI (wi P T + 1) (cI P T i))) (by omega)
    refine ⟨_, rfl, _, lC, ((hi P T + 1 : Nat) : Int), rfl, by omega, by omega, ?_⟩
    rw [natD_map]
    refine forR_rg natD (hi P T + 1) (fun _ env m2 => m2 = m' ∧ ∃ s3 s4, env = [.val (tupT (tabI (hi P T + 1) (wi P T + 1) (tE P T))), .val (tupT (tabI (hi P T + 1) (wi P T + 1) (cI P T))), s2, s3, s4, .no]) ?_ ?_ _ _ ⟨rfl, .no, .no, rfl⟩
    · rintro env m2 ⟨rfl, s3, s4, rfl⟩
      exact q
    · rintro x hx env m2 ⟨rfl, s3, s4, rfl⟩
      refine ⟨_, rfl, fun K hK => ?_⟩
      refine ⟨_, rfl, _, xC, _, row_lenT _ _, ((wi P T + 1 : Nat) : Int), rfl, by omega, by omega, ?_⟩
      rw [natD_map]
      refine forR_rg natD (wi P T + 1) (fun _ env m3 => m3 = m2 ∧ ∃ s4, env = [.val (tupT (tabI (hi P T + 1) (wi P T + 1) (tE P T))), .val (tupT (tabI (hi P T + 1) (wi P T + 1) (cI P T))), s2, .val (natD x), s4, .no]) ?_ ?_ _ _ ⟨rfl, s4, rfl⟩
      · rintro env m3 ⟨rfl, s4, rfl⟩
        exact hK _ _ ⟨rfl, _, s4, rfl⟩
      · rintro y hy env m3 ⟨rfl, s4, rfl⟩
        refine ⟨_, rfl, fun K2 hK2 => ?_⟩
        refine ⟨_, rfl, _, rfl, _, rfl, by show 2 ≤ LL; omega, _, rfl, _, rfl, by show 2 ≤ LL; omega, hi P T, wi P T, tE P T, ((x + 1 : Nat) : Int), 1, ((y + 1 : Nat) : Int), 1, by omega, by omega, fun i j _ _ => bd_up (tE_bd hW i j) (by decide), sm_small (by omega), sm_small (x := 1) (by decide), sm_small (by omega), sm_small (x := 1) (by decide), rfl, ?_⟩
        refine ⟨_, rfl, _, rfl, by show 2 ≤ LL; omega, _, rfl, by show 2 ≤ LL; omega, hi P T, wi P T, cI P T, (x : Nat), 1, (y : Nat), 1, by omega, by omega, fun i j _ _ => bd_up (cI_bd hW.few i j) (by decide), sm_small (by omega), sm_small (x := 1) (by decide), sm_small (by omega), sm_small (x := 1) (by decide), rfl, ?_⟩
        have e : S2 (hi P T + 1) (wi P T + 1) (tE P T) ((x + 1 : Nat) : Int) 1 ((y + 1 : Nat) : Int) 1 = S2 (hi P T + 1) (wi P T + 1) (cI P T) (x : Nat) 1 (y : Nat) 1 := by
          unfold tE
          rw [S2_ex]
          have e1 : ((x + 1 : Nat) : Int) - 1 = (x : Nat) := by omega
          have e2 : ((y + 1 : Nat) : Int) - 1 = (y : Nat) := by omega
          rw [e1, e2]
        rw [e]
        exact ⟨_, ne_pr _ _, _, rfl, hK2 _ _ ⟨rfl, _, rfl⟩⟩
  · rintro i hi' env m' ⟨rfl, s2, rfl⟩
    refine ⟨_, rfl, fun K hK => ?_⟩
    refine ⟨_, rfl, _, rfl, _, rfl, _, rfl, _, rfl, by rw [rowI_len]; omega, ?_⟩
    refine lcR_m (fun j => D.int (tE P T i j)) (fun _ => D.bl true) (List.range (wi P T + 1)) m' _ (fun j _ => ⟨_, rfl, fun m Q q => ⟨_, rfl, _, rfl, _, rfl, _, rfl, _, ge_t (tE_pos hW i j), q⟩⟩) ?_
    refine ⟨_, all_true _, _, rfl, ?_⟩
    refine ⟨_, rfl, _, rfl, by rw [rowI_len]; omega, ?_⟩
    refine lcR_m (fun j => D.int (tE P T i j)) (fun _ => D.bl false) (List.range (wi P T + 1)) m' _ (fun j _ => ⟨_, rfl, fun m Q q => ⟨_, rfl, _, rfl, q⟩⟩) ?_
    exact ⟨_, in_false _, _, rfl, hK _ _ ⟨rfl, _, rfl⟩⟩
theorem S2_bd {a b : Nat} {f : Nat → Nat → Int} {x0 x1 y0 y1 : Int} (ha : a ≤ 11) (hb : b ≤ 11) (hf : ∀ i j, (f i j).natAbs < 2 ^ 60) (s0 : Sm x0) (s1 : Sm x1) (t0 : Sm y0) (t1 : Sm y1) : (S2 (a + 1) (b + 1) f x0 x1 y0 y1).natAbs < 2 ^ 1000 := by
  unfold S2
  refine bd_up (bd_sm4 (k := 604) (by omega) fun i hi => bd_sm4 (k := 600) (by omega) fun j hj => ?_) (by decide)
  have p0 := hf i j
  have p1 := bd_pow s0 i
  have p2 := bd_pow s1 (a - i)
  have p3 := bd_pow t0 j
  have p4 := bd_pow t1 (b - j)
  exact bd_up (bd_mul (bd_mul (bd_mul p0 (bd_mul p1 p2)) p3) p4) (by omega)
theorem law_law_right : ∀ as m Q, S_law_right as m Q → d_law_right (padn n_law_right as) m (fin Q) := by
  rintro as m Q ⟨rfl, q⟩
  have hll := llv
  refine ⟨_, rfl, .inl rfl, rfl, fun P T hW h4 h6 => ⟨_, rfl, ?_⟩⟩
  have hr := rk_le hW
  have hw := wi_le (P := P) (T := T)
  have hh : hi P T ≤ 6 := by unfold hi; omega
  have hs : hi P T + wi P T ≤ 6 := by unfold hi wi; omega
  refine ⟨_, rfl, _, rfl, P, T, hW, rfl, _, rfl, _, rfl, P, T, hW, rfl, _, _, rfl, ?_⟩
  obtain ⟨z1, hz1⟩ := repr_tab (a := hi P T + 1) (b := wi P T + 1) (f := cI P T) (by omega) (by omega) fun i j => bd_up (cI_bd hW.few i j) (by decide)
  refine ⟨_, rfl, P, T, hW, rfl, _, hz1, _, rfl, _, hz1, _, ne_self z1, _, rfl, ?_⟩
  refine ⟨_, rfl, P, T, hW, rfl, _, rfl, _, ne_tab _ _ _, _, rfl, ?_⟩
  refine ⟨_, rfl, P, T, hW, rfl, _, rfl, P, T, hW, h6, rfl, _, rfl, ?_⟩
  refine ⟨_, rfl, P, T, hW, rfl, _, rfl, P, T, hW, rfl, _, ne_tab _ _ _, _, rfl, ?_⟩
  refine ⟨((3 : Nat) : Int), rfl, by decide, by decide, ?_⟩
  rw [natD_map]
  refine forR_rg natD 3 (fun _ env m' => m' = m ∧ ∃ s5 s6 s7 s8 s9 s10 s11, env = [.cask, .val (plD P), .val (.tup (T.map wayD)), .val (webD P T), .val (tupT (tabI (hi P T + 1) (wi P T + 1) (cI P T))), s5, s6, s7, s8, s9, s10, s11]) ?_ ?_ _ _ ⟨rfl, .no, .no, .no, .no, .no, .no, .no, rfl⟩
  · rintro env m' ⟨rfl, s5, s6, s7, s8, s9, s10, s11, rfl⟩
    exact q
  · rintro i _ env m' ⟨rfl, s5, s6, s7, s8, s9, s10, s11, rfl⟩
    refine ⟨_, rfl, fun K hK => ?_⟩
    refine ⟨_, rfl, .inl rfl, rfl, fun a b f1 => ?_⟩
    refine ⟨_, rfl, .inl rfl, rfl, fun c d f2 => ⟨_, _, rfl, ?_⟩⟩
    have bt : (vTop P T a b c d).natAbs < 2 ^ 1000 := S2_bd (by omega) (by omega) (fun i j => bd_up (cI_bd hW.few i j) (by decide)) f1.sd f1.sb f2.sd f2.sb
    have bp : 0 < vBot P T b d := Int.mul_pos (Int.pow_pos (by have := f1.pos; omega)) (Int.pow_pos (by have := f2.pos; omega))
    have bb : (vBot P T b d).natAbs < 2 ^ 190 := bd_up (bd_mul (bd_pow f1.sb (hi P T)) (bd_pow f2.sb (wi P T))) (by omega)
    refine ⟨_, rfl, _, rfl, _, rfl, _, rfl, _, rfl, _, rfl, _, rfl, _, rfl, by show 2 ≤ LL; omega, _, rfl, _, rfl, _, rfl, _, rfl, _, rfl, _, rfl, _, rfl, by show 2 ≤ LL; omega, ?_⟩
    refine ⟨hi P T, wi P T, cI P T, a - b, b, c - d, d, by omega, by omega, fun i j _ _ => bd_up (cI_bd hW.few i j) (by decide), f1.sd, f1.sb, f2.sd, f2.sb, rfl, _, rfl, ?_⟩
    refine ⟨_, rfl, _, rfl, vTop P T a b c d, vBot P T b d, bb, rfl, ?_⟩
    have hg := gcd_pos (a := vTop P T a b c d) bp
    have hl : ((Int.gcd (vTop P T a b c d) (vBot P T b d) : Nat) : Int).natAbs < 2 ^ 190 := by
      rw [Int.natAbs_natCast]
      exact Nat.lt_of_le_of_lt (gcd_le bp) bb
    have e1 : fdivWD (.int (vTop P T a b c d)) (natD (Int.gcd (vTop P T a b c d) (vBot P T b d))) = some (.int (vTop P T a b c d / (Int.gcd (vTop P T a b c d) (vBot P T b d) : Nat))) := fdivW_ok (by omega) hl (by omega)
    have e2 : fdivWD (.int (vBot P T b d)) (natD (Int.gcd (vTop P T a b c d) (vBot P T b d))) = some (.int (vBot P T b d / (Int.gcd (vTop P T a b c d) (vBot P T b d) : Nat))) := fdivW_ok (by omega) hl (by omega)
    refine ⟨_, rfl, _, rfl, _, e1, _, rfl, _, rfl, _, e2, by show 2 ≤ LL; omega, ?_⟩
    obtain ⟨z2, hz2⟩ : ∃ z, reprD [frD (vTop P T a b c d) (vBot P T b d)] = some (.str z) := repr_pr (Nat.lt_of_le_of_lt (Int.natAbs_ediv_le_natAbs _ _) bt) (Nat.lt_of_le_of_lt (Int.natAbs_ediv_le_natAbs _ _) (bd_up bb (by decide)))
    refine ⟨_, rfl, _, rfl, _, rfl, P, T, a, b, c, d, hW, f1, f2, rfl, _, hz2, _, rfl, _, hz2, _, ne_self z2, _, rfl, ?_⟩
    refine ⟨_, rfl, _, rfl, _, rfl, P, T, a, b, c, d, hW, f1, f2, rfl, _, rfl, _, ne_pr _ _, _, rfl, ?_⟩
    exact hK _ _ ⟨rfl, _, _, _, _, _, _, _, rfl⟩
end K15
namespace K15
open PySem L2 G T
def topS (i : Nat) : Stmt := PySem.Challenge.pw_webreckon_k15_whole_lot_counts_tables_an.main.body.getD i (.Pass ⟨0, 0, 0, 0⟩)
def clsBody (s : Stmt) : List Stmt := match s with
  | .ClassDef _ _ _ b _ _ _ _ _ _ _ => b
  | _ => []
def methS (i j : Nat) : Stmt := (clsBody (topS i)).getD j (.Pass ⟨0, 0, 0, 0⟩)
abbrev N_is_integer : List Str := ["value"]
abbrev st_is_integer : Stmt := (topS 12)
theorem sc_is_integer : FnScope N_is_integer ["value"] (defScope st_is_integer) := ⟨rfl, rfl, rfl, by decide +kernel, rfl, by decide +kernel, by decide +kernel⟩
abbrev N_is_between : List Str := ["value", "least", "most"]
abbrev st_is_between : Stmt := (topS 13)
theorem sc_is_between : FnScope N_is_between ["value", "least", "most"] (defScope st_is_between) := ⟨rfl, rfl, rfl, by decide +kernel, rfl, by decide +kernel, by decide +kernel⟩
abbrev N_common_divisor : List Str := ["one", "other"]
abbrev st_common_divisor : Stmt := (topS 14)
theorem sc_common_divisor : FnScope N_common_divisor ["one", "other"] (defScope st_common_divisor) := ⟨rfl, rfl, rfl, by decide +kernel, rfl, by decide +kernel, by decide +kernel⟩
abbrev N_fraction : List Str := ["top", "bottom", "common"]
abbrev st_fraction : Stmt := (topS 15)
theorem sc_fraction : FnScope N_fraction ["top", "bottom"] (defScope st_fraction) := ⟨rfl, rfl, rfl, by decide +kernel, rfl, by decide +kernel, by decide +kernel⟩
abbrev N_is_fraction : List Str := ["value"]
abbrev st_is_fraction : Stmt := (topS 16)
theorem sc_is_fraction : FnScope N_is_fraction ["value"] (defScope st_is_fraction) := ⟨rfl, rfl, rfl, by decide +kernel, rfl, by decide +kernel, by decide +kernel⟩
abbrev N_are_letters : List Str := ["value", "letter"]
abbrev st_are_letters : Stmt := (topS 19)
theorem sc_are_letters : FnScope N_are_letters ["value"] (defScope st_are_letters) := ⟨rfl, rfl, rfl, by decide +kernel, rfl, by decide +kernel, by decide +kernel⟩
abbrev N_are_places : List Str := ["value"]
abbrev st_are_places : Stmt := (topS 20)
theorem sc_are_places : FnScope N_are_places ["value"] (defScope st_are_places) := ⟨rfl, rfl, rfl, by decide +kernel, rfl, by decide +kernel, by decide +kernel⟩
abbrev N_is_tie : List Str := ["places", "value"]
abbrev st_is_tie : Stmt := (topS 21)
theorem sc_is_tie : FnScope N_is_tie ["places", "value"] (defScope st_is_tie) := ⟨rfl, rfl, rfl, by decide +kernel, rfl, by decide +kernel, by decide +kernel⟩
abbrev N_wrong_tie : List Str := ["places", "ties", "index", "tie"]
abbrev st_wrong_tie : Stmt := (topS 22)
theorem sc_wrong_tie : FnScope N_wrong_tie ["places", "ties"] (defScope st_wrong_tie) := ⟨rfl, rfl, rfl, by decide +kernel, rfl, by decide +kernel, by decide +kernel⟩
abbrev N_Webinit : List Str := ["self", "places", "ties", "wrong"]
abbrev st_Webinit : Stmt := (methS 23 0)
theorem sc_Webinit : FnScope N_Webinit ["self", "places", "ties"] (defScope st_Webinit) := ⟨rfl, rfl, rfl, by decide +kernel, rfl, by decide +kernel, by decide +kernel⟩
abbrev N_Weblen : List Str := ["self"]
abbrev st_Weblen : Stmt := (methS 23 2)
theorem sc_Weblen : FnScope N_Weblen ["self"] (defScope st_Weblen) := ⟨rfl, rfl, rfl, by decide +kernel, rfl, by decide +kernel, by decide +kernel⟩
abbrev N_check_web : List Str := ["web"]
abbrev st_check_web : Stmt := (topS 24)
theorem sc_check_web : FnScope N_check_web ["web"] (defScope st_check_web) := ⟨rfl, rfl, rfl, by decide +kernel, rfl, by decide +kernel, by decide +kernel⟩
abbrev N_herds_of : List Str := ["places", "ties", "found", "one", "other", "joined", "whole", "herd"]
abbrev st_herds_of : Stmt := (topS 25)
theorem sc_herds_of : FnScope N_herds_of ["places", "ties"] (defScope st_herds_of) := ⟨rfl, rfl, rfl, by decide +kernel, rfl, by decide +kernel, by decide +kernel⟩
abbrev N_every_tie : List Str := ["web"]
abbrev st_every_tie : Stmt := (topS 27)
theorem sc_every_tie : FnScope N_every_tie ["web"] (defScope st_every_tie) := ⟨rfl, rfl, rfl, by decide +kernel, rfl, by decide +kernel, by decide +kernel⟩
abbrev N_ties_of : List Str := ["web", "lot", "index"]
abbrev st_ties_of : Stmt := (topS 28)
theorem sc_ties_of : FnScope N_ties_of ["web", "lot"] (defScope st_ties_of) := ⟨rfl, rfl, rfl, by decide +kernel, rfl, by decide +kernel, by decide +kernel⟩
abbrev N_pieces_of : List Str := ["web", "lot"]
abbrev st_pieces_of : Stmt := (topS 29)
theorem sc_pieces_of : FnScope N_pieces_of ["web", "lot"] (defScope st_pieces_of) := ⟨rfl, rfl, rfl, by decide +kernel, rfl, by decide +kernel, by decide +kernel⟩
abbrev N_rank_of : List Str := ["web", "lot"]
abbrev st_rank_of : Stmt := (topS 30)
theorem sc_rank_of : FnScope N_rank_of ["web", "lot"] (defScope st_rank_of) := ⟨rfl, rfl, rfl, by decide +kernel, rfl, by decide +kernel, by decide +kernel⟩
abbrev N_spare_of : List Str := ["web", "lot"]
abbrev st_spare_of : Stmt := (topS 31)
theorem sc_spare_of : FnScope N_spare_of ["web", "lot"] (defScope st_spare_of) := ⟨rfl, rfl, rfl, by decide +kernel, rfl, by decide +kernel, by decide +kernel⟩
abbrev N_every_lot : List Str := ["web", "found", "index", "lot"]
abbrev st_every_lot : Stmt := (topS 32)
theorem sc_every_lot : FnScope N_every_lot ["web"] (defScope st_every_lot) := ⟨rfl, rfl, rfl, by decide +kernel, rfl, by decide +kernel, by decide +kernel⟩
abbrev N_empty_rows : List Str := ["web", "whole", "turn"]
abbrev st_empty_rows : Stmt := (topS 34)
theorem sc_empty_rows : FnScope N_empty_rows ["web"] (defScope st_empty_rows) := ⟨rfl, rfl, rfl, by decide +kernel, rfl, by decide +kernel, by decide +kernel⟩
abbrev N_as_table : List Str := ["rows", "row"]
abbrev st_as_table : Stmt := (topS 35)
theorem sc_as_table : FnScope N_as_table ["rows"] (defScope st_as_table) := ⟨rfl, rfl, rfl, by decide +kernel, rfl, by decide +kernel, by decide +kernel⟩
abbrev N_counted_lots : List Str := ["web", "rows", "most", "lot"]
abbrev st_counted_lots : Stmt := (topS 36)
theorem sc_counted_lots : FnScope N_counted_lots ["web"] (defScope st_counted_lots) := ⟨rfl, rfl, rfl, by decide +kernel, rfl, by decide +kernel, by decide +kernel⟩
abbrev N_lot_counts : List Str := ["web"]
abbrev st_lot_counts : Stmt := (topS 37)
theorem sc_lot_counts : FnScope N_lot_counts ["web"] (defScope st_lot_counts) := ⟨rfl, rfl, rfl, by decide +kernel, rfl, by decide +kernel, by decide +kernel⟩
abbrev N_ways_to_choose : List Str := ["many", "some", "found", "turn"]
abbrev st_ways_to_choose : Stmt := (topS 38)
theorem sc_ways_to_choose : FnScope N_ways_to_choose ["many", "some"] (defScope st_ways_to_choose) := ⟨rfl, rfl, rfl, by decide +kernel, rfl, by decide +kernel, by decide +kernel⟩
abbrev N_shifted : List Str := ["row", "found", "power", "number", "lower"]
abbrev st_shifted : Stmt := (topS 39)
theorem sc_shifted : FnScope N_shifted ["row"] (defScope st_shifted) := ⟨rfl, rfl, rfl, by decide +kernel, rfl, by decide +kernel, by decide +kernel⟩
abbrev N_table_rows : List Str := ["web", "rows", "columns", "row", "place", "column"]
abbrev st_table_rows : Stmt := (topS 40)
theorem sc_table_rows : FnScope N_table_rows ["web"] (defScope st_table_rows) := ⟨rfl, rfl, rfl, by decide +kernel, rfl, by decide +kernel, by decide +kernel⟩
abbrev N_table : List Str := ["web"]
abbrev st_table : Stmt := (topS 41)
theorem sc_table : FnScope N_table ["web"] (defScope st_table) := ⟨rfl, rfl, rfl, by decide +kernel, rfl, by decide +kernel, by decide +kernel⟩
abbrev N_power : List Str := ["number", "many", "found", "turn"]
abbrev st_power : Stmt := (topS 42)
theorem sc_power : FnScope N_power ["number", "many"] (defScope st_power) := ⟨rfl, rfl, rfl, by decide +kernel, rfl, by decide +kernel, by decide +kernel⟩
abbrev N_value : List Str := ["web", "x", "y", "one", "rows", "high", "wide", "top", "i", "row", "j", "number"]
abbrev st_value : Stmt := (topS 43)
theorem sc_value : FnScope N_value ["web", "x", "y"] (defScope st_value) := ⟨rfl, rfl, rfl, by decide +kernel, rfl, by decide +kernel, by decide +kernel⟩
abbrev N_law_pot : List Str := ["_law_script", "_law_k", "_law_cell", "_law_one", "_law_each"]
abbrev st_law_pot : Stmt := (topS 45)
theorem sc_law_pot : FnScope N_law_pot ["_law_script", "_law_k"] (defScope st_law_pot) := ⟨rfl, rfl, rfl, by decide +kernel, rfl, by decide +kernel, by decide +kernel⟩
abbrev N_law_dip : List Str := ["_law_pot_here", "_law_many", "_law_digit"]
abbrev st_law_dip : Stmt := (topS 46)
theorem sc_law_dip : FnScope N_law_dip ["_law_pot_here", "_law_many"] (defScope st_law_dip) := ⟨rfl, rfl, rfl, by decide +kernel, rfl, by decide +kernel, by decide +kernel⟩
abbrev N_law_any : List Str := ["_law_pot_here", "_law_some"]
abbrev st_law_any : Stmt := (topS 47)
theorem sc_law_any : FnScope N_law_any ["_law_pot_here", "_law_some"] (defScope st_law_any) := ⟨rfl, rfl, rfl, by decide +kernel, rfl, by decide +kernel, by decide +kernel⟩
abbrev N_law_parts : List Str := ["_law_pot_here", "_law_most", "_law_many", "_law_pool", "_law_found", "_law_ties", "_law_turn", "_law_places", "_law_one", "_law_other", "_law_k"]
abbrev st_law_parts : Stmt := (topS 48)
theorem sc_law_parts : FnScope N_law_parts ["_law_pot_here", "_law_most", "_law_many"] (defScope st_law_parts) := ⟨rfl, rfl, rfl, by decide +kernel, rfl, by decide +kernel, by decide +kernel⟩
abbrev N_law_rank : List Str := ["_law_places", "_law_ties", "_law_place", "_law_heads", "_law_tie", "_law_low", "_law_high"]
abbrev st_law_rank : Stmt := (topS 49)
theorem sc_law_rank : FnScope N_law_rank ["_law_places", "_law_ties"] (defScope st_law_rank) := ⟨rfl, rfl, rfl, by decide +kernel, rfl, by decide +kernel, by decide +kernel⟩
abbrev N_law_lots : List Str := ["_law_many", "_law_found", "_law_index", "_law_lot"]
abbrev st_law_lots : Stmt := (topS 50)
theorem sc_law_lots : FnScope N_law_lots ["_law_many"] (defScope st_law_lots) := ⟨rfl, rfl, rfl, by decide +kernel, rfl, by decide +kernel, by decide +kernel⟩
abbrev N_law_counted : List Str := ["_law_places", "_law_ties", "_law_top", "_law_found", "_law_lot", "_law_joined", "_law_i", "_law_j", "_law_k", "_law_row"]
abbrev st_law_counted : Stmt := (topS 52)
theorem sc_law_counted : FnScope N_law_counted ["_law_places", "_law_ties"] (defScope st_law_counted) := ⟨rfl, rfl, rfl, by decide +kernel, rfl, by decide +kernel, by decide +kernel⟩
abbrev N_law_power : List Str := ["_law_number", "_law_many", "_law_found", "_law_turn"]
abbrev st_law_power : Stmt := (topS 53)
theorem sc_law_power : FnScope N_law_power ["_law_number", "_law_many"] (defScope st_law_power) := ⟨rfl, rfl, rfl, by decide +kernel, rfl, by decide +kernel, by decide +kernel⟩
abbrev N_law_sum : List Str := ["_law_rows", "_law_left_x", "_law_right_y", "_law_high", "_law_wide", "_law_top", "_law_i", "_law_j", "_law_left"]
abbrev st_law_sum : Stmt := (topS 54)
theorem sc_law_sum : FnScope N_law_sum ["_law_rows", "_law_left_x", "_law_right_y"] (defScope st_law_sum) := ⟨rfl, rfl, rfl, by decide +kernel, rfl, by decide +kernel, by decide +kernel⟩
abbrev N_law_common : List Str := ["_law_one", "_law_other", "_law_turn"]
abbrev st_law_common : Stmt := (topS 55)
theorem sc_law_common : FnScope N_law_common ["_law_one", "_law_other"] (defScope st_law_common) := ⟨rfl, rfl, rfl, by decide +kernel, rfl, by decide +kernel, by decide +kernel⟩
abbrev N_law_fraction : List Str := ["_law_pot_here", "_law_way", "_law_sign", "_law_top", "_law_bottom", "_law_by"]
abbrev st_law_fraction : Stmt := (topS 56)
theorem sc_law_fraction : FnScope N_law_fraction ["_law_pot_here"] (defScope st_law_fraction) := ⟨rfl, rfl, rfl, by decide +kernel, rfl, by decide +kernel, by decide +kernel⟩
abbrev N_law_table_right : List Str := ["_law_told", "_law_counts", "_law_row", "_law_left_x", "_law_right_y", "_law_each"]
abbrev st_law_table_right : Stmt := (topS 57)
theorem sc_law_table_right : FnScope N_law_table_right ["_law_told", "_law_counts"] (defScope st_law_table_right) := ⟨rfl, rfl, rfl, by decide +kernel, rfl, by decide +kernel, by decide +kernel⟩
abbrev N_law_right : List Str := ["_law_pot_here", "_law_places", "_law_ties", "_law_mine", "_law_counts", "_law_turn", "_law_left_x", "_law_right_y", "_law_top", "_law_bottom", "_law_by", "_law_due"]
abbrev st_law_right : Stmt := (topS 58)
theorem sc_law_right : FnScope N_law_right ["_law_pot_here"] (defScope st_law_right) := ⟨rfl, rfl, rfl, by decide +kernel, rfl, by decide +kernel, by decide +kernel⟩
abbrev N_law : List Str := ["_law_script", "_law_k"]
abbrev st_law : Stmt := (topS 59)
theorem sc_law : FnScope N_law ["_law_script"] (defScope st_law) := ⟨rfl, rfl, rfl, by decide +kernel, rfl, by decide +kernel, by decide +kernel⟩
theorem pm0_rel {α β : Type} (R : α → β → Prop) (vs : List α) (us : List β) (h : Paired R vs us) : Paired R (pm0 vs) (pm0 us) := by
  match vs, us, h with
  | [], [], .nil => exact .nil
  | [_], [_], .cons a0 .nil => exact .cons a0 .nil
  | _ :: _ :: _, _ :: _ :: _, .cons a0 (.cons a1 t) => exact .cons a0 (.cons a1 t)
theorem pm120_rel {α β : Type} (R : α → β → Prop) (vs : List α) (us : List β) (h : Paired R vs us) : Paired R (pm120 vs) (pm120 us) := by
  match vs, us, h with
  | [], [], .nil => exact .nil
  | [_], [_], .cons a0 .nil => exact .cons a0 .nil
  | [_, _], [_, _], .cons a0 (.cons a1 .nil) => exact .cons a0 (.cons a1 .nil)
  | [_, _, _], [_, _, _], .cons a0 (.cons a1 (.cons a2 .nil)) => exact .cons a1 (.cons a2 (.cons a0 .nil))
  | _ :: _ :: _ :: _ :: _, _ :: _ :: _ :: _ :: _, .cons a0 (.cons a1 (.cons a2 (.cons a3 t))) => exact .cons a0 (.cons a1 (.cons a2 (.cons a3 t)))
structure Mo (K : PySem.W.Frag) (mg : Str → Option Value) (g : Gp) (ad : Nat → Addr) (fd : Nat → FuncData) : Prop where
  f_is_integer : Fun K "is_integer" "is_integer" st_is_integer (ad 0) (fd 0)
  b_is_integer : Binds K (fd 0) ["value"] []
  m_is_integer : mg "is_integer" = some (.ref (ad 0))
  f_is_between : Fun K "is_between" "is_between" st_is_between (ad 1) (fd 1)
  b_is_between : Binds K (fd 1) ["value", "least", "most"] []
  m_is_between : mg "is_between" = some (.ref (ad 1))
  f_common_divisor : Fun K "common_divisor" "common_divisor" st_common_divisor (ad 2) (fd 2)
  b_common_divisor : Binds K (fd 2) ["one", "other"] []
  m_common_divisor : mg "common_divisor" = some (.ref (ad 2))
  f_fraction : Fun K "fraction" "fraction" st_fraction (ad 3) (fd 3)
  b_fraction : Binds K (fd 3) ["top", "bottom"] []
  m_fraction : mg "fraction" = some (.ref (ad 3))
  f_is_fraction : Fun K "is_fraction" "is_fraction" st_is_fraction (ad 4) (fd 4)
  b_is_fraction : Binds K (fd 4) ["value"] []
  m_is_fraction : mg "is_fraction" = some (.ref (ad 4))
  f_are_letters : Fun K "are_letters" "are_letters" st_are_letters (ad 5) (fd 5)
  b_are_letters : Binds K (fd 5) ["value"] []
  m_are_letters : mg "are_letters" = some (.ref (ad 5))
  f_are_places : Fun K "are_places" "are_places" st_are_places (ad 6) (fd 6)
  b_are_places : Binds K (fd 6) ["value"] []
  m_are_places : mg "are_places" = some (.ref (ad 6))
  f_is_tie : Fun K "is_tie" "is_tie" st_is_tie (ad 7) (fd 7)
  b_is_tie : Binds K (fd 7) ["places", "value"] []
  m_is_tie : mg "is_tie" = some (.ref (ad 7))
  f_wrong_tie : Fun K "wrong_tie" "wrong_tie" st_wrong_tie (ad 8) (fd 8)
  b_wrong_tie : Binds K (fd 8) ["places", "ties"] []
  m_wrong_tie : mg "wrong_tie" = some (.ref (ad 8))
  f_Webinit : Fun K "__init__" "Web.__init__" st_Webinit (ad 9) (fd 9)
  b_Webinit : Binds K (fd 9) ["self", "places", "ties"] []
  f_Weblen : Fun K "__len__" "Web.__len__" st_Weblen (ad 10) (fd 10)
  b_Weblen : Binds K (fd 10) ["self"] []
  f_check_web : Fun K "check_web" "check_web" st_check_web (ad 11) (fd 11)
  b_check_web : Binds K (fd 11) ["web"] []
  m_check_web : mg "check_web" = some (.ref (ad 11))
  f_herds_of : Fun K "herds_of" "herds_of" st_herds_of (ad 12) (fd 12)
  b_herds_of : Binds K (fd 12) ["places", "ties"] []
  m_herds_of : mg "herds_of" = some (.ref (ad 12))
  f_every_tie : Fun K "every_tie" "every_tie" st_every_tie (ad 13) (fd 13)
  b_every_tie : Binds K (fd 13) ["web"] []
  m_every_tie : mg "every_tie" = some (.ref (ad 13))
  f_ties_of : Fun K "ties_of" "ties_of" st_ties_of (ad 14) (fd 14)
  b_ties_of : Binds K (fd 14) ["web", "lot"] []
  m_ties_of : mg "ties_of" = some (.ref (ad 14))
  f_pieces_of : Fun K "pieces_of" "pieces_of" st_pieces_of (ad 15) (fd 15)
  b_pieces_of : Binds K (fd 15) ["web", "lot"] []
  m_pieces_of : mg "pieces_of" = some (.ref (ad 15))
  f_rank_of : Fun K "rank_of" "rank_of" st_rank_of (ad 16) (fd 16)
  b_rank_of : Binds K (fd 16) ["web", "lot"] []
  m_rank_of : mg "rank_of" = some (.ref (ad 16))
  f_spare_of : Fun K "spare_of" "spare_of" st_spare_of (ad 17) (fd 17)
  b_spare_of : Binds K (fd 17) ["web", "lot"] []
  m_spare_of : mg "spare_of" = some (.ref (ad 17))
  f_every_lot : Fun K "every_lot" "every_lot" st_every_lot (ad 18) (fd 18)
  b_every_lot : Binds K (fd 18) ["web"] []
  m_every_lot : mg "every_lot" = some (.ref (ad 18))
  f_empty_rows : Fun K "empty_rows" "empty_rows" st_empty_rows (ad 19) (fd 19)
  b_empty_rows : Binds K (fd 19) ["web"] []
  m_empty_rows : mg "empty_rows" = some (.ref (ad 19))
  f_as_table : Fun K "as_table" "as_table" st_as_table (ad 20) (fd 20)
  b_as_table : Binds K (fd 20) ["rows"] []
  m_as_table : mg "as_table" = some (.ref (ad 20))
  f_counted_lots : Fun K "counted_lots" "counted_lots" st_counted_lots (ad 21) (fd 21)
  b_counted_lots : Binds K (fd 21) ["web"] []
  m_counted_lots : mg "counted_lots" = some (.ref (ad 21))
  f_lot_counts : Fun K "lot_counts" "lot_counts" st_lot_counts (ad 22) (fd 22)
  b_lot_counts : Binds K (fd 22) ["web"] []
  m_lot_counts : mg "lot_counts" = some (.ref (ad 22))
  f_ways_to_choose : Fun K "ways_to_choose" "ways_to_choose" st_ways_to_choose (ad 23) (fd 23)
  b_ways_to_choose : Binds K (fd 23) ["many", "some"] []
  m_ways_to_choose : mg "ways_to_choose" = some (.ref (ad 23))
  f_shifted : Fun K "shifted" "shifted" st_shifted (ad 24) (fd 24)
  b_shifted : Binds K (fd 24) ["row"] []
  m_shifted : mg "shifted" = some (.ref (ad 24))
  f_table_rows : Fun K "table_rows" "table_rows" st_table_rows (ad 25) (fd 25)
  b_table_rows : Binds K (fd 25) ["web"] []
  m_table_rows : mg "table_rows" = some (.ref (ad 25))
  f_table : Fun K "table" "table" st_table (ad 26) (fd 26)
  b_table : Binds K (fd 26) ["web"] []
  m_table : mg "table" = some (.ref (ad 26))
  f_power : Fun K "power" "power" st_power (ad 27) (fd 27)
  b_power : Binds K (fd 27) ["number", "many"] []
  m_power : mg "power" = some (.ref (ad 27))
  f_value : Fun K "value" "value" st_value (ad 28) (fd 28)
  b_value : Binds K (fd 28) ["web", "x", "y"] []
  m_value : mg "value" = some (.ref (ad 28))
  f_law_pot : Fun K "_law_pot" "_law_pot" st_law_pot (ad 29) (fd 29)
  b_law_pot : Binds K (fd 29) ["_law_script", "_law_k"] []
  m_law_pot : mg "_law_pot" = some (.ref (ad 29))
  f_law_dip : Fun K "_law_dip" "_law_dip" st_law_dip (ad 30) (fd 30)
  b_law_dip : Binds K (fd 30) ["_law_pot_here", "_law_many"] []
  m_law_dip : mg "_law_dip" = some (.ref (ad 30))
  f_law_any : Fun K "_law_any" "_law_any" st_law_any (ad 31) (fd 31)
  b_law_any : Binds K (fd 31) ["_law_pot_here", "_law_some"] []
  m_law_any : mg "_law_any" = some (.ref (ad 31))
  f_law_parts : Fun K "_law_parts" "_law_parts" st_law_parts (ad 32) (fd 32)
  b_law_parts : Binds K (fd 32) ["_law_pot_here", "_law_most", "_law_many"] []
  m_law_parts : mg "_law_parts" = some (.ref (ad 32))
  f_law_rank : Fun K "_law_rank" "_law_rank" st_law_rank (ad 33) (fd 33)
  b_law_rank : Binds K (fd 33) ["_law_places", "_law_ties"] []
  m_law_rank : mg "_law_rank" = some (.ref (ad 33))
  f_law_lots : Fun K "_law_lots" "_law_lots" st_law_lots (ad 34) (fd 34)
  b_law_lots : Binds K (fd 34) ["_law_many"] []
  m_law_lots : mg "_law_lots" = some (.ref (ad 34))
  f_law_counted : Fun K "_law_counted" "_law_counted" st_law_counted (ad 35) (fd 35)
  b_law_counted : Binds K (fd 35) ["_law_places", "_law_ties"] []
  m_law_counted : mg "_law_counted" = some (.ref (ad 35))
  f_law_power : Fun K "_law_power" "_law_power" st_law_power (ad 36) (fd 36)
  b_law_power : Binds K (fd 36) ["_law_number", "_law_many"] []
  m_law_power : mg "_law_power" = some (.ref (ad 36))
  f_law_sum : Fun K "_law_sum" "_law_sum" st_law_sum (ad 37) (fd 37)
  b_law_sum : Binds K (fd 37) ["_law_rows", "_law_left_x", "_law_right_y"] []
  m_law_sum : mg "_law_sum" = some (.ref (ad 37))
  f_law_common : Fun K "_law_common" "_law_common" st_law_common (ad 38) (fd 38)
  b_law_common : Binds K (fd 38) ["_law_one", "_law_other"] []
  m_law_common : mg "_law_common" = some (.ref (ad 38))
  f_law_fraction : Fun K "_law_fraction" "_law_fraction" st_law_fraction (ad 39) (fd 39)
  b_law_fraction : Binds K (fd 39) ["_law_pot_here"] []
  m_law_fraction : mg "_law_fraction" = some (.ref (ad 39))
  f_law_table_right : Fun K "_law_table_right" "_law_table_right" st_law_table_right (ad 40) (fd 40)
  b_law_table_right : Binds K (fd 40) ["_law_told", "_law_counts"] []
  m_law_table_right : mg "_law_table_right" = some (.ref (ad 40))
  f_law_right : Fun K "_law_right" "_law_right" st_law_right (ad 41) (fd 41)
  b_law_right : Binds K (fd 41) ["_law_pot_here"] []
  m_law_right : mg "_law_right" = some (.ref (ad 41))
  f_law : Fun K "law" "law" st_law (ad 42) (fd 42)
  b_law : Binds K (fd 42) ["_law_script"] []
  m_law : mg "law" = some (.ref (ad 42))
  kw_lot_counts_0 : KB0 K (fd 22) ["web"] ["web"] pm0
  kw_table_0 : KB0 K (fd 26) ["web"] ["web"] pm0
  kw_value_120 : KB0 K (fd 28) ["web", "x", "y"] ["y", "web", "x"] pm120
  m_Web : mg "Web" = some (.ref g.Cw)
  z_len : mg "len" = none
  z_all : mg "all" = none
  z_abs : mg "abs" = none
  z_int : mg "int" = none
  z_bool : mg "bool" = none
  z_divmod : mg "divmod" = none
  z_min : mg "min" = none
  z_max : mg "max" = none
  z_tuple : mg "tuple" = none
  z_list : mg "list" = none
  z_sorted : mg "sorted" = none
  z_set : mg "set" = none
  z_dict : mg "dict" = none
  z_str : mg "str" = none
  z_isinstance : mg "isinstance" = none
  z_enumerate : mg "enumerate" = none
  z_range : mg "range" = none
  z_repr : mg "repr" = none
  g_MOST_PLACES : ∃ t : Tok, mg "MOST_PLACES" = some (.int 7 t)
  g_MOST_TIES : ∃ t : Tok, mg "MOST_TIES" = some (.int 11 t)
  g_LETTERS : ∃ t : Tok, mg "LETTERS" = some (.str "abcdefgh" t)
  g_MOST_TOP : ∃ t : Tok, mg "MOST_TOP" = some (.int 1000000 t)
  g_MOST_BOTTOM : ∃ t : Tok, mg "MOST_BOTTOM" = some (.int 1000 t)
  wty : WebTy K g
  ck : g.ck = T.ckOk
  np : NoAttr K g.Cw "places"
  nt : NoAttr K g.Cw "ties"
  fl : PySem.W.findIn K (.ref g.Cw) "__len__" = some (some (.ref (ad 10)))
  il : PySem.W.isFn K (.ref (ad 10)) = true
  mkw : Mk K g.Cw (ad 9)
variable {P : Program} {w : World} {K : PySem.W.Frag} {mg : Str → Option Value} {base : Heap} {g : Gp} {ad : Nat → Addr} {fd : Nat → FuncData}
-- is_integer depth 1
theorem ok_is_integer (M : Mo K mg g ad fd) : FnOk P w K mg base CX0 1 (ad 0) (fd 0) ["value"] (spOf K g S_is_integer) :=
  def_ok M.f_is_integer sc_is_integer S_is_integer_len fun cdv A outer s H E hr => ⟨d_is_integer,
    (gss_one (gs_ret (ge_and (ge_isi M.wty (.ty "int") (pe_bltn (by rfl) M.z_int rfl rfl) (by intro x b h; cases x <;> simp only [isIntD] at h <;> first | (cases h; exact kit_ty (by decide +kernel)) | cases h) (by rfl) M.z_isinstance (gvb 0)) (ge_one (ge_not (ge_isi M.wty (.ty "bool") (pe_bltn (by rfl) M.z_bool rfl rfl) (by intro x b h; cases x <;> simp only [isBoolD] at h <;> first | (cases h; exact kit_ty (by decide +kernel)) | cases h) (by rfl) M.z_isinstance (gvb 0))))))), law_is_integer⟩
-- is_between depth 2
theorem ok_is_between (M : Mo K mg g ad fd) : FnOk P w K mg base CX0 2 (ad 1) (fd 1) ["value", "least", "most"] (spOf K g S_is_between) :=
  def_ok M.f_is_between sc_is_between S_is_between_len fun cdv A outer s H E hr => ⟨d_is_between,
    (gss_one (gs_ret (ge_and (ge_call (ok_is_integer M) (hr.mono (by decide)) (by rfl) M.m_is_integer M.f_is_integer.kp M.b_is_integer (ga_cons (gv 0) ga_nil)) (ge_one (ge_chain or_le or_le od_le od_le (gvb 1) (gvb 0) (gvb 2)))))), law_is_between⟩
-- common_divisor depth 1
theorem ok_common_divisor (M : Mo K mg g ad fd) : FnOk P w K mg base CX0 1 (ad 2) (fd 2) ["one", "other"] (spOf K g S_common_divisor) :=
  def_ok M.f_common_divisor sc_common_divisor S_common_divisor_len fun cdv A outer s H E hr => ⟨d_common_divisor,
    (gss_cons (gs_par (i := 0) (j := 1) rfl sc_common_divisor.nd rfl rfl (by decide) rfl rfl (gal_cons (ge_callB call_abs cd_abs (by rfl) M.z_abs (by decide +kernel) (gab_cons (gvb 0) gab_nil)) (gal_cons (ge_callB call_abs cd_abs (by rfl) M.z_abs (by decide +kernel) (gab_cons (gvb 1) gab_nil)) gal_nil)) rfl)
      (gss_cons (gs_while PassesOwn.never (gt_cmp (or_ne hr.units) od_ne (gvb 1) (gb_e ge_int) rfl) (gss_one (gs_par (i := 0) (j := 1) rfl sc_common_divisor.nd rfl rfl (by decide) rfl rfl (gal_cons (gv 1) (gal_cons (ge_op op_mod od_mod (gvb 0) (gvb 1)) gal_nil)) rfl)))
      (gss_one (gs_ret (gv 0))))), law_common_divisor⟩
-- fraction depth 2
theorem ok_fraction (M : Mo K mg g ad fd) : FnOk P w K mg base CX0 2 (ad 3) (fd 3) ["top", "bottom"] (spOf K g S_fraction) :=
  def_ok M.f_fraction sc_fraction S_fraction_len fun cdv A outer s H E hr => ⟨d_fraction,
    (gss_cons (gs_set (i := 2) sc_fraction.nd rfl (by first | exact .inl rfl | exact .inr rfl) (ge_op op_mulW od_mulW (gb_e (ge_call (ok_common_divisor M) (hr.mono (by decide)) (by rfl) M.m_common_divisor M.f_common_divisor.kp M.b_common_divisor (ga_cons (gv 0) (ga_cons (gv 1) ga_nil)))) (gb_e (ge_if (gt_cmp or_gt od_gt (gvb 1) (gb_e ge_int) rfl) ge_int ge_negI))))
      (gss_one (gs_ret (ge_tup (gal_cons (ge_op op_fdivW od_fdivW (gvb 0) (gvb 2)) (gal_cons (ge_op op_fdivW od_fdivW (gvb 1) (gvb 2)) gal_nil)))))), law_fraction⟩
-- is_fraction depth 3
theorem ok_is_fraction (M : Mo K mg g ad fd) : FnOk P w K mg base CX0 3 (ad 4) (fd 4) ["value"] (spOf K g S_is_fraction) :=
  def_ok M.f_is_fraction sc_is_fraction S_is_fraction_len fun cdv A outer s H E hr => ⟨d_is_fraction,
    (gss_cons (gs_if (gw_pt (gw_or (gt_not (gt_val (ge_isi M.wty (.ty "tuple") (pe_bltn (by rfl) M.z_tuple rfl rfl) (by intro x b h; cases x <;> simp only [isTupD] at h <;> first | (cases h; exact kit_ty (by decide +kernel)) | cases h) (by rfl) M.z_isinstance (gvb 0)))) (gw_or1 (gt_cmp (or_ne hr.units) od_ne (gb_e (ge_callB cr_len cd_len0 (by rfl) M.z_len (by decide +kernel) (gab_cons (gvb 0) gab_nil))) (gb_e ge_int) rfl)))) (gss_one (gs_ret ge_bl)) gss_nil)
      (gss_cons (gs_if (gw_pt (gw_or (gt_not (gt_val (ge_call (ok_is_between M) (hr.mono (by decide)) (by rfl) M.m_is_between M.f_is_between.kp M.b_is_between (ga_cons (ge_ix (gvb 0) (gb_e ge_int)) (ga_cons (ge_neg (ge_globI (by rfl) M.g_MOST_TOP.choose_spec)) (ga_cons (ge_globI (by rfl) M.g_MOST_TOP.choose_spec) ga_nil)))))) (gw_or1 (gt_not (gt_val (ge_call (ok_is_between M) (hr.mono (by decide)) (by rfl) M.m_is_between M.f_is_between.kp M.b_is_between (ga_cons (ge_ix (gvb 0) (gb_e ge_int)) (ga_cons ge_int (ga_cons (ge_globI (by rfl) M.g_MOST_BOTTOM.choose_spec) ga_nil))))))))) (gss_one (gs_ret ge_bl)) gss_nil)
      (gss_one (gs_ret (ge_cmp (or_eq hr.units) od_eq (gb_e (ge_call (ok_common_divisor M) (hr.mono (by decide)) (by rfl) M.m_common_divisor M.f_common_divisor.kp M.b_common_divisor (ga_cons (ge_ix (gvb 0) (gb_e ge_int)) (ga_cons (ge_ix (gvb 0) (gb_e ge_int)) ga_nil)))) (gb_e ge_int) rfl))))), law_is_fraction⟩
-- are_letters depth 1
theorem ok_are_letters (M : Mo K mg g ad fd) : FnOk P w K mg base CX0 1 (ad 5) (fd 5) ["value"] (spOf K g S_are_letters) :=
  def_ok M.f_are_letters sc_are_letters S_are_letters_len fun cdv A outer s H E hr => ⟨d_are_letters,
    (gss_cons (gs_if (gw_pt (gw_or (gt_not (gt_val (ge_isi M.wty (.ty "str") (pe_bltn (by rfl) M.z_str rfl rfl) (by intro x b h; cases x <;> simp only [isStrD] at h <;> first | (cases h; exact kit_ty (by decide +kernel)) | cases h) (by rfl) M.z_isinstance (gvb 0)))) (gw_or1 (gt_cmp (or_ne hr.units) od_ne (gb_e (ge_lenDc' rfl sc_are_letters.nd (gi_srcB (gvb 0)) (blkOk_by (N := N_are_letters) (sc := (defScope st_are_letters)) (own := [("letter", 1)]) (by decide +kernel)) (fun s H C cl fp => (gg_name (j := 1) sc_are_letters.nd rfl (by first | exact .inl rfl | exact .inr rfl))) (fun s H C cl fp => (gv 1)) (fun s H C cl fp => ge_bl) (by rfl) M.z_len)) (gb_e (ge_callB cr_len cd_len0 (by rfl) M.z_len (by decide +kernel) (gab_cons (gvb 0) gab_nil))) rfl)))) (gss_one (gs_ret ge_bl)) gss_nil)
      (gss_one (gs_ret (ge_callB (cr_all rfl) cd_all (by rfl) M.z_all (by decide +kernel) (gab_cons (gb_e (ge_n (gn_lc' rfl sc_are_letters.nd (gi_srcB (gvb 0)) (blkOk_by (N := N_are_letters) (sc := (defScope st_are_letters)) (own := [("letter", 1)]) (by decide +kernel)) (fun s H C cl fp => (gg_name (j := 1) sc_are_letters.nd rfl (by first | exact .inl rfl | exact .inr rfl))) (fun s H C cl fp => gts_nil) (fun s H C cl fp => (ge_cmp or_in od_in (gvb 1) (gb_e (ge_globS (by rfl) M.g_LETTERS.choose_spec)) rfl))))) gab_nil))))), law_are_letters⟩
-- are_places depth 2
theorem ok_are_places (M : Mo K mg g ad fd) : FnOk P w K mg base CX0 2 (ad 6) (fd 6) ["value"] (spOf K g S_are_places) :=
  def_ok M.f_are_places sc_are_places S_are_places_len fun cdv A outer s H E hr => ⟨d_are_places,
    (gss_one (gs_ret (ge_and (ge_call (ok_are_letters M) (hr.mono (by decide)) (by rfl) M.m_are_letters M.f_are_letters.kp M.b_are_letters (ga_cons (gv 0) ga_nil)) (ge_and (ge_chain or_lt or_le od_lt od_le (gb_e ge_int) (gb_e (ge_callB cr_len cd_len0 (by rfl) M.z_len (by decide +kernel) (gab_cons (gvb 0) gab_nil))) (gb_e (ge_globI (by rfl) M.g_MOST_PLACES.choose_spec))) (ge_one (ge_cmp (or_eq hr.units) od_eq (gb_e (ge_n (gn_callTy (cr_list rfl) cn_list (by rfl) M.z_list (by decide +kernel) (gab_cons (gvb 0) gab_nil)))) (gb_e (ge_n (gn_callB (cr_sorted' rfl hr.units) cn_sorted (by rfl) M.z_sorted (by decide +kernel) (gab_cons (gvb 0) gab_nil)))) rfl)))))), law_are_places⟩
-- is_tie depth 1
theorem ok_is_tie (M : Mo K mg g ad fd) : FnOk P w K mg base CX0 1 (ad 7) (fd 7) ["places", "value"] (spOf K g S_is_tie) :=
  def_ok M.f_is_tie sc_is_tie S_is_tie_len fun cdv A outer s H E hr => ⟨d_is_tie,
    (gss_cons (gs_if (gw_pt (gw_or (gt_not (gt_val (ge_isi M.wty (.ty "str") (pe_bltn (by rfl) M.z_str rfl rfl) (by intro x b h; cases x <;> simp only [isStrD] at h <;> first | (cases h; exact kit_ty (by decide +kernel)) | cases h) (by rfl) M.z_isinstance (gvb 1)))) (gw_or1 (gt_cmp (or_ne hr.units) od_ne (gb_e (ge_callB cr_len cd_len0 (by rfl) M.z_len (by decide +kernel) (gab_cons (gvb 1) gab_nil))) (gb_e ge_int) rfl)))) (gss_one (gs_ret ge_bl)) gss_nil)
      (gss_one (gs_ret (ge_and (ge_cmp or_in od_in (gb_e (ge_ix (gvb 1) (gb_e ge_int))) (gvb 0) rfl) (ge_and (ge_cmp or_in od_in (gb_e (ge_ix (gvb 1) (gb_e ge_int))) (gvb 0) rfl) (ge_one (ge_cmp or_le od_le (gb_e (ge_ix (gvb 1) (gb_e ge_int))) (gb_e (ge_ix (gvb 1) (gb_e ge_int))) rfl))))))), law_is_tie⟩
-- wrong_tie depth 2
theorem ok_wrong_tie (M : Mo K mg g ad fd) : FnOk P w K mg base CX0 2 (ad 8) (fd 8) ["places", "ties"] (spOf K g S_wrong_tie) :=
  def_ok M.f_wrong_tie sc_wrong_tie S_wrong_tie_len fun cdv A outer s H E hr => ⟨d_wrong_tie,
    (gss_cons (gs_for PassesOwn.never rfl (gi_enum (by rfl) M.z_enumerate (gv 1)) (gg_tupK K rfl (ggs_cons (gg_name (j := 2) sc_wrong_tie.nd rfl (by first | exact .inl rfl | exact .inr rfl)) (ggs_cons (gg_name (j := 3) sc_wrong_tie.nd rfl (by first | exact .inl rfl | exact .inr rfl)) ggs_nil)))
      (gss_one (gs_if (gw_pt (gw_or (gt_cmp (or_eq hr.units) od_eq (gvb 2) (gb_e (ge_globI (by rfl) M.g_MOST_TIES.choose_spec)) rfl) (gw_or1 (gt_not (gt_val (ge_call (ok_is_tie M) (hr.mono (by decide)) (by rfl) M.m_is_tie M.f_is_tie.kp M.b_is_tie (ga_cons (gv 0) (ga_cons (gv 3) ga_nil)))))))) (gss_one (gs_ret (gv 2))) gss_nil)))
      (gss_one (gs_ret ge_non))), law_wrong_tie⟩
theorem rel_mk {c : Option Addr} {F H : Hp} {m : Nat} : ∀ {env : Env'} {σ : St}, Ex F H → Ck g c m F H → Paired (fun (s : Sl) (o : Option V) => SlR K g c F H s (some o) ∧ ∀ o, s.adr o = []) env σ → Rel K g c F env m σ H := fun {env σ} e ck h => by
  have get : ∀ {env : Env'} {σ : St}, Paired (fun (s : Sl) (o : Option V) => SlR K g c F H s (some o) ∧ ∀ o, s.adr o = []) env σ → ∀ (i : Nat) (s : Sl), env[i]? = some s → SlR K g c F H s σ[i]? ∧ ∀ o, s.adr o = [] := by
    intro env σ h
    induction h with
    | nil => intro i s h; simp at h
    | cons h t ih =>
      intro i s hs
      cases i with
      | zero => simp at hs; subst hs; exact h
      | succ i => exact ih i s (by simpa using hs)
  exact ⟨e, Paired.length h, fun i s hs => (get h i s hs).1, fun i j si sj a h1 _ ha => by rw [(get h i _ h1).2] at ha; simp at ha, ck⟩
def spInit (K : PySem.W.Frag) (g : Gp) : Sp := fun vs H Q _ => ∃ c F m x dx t P T, vs = [.ref x, .str (plS P), .ref t] ∧ WbOk P T ∧ Ex F H ∧ Ck g c m F H ∧ Rep K g F (.tup (T.map wayD)) (.ref t) ∧ H x = some (.ins g.Cw dx []) ∧ c ≠ some x ∧
  ∀ F' H' H'', Fresh c F H F' H' → Ck g c m F' H' → (∀ b, b ≠ x → H'' b = H' b) → H'' x = some (.ins g.Cw dx [("places", .str (plS P)), ("ties", .ref t)]) → Q .non H''
theorem ok_Webinit (M : Mo K mg g ad fd) : FnOk P w K mg base CX0 3 (ad 9) (fd 9) ["self", "places", "ties"] (spInit K g) := by
  refine M.f_Webinit.ok sc_Webinit (fun vs H Q E h => ?_) (fun cdv A outer s H vs Q E hr h => ?_)
  · obtain ⟨c, F, m, x, dx, t, P, T, rfl, _⟩ := h
    rfl
  · obtain ⟨c, F, m, x, dx, t, P, T, rfl, hW, eF, ck, rt, hx, cx, q⟩ := h
    refine ⟨_, pss_cons (ps_if (gt_not (gt_val (ge_call (ok_are_places M) (hr.mono (by decide)) (by rfl) M.m_are_places M.f_are_places.kp M.b_are_places (ga_cons (gv 1) ga_nil)))) pss_never pss_nil)
      (pss_cons (ps_if (gt_not (gt_val (ge_isi M.wty (.ty "tuple") (pe_bltn (by rfl) M.z_tuple rfl rfl) (f := isTupD) (by intro x b h; cases x <;> simp only [isTupD] at h <;> first | (cases h; exact kit_ty (by decide +kernel)) | cases h) (by rfl) M.z_isinstance (gvb 2)))) pss_never pss_nil)
      (pss_cons (ps_set (i := 3) sc_Webinit.nd rfl (.inl rfl) (ge_call (ok_wrong_tie M) (hr.mono (by decide)) (by rfl) M.m_wrong_tie M.f_wrong_tie.kp M.b_wrong_tie (ga_cons (gv 1) (ga_cons (gv 2) ga_nil))))
      (pss_cons (ps_if (gt_cmp (g := g) op_notN od_notN (gvb 3) (gb_e ge_non) rfl) pss_never pss_nil)
      (pss_cons (ps_fld (pv 0) (pv 1) rfl) (pss_one (ps_fld (pv 0) (pv 2) rfl)))))), ?_⟩
    have r0 : Rel K g c F [.no, .val (.str (plS P)), .val (.tup (T.map wayD)), .no] m [some (.ref x), some (.str (plS P)), some (.ref t), none] H :=
      rel_mk eF ck (.cons ⟨trivial, fun _ => rfl⟩ (.cons ⟨⟨_, rfl, .str _⟩, fun _ => rfl⟩ (.cons ⟨⟨_, rfl, rt⟩, fun _ => rfl⟩ (.cons ⟨trivial, fun _ => rfl⟩ .nil))))
    refine ⟨c, F, _, m, (fun b m1 => b = false ∧ m1 = m), r0, ⟨_, rfl, P, hW.pl, rfl, true, rfl, rfl, rfl⟩, fun b H1 F1 m1 r1 f1 ⟨hb, hm⟩ => ?_⟩
    subst hb hm
    refine ⟨c, F1, _, m1, (fun b m2 => b = false ∧ m2 = m1), r1, ⟨_, rfl, true, rfl, true, rfl, rfl, rfl⟩, fun b H2 F2 m2 r2 f2 ⟨hb, hm⟩ => ?_⟩
    subst hb hm
    refine ⟨c, F2, _, m2, (fun y m3 => y = .non ∧ m3 = m2), r2, ⟨_, rfl, _, rfl, P, T, hW, rfl, rfl, rfl⟩, fun v H3 F3 m3 y r3 f3 rp ⟨hy, hm⟩ => ?_⟩
    subst hy hm
    have r3' := r3.setV (i := 3) rp
    refine ⟨c, F3, _, m3, (fun b m4 => b = false ∧ m4 = m3), r3', ⟨_, rfl, _, rfl, _, rfl, rfl, rfl⟩, fun b H4 F4 m4 r4 f4 ⟨hb, hm⟩ => ?_⟩
    subst hb hm
    have fr := ((f1.trans f2).trans f3).trans f4
    have hx4 : H4 x = some (.ins g.Cw dx []) := fr.hh _ _ hx cx
    refine ⟨_, rfl, _, rfl, x, g.Cw, dx, _, rfl, hx4, M.wty.cls, M.np, by decide, ?_⟩
    refine ⟨_, rfl, _, rfl, x, g.Cw, dx, _, rfl, upd_same, M.wty.cls, M.nt, (show 1 < 1000 by decide), ?_⟩
    refine q F4 H4 _ fr r4.ck (fun b hb => by rw [upd_ne hb, upd_ne hb]) ?_
    rw [upd_same]
    rfl
theorem ge_make {X : Cx} (M : Mo X.K X.mg g ad fd) {e : Expr} {es : List Expr} {da : DA} {p pos : Pos} (hr : Room (3 + 1) X.A) (hg : Gl X "Web") (ha : GA g X (e :: es) da) (he : starEach (e :: es) X.env = (false, eval e X.env) :: starEach es X.env := by rfl) (hpl : (backTo pos (starEach es X.env)).any (·.1) = false := by rfl) :
    GE g X (.Call (.Name "Web" p) (e :: es) [] pos) (dMake da) :=
  PE.weak (pe_make M.mkw (ok_Webinit M) hr hg M.m_Web M.b_Webinit .nil pass0 ha (by decide) he hpl) fun σ H Q ⟨c, F, env, m, Q1, r, h, kk⟩ => ⟨c, F, env, m, _, r, h, fun vs H1 F1 m1 as r1 f1 ar ⟨P, T, hW, eas, q⟩ => fun x dx hx hdx hne => by
    subst eas
    cases ar with
    | cons a1 ar =>
      cases ar with
      | cons a2 ar =>
        cases ar
        cases a1
        have a2' : Rep X.K g F1 (.tup (T.map wayD)) _ := a2
        cases a2' with
        | @tup t xs ds hs hl =>
        have n1 := New.lay (F := F1) (o := .own x) r1.sub hdx
        have hx2 : upd H1 dx (.own x) x = none := by rw [upd_ne (Ne.symm hne)]; exact hx
        have n2 := New.lay (F := F1) (o := .ins g.Cw dx []) n1.fh hx2
        have n := n1.trans n2
        have cx : c ≠ some x := fun z => by obtain ⟨_, _, e, _⟩ := r1.ck x z; rw [e] at hx; cases hx
        have F1x : F1 x = none := ex_none r1.sub hx
        refine ⟨c, F1, m1, x, dx, t, P, T, rfl, hW, n.fh, r1.ck.new n, .tup hs hl, upd_same, cx, fun F' H' H'' fr ck hb hx'' => ⟨rfl, ?_⟩⟩
        have F'x : F' x = none := by
          cases z : F' x with
          | none => rfl
          | some o =>
            rcases fr.new x o z with y | y
            · rw [F1x] at y; cases y
            · rw [upd_same] at y; cases y
        have fresh : Fresh c F1 H1 (upd F' x (.ins g.Cw dx [("places", .str (plS P)), ("ties", .ref t)])) H'' := by
          refine ⟨fr.ff.trans (Evl.Ex.new F'x), fun a o z => ?_, fun a o z nz => ?_, fun a o z => ?_, fun a z => ?_⟩
          · by_cases y : a = x
            · subst y; rw [upd_same] at z; rw [← z]; exact hx''
            · rw [upd_ne y] at z; rw [hb a y]; exact fr.fh a o z
          · have y : a ≠ x := fun e => by subst e; rw [hx] at z; cases z
            rw [hb a y]
            exact fr.hh a o (n.hh a o z) nz
          · by_cases y : a = x
            · subst y; exact .inr hx
            · rw [upd_ne y] at z
              rcases fr.new a o z with u | u
              · exact .inl u
              · exact .inr (ex_none n.hh u)
          · have y : a ≠ x := fun e => cx (by rw [← e]; exact z)
            rw [upd_ne y]; exact fr.nc a z
        have ck' : Ck g c m1 (upd F' x (.ins g.Cw dx [("places", .str (plS P)), ("ties", .ref t)])) H'' := fun a z => by
          have y : a ≠ x := fun e => cx (by rw [← e]; exact z)
          obtain ⟨b1, ys, b2, b3⟩ := ck a z
          exact ⟨by rw [upd_ne y]; exact b1, ys, by rw [hb a y]; exact b2, b3⟩
        have hxs : xs = (T.map tS).map V.str := repL_strs (by rw [ts_map]; exact hl)
        refine kk _ H'' _ m1 _ (r1.fresh fresh ck') (f1.trans fresh) (.web upd_same ?_) q
        rw [← hxs]
        exact Evl.ex_t fresh.ff hs⟩
-- Weblen depth 1
theorem ok_Weblen (M : Mo K mg g ad fd) : FnOk P w K mg base CX0 1 (ad 10) (fd 10) ["self"] (spOf K g S_Weblen) :=
  def_ok M.f_Weblen sc_Weblen S_Weblen_len fun cdv A outer s H E hr => ⟨d_Weblen,
    (gss_one (gs_ret (ge_callB cr_len cd_len0 (by rfl) M.z_len (by decide +kernel) (gab_cons (gb_e (ge_ties M.wty.cls M.nt (gv 0))) gab_nil)))), law_Weblen⟩
-- check_web depth 1
theorem ok_check_web (M : Mo K mg g ad fd) : FnOk P w K mg base CX0 1 (ad 11) (fd 11) ["web"] (spOf K g S_check_web) :=
  def_ok M.f_check_web sc_check_web S_check_web_len fun cdv A outer s H E hr => ⟨d_check_web,
    (gss_one (gs_if (gt_not (gt_val (ge_isi M.wty (.own g.Cw) (pe_glob (by rfl) M.m_Web rfl) (by intro x b h; cases x <;> simp only [isWebD] at h <;> first | (cases h; exact kit_same) | cases h) (by rfl) M.z_isinstance (gvb 0)))) (gss_one gs_never) gss_nil)), law_check_web⟩
-- herds_of depth 1
theorem ok_herds_of (M : Mo K mg g ad fd) : FnOk P w K mg base CX0 1 (ad 12) (fd 12) ["places", "ties"] (spOf K g S_herds_of) :=
  def_ok M.f_herds_of sc_herds_of S_herds_of_len fun cdv A outer s H E hr => ⟨d_herds_of,
    (gss_cons (gs_set (i := 2) sc_herds_of.nd rfl (by first | exact .inl rfl | exact .inr rfl) (ge_n (gn_callTy (cr_list rfl) cn_list (by rfl) M.z_list (by decide +kernel) (gab_cons (gvb 0) gab_nil))))
      (gss_cons (gs_for PassesOwn.never rfl (gi_src (gv 1)) (gg_tupS rfl (ggs_cons (gg_name (j := 3) sc_herds_of.nd rfl (by first | exact .inl rfl | exact .inr rfl)) (ggs_cons (gg_name (j := 4) sc_herds_of.nd rfl (by first | exact .inl rfl | exact .inr rfl)) ggs_nil)))
      (gss_cons (gs_set (i := 5) sc_herds_of.nd rfl (by first | exact .inl rfl | exact .inr rfl) (ge_n (gn_lc' rfl sc_herds_of.nd (gi_srcB (gvb 2)) (blkOk_by (N := N_herds_of) (sc := (defScope st_herds_of)) (own := [("herd", 7)]) (by decide +kernel)) (fun s H C cl fp => (gg_name (j := 7) sc_herds_of.nd rfl (by first | exact .inl rfl | exact .inr rfl))) (fun s H C cl fp => (gts_one (gw_pt (gw_or (gt_cmp or_in od_in (gvb 3) (gvb 7) rfl) (gw_or1 (gt_cmp or_in od_in (gvb 4) (gvb 7) rfl)))))) (fun s H C cl fp => (gv 7)))))
      (gss_cons (gs_set (i := 6) sc_herds_of.nd rfl (by first | exact .inl rfl | exact .inr rfl) (ge_mtS PySem.F.slot_str_join PySem.F.type_str_join mt_join md_join (gb_e ge_str) (gab_cons (gb_e (ge_n (gn_callB (cr_sorted' rfl hr.units) cn_sorted (by rfl) M.z_sorted (by decide +kernel) (gab_cons (gb_e (ge_mtS PySem.F.slot_str_join PySem.F.type_str_join mt_join md_join (gb_e ge_str) (gab_cons (gvb 5) gab_nil))) gab_nil)))) gab_nil)))
      (gss_one (gs_set (i := 2) sc_herds_of.nd rfl (by first | exact .inl rfl | exact .inr rfl) (ge_op or_add od_add (gb_e (ge_n (gn_lst (gal_cons (gv 6) gal_nil)))) (gb_e (ge_n (gn_lc' rfl sc_herds_of.nd (gi_srcB (gvb 2)) (blkOk_by (N := N_herds_of) (sc := (defScope st_herds_of)) (own := [("herd", 7)]) (by decide +kernel)) (fun s H C cl fp => (gg_name (j := 7) sc_herds_of.nd rfl (by first | exact .inl rfl | exact .inr rfl))) (fun s H C cl fp => (gts_one (gt_cmp or_notin od_notin (gvb 7) (gvb 5) rfl))) (fun s H C cl fp => (gv 7)))))))))))
      (gss_one (gs_ret (ge_n (gn_callB (cr_sorted' rfl hr.units) cn_sorted (by rfl) M.z_sorted (by decide +kernel) (gab_cons (gvb 2) gab_nil))))))), law_herds_of⟩
-- every_tie depth 3
theorem ok_every_tie (M : Mo K mg g ad fd) : FnOk P w K mg base CX0 3 (ad 13) (fd 13) ["web"] (spOf K g S_every_tie) :=
  def_ok M.f_every_tie sc_every_tie S_every_tie_len fun cdv A outer s H E hr => ⟨d_every_tie,
    (gss_one (gs_ret (ge_tupRg rfl (by rfl) M.z_tuple (by rfl) M.z_range (ge_callB (CallR.or cr_len (cr_lenW (ok_Weblen M) (hr.mono (by decide)) M.fl M.il M.b_Weblen)) cd_lenW (by rfl) M.z_len PySem.boot_len (gab_cons (gvb 0) gab_nil))))), law_every_tie⟩
-- ties_of depth 1
theorem ok_ties_of (M : Mo K mg g ad fd) : FnOk P w K mg base CX0 1 (ad 14) (fd 14) ["web", "lot"] (spOf K g S_ties_of) :=
  def_ok M.f_ties_of sc_ties_of S_ties_of_len fun cdv A outer s H E hr => ⟨d_ties_of,
    (gss_one (gs_ret (ge_n (gn_lc' rfl sc_ties_of.nd (gi_srcB (gvb 1)) (blkOk_by (N := N_ties_of) (sc := (defScope st_ties_of)) (own := [("index", 2)]) (by decide +kernel)) (fun s H C cl fp => (gg_name (j := 2) sc_ties_of.nd rfl (by first | exact .inl rfl | exact .inr rfl))) (fun s H C cl fp => gts_nil) (fun s H C cl fp => (ge_ix (gb_e (ge_ties M.wty.cls M.nt (gv 0))) (gvb 2))))))), law_ties_of⟩
-- pieces_of depth 2
theorem ok_pieces_of (M : Mo K mg g ad fd) : FnOk P w K mg base CX0 2 (ad 15) (fd 15) ["web", "lot"] (spOf K g S_pieces_of) :=
  def_ok M.f_pieces_of sc_pieces_of S_pieces_of_len fun cdv A outer s H E hr => ⟨d_pieces_of,
    (gss_one (gs_ret (ge_call (ok_herds_of M) (hr.mono (by decide)) (by rfl) M.m_herds_of M.f_herds_of.kp M.b_herds_of (ga_cons (ge_places M.wty.cls M.np (gv 0)) (ga_cons (ge_call (ok_ties_of M) (hr.mono (by decide)) (by rfl) M.m_ties_of M.f_ties_of.kp M.b_ties_of (ga_cons (gv 0) (ga_cons (gv 1) ga_nil))) ga_nil))))), law_pieces_of⟩
-- rank_of depth 3
theorem ok_rank_of (M : Mo K mg g ad fd) : FnOk P w K mg base CX0 3 (ad 16) (fd 16) ["web", "lot"] (spOf K g S_rank_of) :=
  def_ok M.f_rank_of sc_rank_of S_rank_of_len fun cdv A outer s H E hr => ⟨d_rank_of,
    (gss_one (gs_ret (ge_op op_sub od_sub (gb_e (ge_callB cr_len cd_len0 (by rfl) M.z_len (by decide +kernel) (gab_cons (gb_e (ge_places M.wty.cls M.np (gv 0))) gab_nil))) (gb_e (ge_callB cr_len cd_len0 (by rfl) M.z_len (by decide +kernel) (gab_cons (gb_e (ge_call (ok_pieces_of M) (hr.mono (by decide)) (by rfl) M.m_pieces_of M.f_pieces_of.kp M.b_pieces_of (ga_cons (gv 0) (ga_cons (gv 1) ga_nil)))) gab_nil)))))), law_rank_of⟩
-- spare_of depth 4
theorem ok_spare_of (M : Mo K mg g ad fd) : FnOk P w K mg base CX0 4 (ad 17) (fd 17) ["web", "lot"] (spOf K g S_spare_of) :=
  def_ok M.f_spare_of sc_spare_of S_spare_of_len fun cdv A outer s H E hr => ⟨d_spare_of,
    (gss_one (gs_ret (ge_op op_sub od_sub (gb_e (ge_callB cr_len cd_len0 (by rfl) M.z_len (by decide +kernel) (gab_cons (gvb 1) gab_nil))) (gb_e (ge_call (ok_rank_of M) (hr.mono (by decide)) (by rfl) M.m_rank_of M.f_rank_of.kp M.b_rank_of (ga_cons (gv 0) (ga_cons (gv 1) ga_nil))))))), law_spare_of⟩
-- every_lot depth 4
theorem ok_every_lot (M : Mo K mg g ad fd) : FnOk P w K mg base CX0 4 (ad 18) (fd 18) ["web"] (spOf K g S_every_lot) :=
  def_ok M.f_every_lot sc_every_lot S_every_lot_len fun cdv A outer s H E hr => ⟨d_every_lot,
    (gss_cons (gs_set (i := 1) sc_every_lot.nd rfl (by first | exact .inl rfl | exact .inr rfl) (ge_n (gn_lst (gal_cons (ge_tup gal_nil) gal_nil))))
      (gss_cons (gs_for PassesOwn.never rfl (gi_src (ge_call (ok_every_tie M) (hr.mono (by decide)) (by rfl) M.m_every_tie M.f_every_tie.kp M.b_every_tie (ga_cons (gv 0) ga_nil))) (gg_name (j := 2) sc_every_lot.nd rfl (by first | exact .inl rfl | exact .inr rfl))
      (gss_one (gs_set (i := 1) sc_every_lot.nd rfl (by first | exact .inl rfl | exact .inr rfl) (ge_op or_add od_add (gvb 1) (gb_e (ge_n (gn_lc' rfl sc_every_lot.nd (gi_srcB (gvb 1)) (blkOk_by (N := N_every_lot) (sc := (defScope st_every_lot)) (own := [("lot", 3)]) (by decide +kernel)) (fun s H C cl fp => (gg_name (j := 3) sc_every_lot.nd rfl (by first | exact .inl rfl | exact .inr rfl))) (fun s H C cl fp => gts_nil) (fun s H C cl fp => (ge_op or_add od_add (gvb 3) (gb_e (ge_tup (gal_cons (gv 2) gal_nil))))))))))))
      (gss_one (gs_ret (ge_n (gn_callB (cr_sort0 hr.units) cn_sorted0 (by rfl) M.z_sorted (by decide +kernel) (gab_cons (gvb 1) gab_nil))))))), law_every_lot⟩
-- empty_rows depth 5
theorem ok_empty_rows (M : Mo K mg g ad fd) : FnOk P w K mg base CX0 5 (ad 19) (fd 19) ["web"] (spOfT K g S_empty_rows) :=
  def_okT M.f_empty_rows sc_empty_rows S_empty_rows_len rfl fun cdv A outer s H E hr => ⟨d1_empty_rows, d2_empty_rows,
    (gs_set (i := 1) sc_empty_rows.nd rfl (by first | exact .inl rfl | exact .inr rfl) (ge_call (ok_every_tie M) (hr.mono (by decide)) (by rfl) M.m_every_tie M.f_every_tie.kp M.b_every_tie (ga_cons (gv 0) ga_nil))),
    (gnt_lc rfl sc_empty_rows.nd (gi_bor (gi_range (by rfl) M.z_range (ge_op or_add od_add (gb_e (ge_call (ok_rank_of M) (hr.mono (by decide)) (by rfl) M.m_rank_of M.f_rank_of.kp M.b_rank_of (ga_cons (gv 0) (ga_cons (gv 1) ga_nil)))) (gb_e ge_int)))) (blkOk_by (N := N_empty_rows) (sc := (defScope st_empty_rows)) (own := [("turn", 2)]) (by decide +kernel)) (fun s H C cl fp => (gg_name (j := 2) sc_empty_rows.nd rfl (by first | exact .inl rfl | exact .inr rfl))) (fun s H C cl fp => (gn_repL (ge_n (gn_lst (gal_cons ge_int gal_nil))) (ge_op or_add od_add (gb_e (ge_call (ok_spare_of M) (hr.mono (by decide)) (by rfl) M.m_spare_of M.f_spare_of.kp M.b_spare_of (ga_cons (gv 0) (ga_cons (gv 1) ga_nil)))) (gb_e ge_int))))), law_empty_rows⟩
-- as_table depth 1
theorem ok_as_table (M : Mo K mg g ad fd) : FnOk P w K mg base CX0 1 (ad 20) (fd 20) ["rows"] (spOf K g S_as_table) :=
  def_ok M.f_as_table sc_as_table S_as_table_len fun cdv A outer s H E hr => ⟨d_as_table,
    (gss_one (gs_ret (ge_callTy cr_tuple cd_tuple (by rfl) M.z_tuple (by decide +kernel) (gab_cons (gb_e (ge_n (gn_lc' rfl sc_as_table.nd (gi_srcB (gvb 0)) (blkOk_by (N := N_as_table) (sc := (defScope st_as_table)) (own := [("row", 1)]) (by decide +kernel)) (fun s H C cl fp => (gg_name (j := 1) sc_as_table.nd rfl (by first | exact .inl rfl | exact .inr rfl))) (fun s H C cl fp => gts_nil) (fun s H C cl fp => (ge_callTy cr_tuple cd_tuple (by rfl) M.z_tuple (by decide +kernel) (gab_cons (gvb 1) gab_nil)))))) gab_nil)))), law_as_table⟩
-- counted_lots depth 6
theorem ok_counted_lots (M : Mo K mg g ad fd) : FnOk P w K mg base CX0 6 (ad 21) (fd 21) ["web"] (spOf K g S_counted_lots) :=
  def_ok M.f_counted_lots sc_counted_lots S_counted_lots_len fun cdv A outer s H E hr => ⟨d_counted_lots,
    (gss_cons (gs_mix2 (i := 1) (j := 2) rfl sc_counted_lots.nd rfl rfl (by decide) rfl rfl (gmx_tab (gnt_call (ok_empty_rows M) (hr.mono (by decide)) (by rfl) M.m_empty_rows M.f_empty_rows.kp M.b_empty_rows (ga_cons (gv 0) ga_nil)) (gmx_val (ge_call (ok_rank_of M) (hr.mono (by decide)) (by rfl) M.m_rank_of M.f_rank_of.kp M.b_rank_of (ga_cons (gv 0) (ga_cons (ge_call (ok_every_tie M) (hr.mono (by decide)) (by rfl) M.m_every_tie M.f_every_tie.kp M.b_every_tie (ga_cons (gv 0) ga_nil)) ga_nil))) gmx_nil)) rfl)
      (gss_cons (gs_for PassesOwn.never rfl (gi_src (ge_call (ok_every_lot M) (hr.mono (by decide)) (by rfl) M.m_every_lot M.f_every_lot.kp M.b_every_lot (ga_cons (gv 0) ga_nil))) (gg_name (j := 3) sc_counted_lots.nd rfl (by first | exact .inl rfl | exact .inr rfl))
      (gss_one (gs_augT 1 ip_add (ge_op op_sub od_sub (gvb 2) (gb_e (ge_call (ok_rank_of M) (hr.mono (by decide)) (by rfl) M.m_rank_of M.f_rank_of.kp M.b_rank_of (ga_cons (gv 0) (ga_cons (gv 3) ga_nil))))) (ge_call (ok_spare_of M) (hr.mono (by decide)) (by rfl) M.m_spare_of M.f_spare_of.kp M.b_spare_of (ga_cons (gv 0) (ga_cons (gv 3) ga_nil))) ge_int)))
      (gss_one (gs_freezeT 1 (gs_ret (gv 1)))))), law_counted_lots⟩
-- lot_counts depth 7
theorem ok_lot_counts (M : Mo K mg g ad fd) : FnOk P w K mg base CX0 7 (ad 22) (fd 22) ["web"] (spOf K g S_lot_counts) :=
  def_ok M.f_lot_counts sc_lot_counts S_lot_counts_len fun cdv A outer s H E hr => ⟨d_lot_counts,
    (gss_cons (gs_expr (ge_call (ok_check_web M) (hr.mono (by decide)) (by rfl) M.m_check_web M.f_check_web.kp M.b_check_web (ga_cons (gv 0) ga_nil)))
      (gss_one (gs_ret (ge_call (ok_as_table M) (hr.mono (by decide)) (by rfl) M.m_as_table M.f_as_table.kp M.b_as_table (ga_cons (ge_call (ok_counted_lots M) (hr.mono (by decide)) (by rfl) M.m_counted_lots M.f_counted_lots.kp M.b_counted_lots (ga_cons (gv 0) ga_nil)) ga_nil))))), law_lot_counts⟩
-- ways_to_choose depth 1
theorem ok_ways_to_choose (M : Mo K mg g ad fd) : FnOk P w K mg base CX0 1 (ad 23) (fd 23) ["many", "some"] (spOf K g S_ways_to_choose) :=
  def_ok M.f_ways_to_choose sc_ways_to_choose S_ways_to_choose_len fun cdv A outer s H E hr => ⟨d_ways_to_choose,
    (gss_cons (gs_set (i := 2) sc_ways_to_choose.nd rfl (by first | exact .inl rfl | exact .inr rfl) ge_int)
      (gss_cons (gs_for PassesOwn.never rfl (gi_range (by rfl) M.z_range (gv 1)) (gg_name (j := 3) sc_ways_to_choose.nd rfl (by first | exact .inl rfl | exact .inr rfl))
      (gss_one (gs_set (i := 2) sc_ways_to_choose.nd rfl (by first | exact .inl rfl | exact .inr rfl) (ge_op op_fdiv od_fdiv (gb_e (ge_op or_mul od_mul (gvb 2) (gb_e (ge_op op_sub od_sub (gvb 0) (gvb 3))))) (gb_e (ge_op or_add od_add (gvb 3) (gb_e ge_int)))))))
      (gss_one (gs_ret (gv 2))))), law_ways_to_choose⟩
-- shifted depth 2
theorem ok_shifted (M : Mo K mg g ad fd) : FnOk P w K mg base CX0 2 (ad 24) (fd 24) ["row"] (spOf K g S_shifted) :=
  def_ok M.f_shifted sc_shifted S_shifted_len fun cdv A outer s H E hr => ⟨d_shifted,
    (gss_cons (gs_setW (i := 1) sc_shifted.nd rfl (by first | exact .inl rfl | exact .inr rfl) (gnw_n (gn_repL (ge_n (gn_lst (gal_cons ge_int gal_nil))) (ge_callB cr_len cd_len0 (by rfl) M.z_len (by decide +kernel) (gab_cons (gvb 0) gab_nil)))))
      (gss_cons (gs_for PassesOwn.never rfl (gi_enum (by rfl) M.z_enumerate (gv 0)) (gg_tupK K rfl (ggs_cons (gg_name (j := 2) sc_shifted.nd rfl (by first | exact .inl rfl | exact .inr rfl)) (ggs_cons (gg_name (j := 3) sc_shifted.nd rfl (by first | exact .inl rfl | exact .inr rfl)) ggs_nil)))
      (gss_one (gs_for PassesOwn.never rfl (gi_range (by rfl) M.z_range (ge_op or_add od_add (gvb 2) (gb_e ge_int))) (gg_name (j := 4) sc_shifted.nd rfl (by first | exact .inl rfl | exact .inr rfl))
      (gss_one (gs_augL 1 (gv 4) (ge_op or_mul od_mul (gb_e (ge_op or_mul od_mul (gvb 3) (gb_e (ge_call (ok_ways_to_choose M) (hr.mono (by decide)) (by rfl) M.m_ways_to_choose M.f_ways_to_choose.kp M.b_ways_to_choose (ga_cons (gv 2) (ga_cons (gv 4) ga_nil)))))) (gb_e (ge_if (gt_cmp (or_eq hr.units) od_eq (gb_e (ge_op op_mod od_mod (gb_e (ge_op op_sub od_sub (gvb 2) (gvb 4))) (gb_e ge_int))) (gb_e ge_int) rfl) ge_negI ge_int))))))))
      (gss_one (gs_retO 1)))), law_shifted⟩
-- table_rows depth 7
theorem ok_table_rows (M : Mo K mg g ad fd) : FnOk P w K mg base CX0 7 (ad 25) (fd 25) ["web"] (spOf K g S_table_rows) :=
  def_ok M.f_table_rows sc_table_rows S_table_rows_len fun cdv A outer s H E hr => ⟨d_table_rows,
    (gss_cons (gs_set (i := 1) sc_table_rows.nd rfl (by first | exact .inl rfl | exact .inr rfl) (ge_n (gn_lc' rfl sc_table_rows.nd (gi_srcB (gb_e (ge_call (ok_counted_lots M) (hr.mono (by decide)) (by rfl) M.m_counted_lots M.f_counted_lots.kp M.b_counted_lots (ga_cons (gv 0) ga_nil)))) (blkOk_by (N := N_table_rows) (sc := (defScope st_table_rows)) (own := [("row", 3)]) (by decide +kernel)) (fun s H C cl fp => (gg_name (j := 3) sc_table_rows.nd rfl (by first | exact .inl rfl | exact .inr rfl))) (fun s H C cl fp => gts_nil) (fun s H C cl fp => (ge_call (ok_shifted M) (hr.mono (by decide)) (by rfl) M.m_shifted M.f_shifted.kp M.b_shifted (ga_cons (gv 3) ga_nil))))))
      (gss_cons (gs_set (i := 2) sc_table_rows.nd rfl (by first | exact .inl rfl | exact .inr rfl) (ge_n (gn_lc' rfl sc_table_rows.nd (gi_bor (gi_range (by rfl) M.z_range (ge_callB cr_len cd_len0 (by rfl) M.z_len (by decide +kernel) (gab_cons (gb_e (ge_ix (gvb 1) (gb_e ge_int))) gab_nil)))) (blkOk_by (N := N_table_rows) (sc := (defScope st_table_rows)) (own := [("place", 4)]) (by decide +kernel)) (fun s H C cl fp => (gg_name (j := 4) sc_table_rows.nd rfl (by first | exact .inl rfl | exact .inr rfl))) (fun s H C cl fp => gts_nil) (fun s H C cl fp => (ge_call (ok_shifted M) (hr.mono (by decide)) (by rfl) M.m_shifted M.f_shifted.kp M.b_shifted (ga_cons (ge_n (gn_lc' rfl sc_table_rows.nd (gi_srcB (gvb 1)) (blkOk_by (N := N_table_rows) (sc := ({ kind := PySem.ScopeKind.function, names := [(PySem.Str.ofString ".0", PySem.NameKind.local), (PySem.Str.ofString "place", PySem.NameKind.cell), (PySem.Str.ofString "shifted", PySem.NameKind.globalImplicit), (PySem.Str.ofString "rows", PySem.NameKind.cell)], isGenerator := false, isCoroutine := false, more := [] : PySem.Scope })) (own := [("row", 3)]) (by decide +kernel)) (fun s H C cl fp => (gg_name (j := 3) sc_table_rows.nd rfl (by first | exact .inl rfl | exact .inr rfl))) (fun s H C cl fp => gts_nil) (fun s H C cl fp => (ge_ix (gvb 3) (gvb 4))))) ga_nil))))))
      (gss_one (gs_ret (ge_n (gn_lc' rfl sc_table_rows.nd (gi_bor (gi_range (by rfl) M.z_range (ge_callB cr_len cd_len0 (by rfl) M.z_len (by decide +kernel) (gab_cons (gvb 1) gab_nil)))) (blkOk_by (N := N_table_rows) (sc := (defScope st_table_rows)) (own := [("place", 4)]) (by decide +kernel)) (fun s H C cl fp => (gg_name (j := 4) sc_table_rows.nd rfl (by first | exact .inl rfl | exact .inr rfl))) (fun s H C cl fp => gts_nil) (fun s H C cl fp => (ge_n (gn_lc' rfl sc_table_rows.nd (gi_srcB (gvb 2)) (blkOk_by (N := N_table_rows) (sc := ({ kind := PySem.ScopeKind.function, names := [(PySem.Str.ofString ".0", PySem.NameKind.local), (PySem.Str.ofString "place", PySem.NameKind.cell), (PySem.Str.ofString "columns", PySem.NameKind.cell)], isGenerator := false, isCoroutine := false, more := [] : PySem.Scope })) (own := [("column", 5)]) (by decide +kernel)) (fun s H C cl fp => (gg_name (j := 5) sc_table_rows.nd rfl (by first | exact .inl rfl | exact .inr rfl))) (fun s H C cl fp => gts_nil) (fun s H C cl fp => (ge_ix (gvb 5) (gvb 4)))))))))))), law_table_rows⟩
-- table depth 8
theorem ok_table (M : Mo K mg g ad fd) : FnOk P w K mg base CX0 8 (ad 26) (fd 26) ["web"] (spOf K g S_table) :=
  def_ok M.f_table sc_table S_table_len fun cdv A outer s H E hr => ⟨d_table,
    (gss_cons (gs_expr (ge_call (ok_check_web M) (hr.mono (by decide)) (by rfl) M.m_check_web M.f_check_web.kp M.b_check_web (ga_cons (gv 0) ga_nil)))
      (gss_one (gs_ret (ge_call (ok_as_table M) (hr.mono (by decide)) (by rfl) M.m_as_table M.f_as_table.kp M.b_as_table (ga_cons (ge_call (ok_table_rows M) (hr.mono (by decide)) (by rfl) M.m_table_rows M.f_table_rows.kp M.b_table_rows (ga_cons (gv 0) ga_nil)) ga_nil))))), law_table⟩
-- power depth 1
theorem ok_power (M : Mo K mg g ad fd) : FnOk P w K mg base CX0 1 (ad 27) (fd 27) ["number", "many"] (spOf K g S_power) :=
  def_ok M.f_power sc_power S_power_len fun cdv A outer s H E hr => ⟨d_power,
    (gss_cons (gs_set (i := 2) sc_power.nd rfl (by first | exact .inl rfl | exact .inr rfl) ge_int)
      (gss_cons (gs_for PassesOwn.never rfl (gi_range (by rfl) M.z_range (gv 1)) (gg_name (j := 3) sc_power.nd rfl (by first | exact .inl rfl | exact .inr rfl))
      (gss_one (gs_set (i := 2) sc_power.nd rfl (by first | exact .inl rfl | exact .inr rfl) (ge_op op_mulW od_mulW (gvb 2) (gvb 0)))))
      (gss_one (gs_ret (gv 2))))), law_power⟩
-- value depth 8
theorem ok_value (M : Mo K mg g ad fd) : FnOk P w K mg base CX0 8 (ad 28) (fd 28) ["web", "x", "y"] (spOf K g S_value) :=
  def_ok M.f_value sc_value S_value_len fun cdv A outer s H E hr => ⟨d_value,
    (gss_cons (gs_expr (ge_call (ok_check_web M) (hr.mono (by decide)) (by rfl) M.m_check_web M.f_check_web.kp M.b_check_web (ga_cons (gv 0) ga_nil)))
      (gss_cons (gs_for PassesOwn.never rfl (gi_src (ge_tup (gal_cons (gv 1) (gal_cons (gv 2) gal_nil)))) (gg_name (j := 3) sc_value.nd rfl (by first | exact .inl rfl | exact .inr rfl))
      (gss_one (gs_if (gt_not (gt_val (ge_call (ok_is_fraction M) (hr.mono (by decide)) (by rfl) M.m_is_fraction M.f_is_fraction.kp M.b_is_fraction (ga_cons (gv 3) ga_nil)))) (gss_one gs_never) gss_nil)))
      (gss_cons (gs_set (i := 4) sc_value.nd rfl (by first | exact .inl rfl | exact .inr rfl) (ge_call (ok_table_rows M) (hr.mono (by decide)) (by rfl) M.m_table_rows M.f_table_rows.kp M.b_table_rows (ga_cons (gv 0) ga_nil)))
      (gss_cons (gs_mix3 (i := 5) (j := 6) (l := 7) rfl sc_value.nd rfl rfl rfl (by decide) (by decide) (by decide) rfl rfl rfl (gmx_val (ge_op op_sub od_sub (gb_e (ge_callB cr_len cd_len0 (by rfl) M.z_len (by decide +kernel) (gab_cons (gvb 4) gab_nil))) (gb_e ge_int)) (gmx_val (ge_op op_sub od_sub (gb_e (ge_callB cr_len cd_len0 (by rfl) M.z_len (by decide +kernel) (gab_cons (gb_e (ge_ix (gvb 4) (gb_e ge_int))) gab_nil))) (gb_e ge_int)) (gmx_val ge_int gmx_nil))) rfl)
      (gss_cons (gs_for PassesOwn.never rfl (gi_enum (by rfl) M.z_enumerate (gv 4)) (gg_tupK K rfl (ggs_cons (gg_name (j := 8) sc_value.nd rfl (by first | exact .inl rfl | exact .inr rfl)) (ggs_cons (gg_name (j := 9) sc_value.nd rfl (by first | exact .inl rfl | exact .inr rfl)) ggs_nil)))
      (gss_one (gs_for PassesOwn.never rfl (gi_enum (by rfl) M.z_enumerate (gv 9)) (gg_tupK K rfl (ggs_cons (gg_name (j := 10) sc_value.nd rfl (by first | exact .inl rfl | exact .inr rfl)) (ggs_cons (gg_name (j := 11) sc_value.nd rfl (by first | exact .inl rfl | exact .inr rfl)) ggs_nil)))
      (gss_one (gs_augN (i := 7) sc_value.nd rfl (by first | exact .inl rfl | exact .inr rfl) (ge_op op_mulW od_mulW (gb_e (ge_op op_mulW od_mulW (gb_e (ge_op op_mulW od_mulW (gb_e (ge_op op_mulW od_mulW (gvb 11) (gb_e (ge_call (ok_power M) (hr.mono (by decide)) (by rfl) M.m_power M.f_power.kp M.b_power (ga_cons (ge_ix (gvb 1) (gb_e ge_int)) (ga_cons (gv 8) ga_nil)))))) (gb_e (ge_call (ok_power M) (hr.mono (by decide)) (by rfl) M.m_power M.f_power.kp M.b_power (ga_cons (ge_ix (gvb 1) (gb_e ge_int)) (ga_cons (ge_op op_sub od_sub (gvb 5) (gvb 8)) ga_nil)))))) (gb_e (ge_call (ok_power M) (hr.mono (by decide)) (by rfl) M.m_power M.f_power.kp M.b_power (ga_cons (ge_ix (gvb 2) (gb_e ge_int)) (ga_cons (gv 10) ga_nil)))))) (gb_e (ge_call (ok_power M) (hr.mono (by decide)) (by rfl) M.m_power M.f_power.kp M.b_power (ga_cons (ge_ix (gvb 2) (gb_e ge_int)) (ga_cons (ge_op op_sub od_sub (gvb 6) (gvb 10)) ga_nil))))))))))
      (gss_one (gs_ret (ge_call (ok_fraction M) (hr.mono (by decide)) (by rfl) M.m_fraction M.f_fraction.kp M.b_fraction (ga_cons (gv 7) (ga_cons (ge_op op_mulW od_mulW (gb_e (ge_call (ok_power M) (hr.mono (by decide)) (by rfl) M.m_power M.f_power.kp M.b_power (ga_cons (ge_ix (gvb 1) (gb_e ge_int)) (ga_cons (gv 5) ga_nil)))) (gb_e (ge_call (ok_power M) (hr.mono (by decide)) (by rfl) M.m_power M.f_power.kp M.b_power (ga_cons (ge_ix (gvb 2) (gb_e ge_int)) (ga_cons (gv 6) ga_nil))))) ga_nil)))))))))), law_value⟩
theorem cask_fresh {c : Option Addr} {F H H' : Hp} {a : Addr} {m : Nat} (e : Ex F H) (ck : Ck g c m F H) (hc : c = some a) (k : ∀ b o, H b = some o → b ≠ a → H' b = some o) : Fresh c F H F H' := by
  obtain ⟨h1, _⟩ := ck a hc
  refine ⟨fun _ _ h => h, fun b o h => k b o (e b o h) (fun z => by subst z; rw [h1] at h; cases h), fun b o h n => k b o h (fun z => n (by rw [z]; exact hc)), fun b o h => .inl h, fun b h => (ck b h).1⟩
theorem cask_ck {c : Option Addr} {F H H' : Hp} {a : Addr} {m m' : Nat} {xs : List V} (hg : g.ck = ckOk) (ck : Ck g c m F H) (hc : c = some a) (h : H' a = some (.lst xs)) (hk : ckOk m' xs) : Ck g c m' F H' := fun b z => by
  rw [hc] at z
  cases z
  exact ⟨(ck a hc).1, xs, h, by rw [hg]; exact hk⟩
theorem ok_law_dip (M : Mo K mg g ad fd) : FnOk P w K mg base CX0 1 (ad 30) (fd 30) ["_law_pot_here", "_law_many"] (spOf K g S_law_dip) := by
  refine M.f_law_dip.ok sc_law_dip (fun vs H Q E h => ?_) (fun cdv A outer s H vs Q E hr h => ?_)
  · obtain ⟨c, F, as, m, Q', _, ar, _, hs, _⟩ := h
    rw [← ar.length]; exact S_law_dip_len as m Q' hs
  · obtain ⟨c, F, as, m, Q', eF, ar, ck, ⟨n, hn0, hn1, rfl, q⟩, kk⟩ := h
    obtain ⟨a, rfl, hc⟩ : ∃ a, vs = [.ref a, .int n] ∧ c = some a := by
      cases ar with
      | cons h1 t =>
        cases t with
        | cons h2 t =>
          cases t
          obtain ⟨a, e1, rfl⟩ := h1
          have h2' : Rep K g F (.int n) _ := h2
          cases h2'
          exact ⟨a, rfl, e1⟩
    obtain ⟨hFa, xs, hH, hck⟩ := ck a hc
    rw [M.ck] at hck
    obtain ⟨f, u, v, rfl, hf0, hu0, hu1, hv0, hv1⟩ := hck
    refine ⟨_, pss_cons (ps_if (pt_cmpR op_gt (pe_ix ix_list (pv 0) pe_int (fun _ _ => rfl)) pe_int (nomark _))
        (pss_cons (ps_asg (pe_callB call_divmod (by rfl) M.z_divmod (by decide +kernel) (pa_cons (pe_ix ix_list (pv 0) pe_int (fun _ _ => rfl)) (pa_cons (pv 1) pa_nil))) (pg_tup rfl (pgs_cons (pg_sub (pv 0) pe_int set_list) (pgs_cons (pg_name (i := 2) sc_law_dip.nd rfl (.inl rfl)) pgs_nil))))
          (pss_one (ps_ret (pv 2)))) pss_nil)
      (pss_cons (ps_asg (pe_op op_mod (pe_callTy call_int1 (by rfl) M.z_int (by decide +kernel) (pa_cons (pe_op op_add (pe_op op_mul (pe_ix ix_list (pv 0) pe_int (fun _ _ => rfl)) pe_int) pe_int) pa_nil)) pe_int) (pg_sub (pv 0) pe_int set_list))
      (pss_cons (ps_asg (pe_op op_mod (pe_callTy call_int1 (by rfl) M.z_int (by decide +kernel) (pa_cons (pe_op op_add (pe_op op_mul (pe_ix ix_list (pv 0) pe_int (fun _ _ => rfl)) pe_int) pe_int) pa_nil)) pe_int) (pg_sub (pv 0) pe_int set_list))
      (pss_one (ps_ret (pe_op op_mod (pe_callTy call_int1 (by rfl) M.z_int (by decide +kernel) (pa_cons (pe_op op_fdiv (pe_callTy call_int1 (by rfl) M.z_int (by decide +kernel) (pa_cons (pe_op op_add (pe_ix ix_list (pv 0) pe_int (fun _ _ => rfl)) (pe_ix ix_list (pv 0) pe_int (fun _ _ => rfl))) pa_nil)) pe_int) pa_nil)) (pv 1)))))), ?_⟩
    refine ⟨.ref a, rfl, a, _, 0, .int f, rfl, rfl, SqL.of hH, rfl, f, 0, rfl, rfl, _, rfl, ?_⟩
    by_cases hf : (0 : Int) < f
    · rw [decide_eq_true hf]
      refine ⟨.ref a, rfl, a, _, 0, .int f, rfl, rfl, SqL.of hH, rfl, .int n, rfl, f, n, rfl, ⟨hn0, by omega⟩, fun t ht => ?_⟩
      have hat : a ≠ t := fun z => by subst z; rw [hH] at ht; cases ht
      refine ⟨t, _, rfl, SqT.of upd_same, rfl, _, _, rfl, .ref a, rfl, a, _, 0, 0, rfl, rfl, by rw [upd_ne hat]; exact hH, rfl, ?_⟩
      refine ⟨_, _, rfl, rfl, _, rfl, ?_⟩
      have hd0 : 0 ≤ f % n := Int.emod_nonneg f (by omega)
      have hd1 : f % n < n := Int.emod_lt_of_pos f hn0
      have e : f % n = ((f % n).toNat : Int) := by omega
      refine kk _ _ F m (.int ((f % n).toNat : Nat)) (cask_fresh eF ck hc fun b o hb nb => ?_) (cask_ck M.ck ck hc upd_same ⟨f / n, u, v, rfl, Int.ediv_nonneg hf0 (by omega), hu0, hu1, hv0, hv1⟩) ?_ (q _ (by omega))
      · have hbt : b ≠ t := fun z => by subst z; rw [hb] at ht; cases ht
        rw [upd_ne nb, upd_ne hbt]; exact hb
      · rw [← e]; exact .int _
    · rw [decide_eq_false hf]
      have hu2 : (-(2 ^ 64) < u ∧ u < 2 ^ 64) := by omega
      have hv2 : (-(2 ^ 64) < v ∧ v < 2 ^ 64) := by omega
      refine ⟨.ref a, rfl, a, _, 1, .int u, rfl, rfl, SqL.of hH, rfl, u, 40692, rfl, rfl, .inl hu2, _, 11, rfl, rfl, .inl ⟨_, rfl, _, 2147483629, rfl, rfl, (show (0 : Int) < 2147483629 by decide), .ref a, rfl, a, _, 1, 1, rfl, rfl, hH, rfl, ?_⟩⟩
      show tSeq _ _ _ _ (upd H a (.lst [.int f, .int ((u * 40692 + 11) % 2147483629), .int v]))
      generalize hu' : (u * 40692 + 11) % 2147483629 = u'
      have u0 : 0 ≤ u' := by rw [← hu']; exact Int.emod_nonneg _ (by decide)
      have u1 : u' < 2147483629 := by rw [← hu']; exact Int.emod_lt_of_pos _ (by decide)
      have hH1 : upd H a (.lst [.int f, .int u', .int v]) a = some (.lst [.int f, .int u', .int v]) := upd_same
      refine ⟨.ref a, rfl, a, _, 2, .int v, rfl, rfl, SqL.of hH1, rfl, v, 52774, rfl, rfl, .inl hv2, _, 7, rfl, rfl, .inl ⟨_, rfl, _, 2147480009, rfl, rfl, (show (0 : Int) < 2147480009 by decide), .ref a, rfl, a, _, 2, 2, rfl, rfl, hH1, rfl, ?_⟩⟩
      have v0 : 0 ≤ (v * 52774 + 7) % 2147480009 := Int.emod_nonneg _ (by decide)
      have v1 : (v * 52774 + 7) % 2147480009 < 2147480009 := Int.emod_lt_of_pos _ (by decide)
      have hH2 : upd (upd H a (.lst [.int f, .int u', .int v])) a (.lst [.int f, .int u', .int ((v * 52774 + 7) % 2147480009)]) a = some (.lst [.int f, .int u', .int ((v * 52774 + 7) % 2147480009)]) := upd_same
      refine ⟨.ref a, rfl, a, _, 1, .int u', rfl, rfl, SqL.of hH2, rfl, .ref a, rfl, a, _, 2, .int ((v * 52774 + 7) % 2147480009), rfl, rfl, SqL.of hH2, rfl, u', (v * 52774 + 7) % 2147480009, rfl, rfl, .inl ⟨_, rfl, u' + (v * 52774 + 7) % 2147480009, 128, rfl, rfl, ⟨by decide, by decide⟩, .inl ⟨_, rfl, .int n, rfl, _, n, rfl, rfl, hn0, ?_⟩⟩⟩
      show Q (.int ((u' + (v * 52774 + 7) % 2147480009) / 128 % n)) _
      generalize hz : (u' + (v * 52774 + 7) % 2147480009) / 128 = z
      have hd0 : 0 ≤ z % n := Int.emod_nonneg _ (by omega)
      have hd1 : z % n < n := Int.emod_lt_of_pos _ hn0
      have e : z % n = ((z % n).toNat : Int) := by omega
      refine kk _ _ F m (.int ((z % n).toNat : Nat)) (cask_fresh eF ck hc fun b o hb nb => ?_) (cask_ck M.ck ck hc upd_same ⟨f, u', _, rfl, hf0, u0, u1, v0, v1⟩) ?_ (q _ (by omega))
      · rw [upd_ne nb, upd_ne nb]; exact hb
      · rw [← e]; exact .int _
-- law_any depth 2
theorem ok_law_any (M : Mo K mg g ad fd) : FnOk P w K mg base CX0 2 (ad 31) (fd 31) ["_law_pot_here", "_law_some"] (spOf K g S_law_any) :=
  def_ok M.f_law_any sc_law_any S_law_any_len fun cdv A outer s H E hr => ⟨d_law_any,
    (gss_one (gs_ret (ge_ix (gvb 1) (gb_e (ge_call (ok_law_dip M) (hr.mono (by decide)) (by rfl) M.m_law_dip M.f_law_dip.kp M.b_law_dip (ga_cask 0 (ga_cons (ge_callB cr_len cd_len0 (by rfl) M.z_len (by decide +kernel) (gab_cons (gvb 1) gab_nil)) ga_nil))))))), law_law_any⟩
-- law_parts depth 3
theorem ok_law_parts (M : Mo K mg g ad fd) : FnOk P w K mg base CX0 3 (ad 32) (fd 32) ["_law_pot_here", "_law_most", "_law_many"] (spOf K g S_law_parts) :=
  def_ok M.f_law_parts sc_law_parts S_law_parts_len fun cdv A outer s H E hr => ⟨d_law_parts,
    (gss_cons (gs_mix3 (i := 3) (j := 4) (l := 5) rfl sc_law_parts.nd rfl rfl rfl (by decide) (by decide) (by decide) rfl rfl rfl (gmx_new (gnw_n (gn_callTy (cr_list rfl) cn_list (by rfl) M.z_list (by decide +kernel) (gab_cons (gb_e ge_str) gab_nil))) (gmx_new (gnw_n (gn_lst gal_nil)) (gmx_new (gnw_n (gn_lst gal_nil)) gmx_nil))) rfl)
      (gss_cons (gs_for PassesOwn.never rfl (gi_range (by rfl) M.z_range (ge_op or_add od_add (gb_e ge_int) (gb_e (ge_call (ok_law_dip M) (hr.mono (by decide)) (by rfl) M.m_law_dip M.f_law_dip.kp M.b_law_dip (ga_cask 0 (ga_cons (gv 1) ga_nil)))))) (gg_name (j := 6) sc_law_parts.nd rfl (by first | exact .inl rfl | exact .inr rfl))
      (gss_one (gs_appendPop 4 3 (ge_call (ok_law_dip M) (hr.mono (by decide)) (by rfl) M.m_law_dip M.f_law_dip.kp M.b_law_dip (ga_cask 0 (ga_cons (ge_callB cr_len cd_len0 (by rfl) M.z_len (by decide +kernel) (gab_cons (gvb 3) gab_nil)) ga_nil))))))
      (gss_cons (gs_set (i := 7) sc_law_parts.nd rfl (by first | exact .inl rfl | exact .inr rfl) (ge_mtS PySem.F.slot_str_join PySem.F.type_str_join mt_join md_join (gb_e ge_str) (gab_cons (gb_e (ge_n (gn_callB (cr_sorted' rfl hr.units) cn_sorted (by rfl) M.z_sorted (by decide +kernel) (gab_cons (gvb 4) gab_nil)))) gab_nil)))
      (gss_cons (gs_if (gt_cmp (or_eq hr.units) od_eq (gb_e (ge_call (ok_law_dip M) (hr.mono (by decide)) (by rfl) M.m_law_dip M.f_law_dip.kp M.b_law_dip (ga_cask 0 (ga_cons ge_int ga_nil)))) (gb_e ge_int) rfl) (gss_one (gs_setLcN' (i := 5) rfl sc_law_parts.nd rfl rfl rfl (gi_bor (gi_range (by rfl) M.z_range (ge_op op_sub od_sub (gb_e (ge_callB cr_len cd_len0 (by rfl) M.z_len (by decide +kernel) (gab_cons (gvb 7) gab_nil))) (gb_e ge_int)))) (blkOk_by (N := N_law_parts) (sc := (defScope st_law_parts)) (own := [("_law_k", 10)]) (by decide +kernel)) (fun s H C cl fp => (gg_name (j := 10) sc_law_parts.nd rfl (by first | exact .inl rfl | exact .inr rfl))) (fun s H C cl fp => gts_nil) (fun s H C cl fp => (ge_op or_add od_add (gb_e (ge_ix (gvb 7) (gvb 10))) (gb_e (ge_ix (gvb 7) (gb_e (ge_op or_add od_add (gvb 10) (gb_e ge_int))))))))) gss_nil)
      (gss_cons (gs_for PassesOwn.never rfl (gi_range (by rfl) M.z_range (ge_call (ok_law_dip M) (hr.mono (by decide)) (by rfl) M.m_law_dip M.f_law_dip.kp M.b_law_dip (ga_cask 0 (ga_cons (ge_op op_sub od_sub (gb_e (ge_op or_add od_add (gvb 2) (gb_e ge_int))) (gb_e (ge_callB cr_len cd_len0 (by rfl) M.z_len (by decide +kernel) (gab_cons (gvb 5) gab_nil)))) ga_nil)))) (gg_name (j := 6) sc_law_parts.nd rfl (by first | exact .inl rfl | exact .inr rfl))
      (gss_cons (gs_par (i := 8) (j := 9) rfl sc_law_parts.nd rfl rfl (by decide) rfl rfl (gal_cons (ge_call (ok_law_any M) (hr.mono (by decide)) (by rfl) M.m_law_any M.f_law_any.kp M.b_law_any (ga_cask 0 (ga_cons (gv 7) ga_nil))) (gal_cons (ge_call (ok_law_any M) (hr.mono (by decide)) (by rfl) M.m_law_any M.f_law_any.kp M.b_law_any (ga_cask 0 (ga_cons (gv 7) ga_nil))) gal_nil)) rfl)
      (gss_cons (gs_if (gw_pt (gw_and (gt_cmp (or_eq hr.units) od_eq (gvb 8) (gvb 9) rfl) (gw_and1 (gt_cmp or_gt od_gt (gb_e (ge_call (ok_law_dip M) (hr.mono (by decide)) (by rfl) M.m_law_dip M.f_law_dip.kp M.b_law_dip (ga_cask 0 (ga_cons ge_int ga_nil)))) (gb_e ge_int) rfl)))) (gss_one (gs_set (i := 9) sc_law_parts.nd rfl (by first | exact .inl rfl | exact .inr rfl) (ge_call (ok_law_any M) (hr.mono (by decide)) (by rfl) M.m_law_any M.f_law_any.kp M.b_law_any (ga_cask 0 (ga_cons (gv 7) ga_nil))))) gss_nil)
      (gss_one (gs_insert 5 (ge_call (ok_law_dip M) (hr.mono (by decide)) (by rfl) M.m_law_dip M.f_law_dip.kp M.b_law_dip (ga_cask 0 (ga_cons (ge_op or_add od_add (gb_e (ge_callB cr_len cd_len0 (by rfl) M.z_len (by decide +kernel) (gab_cons (gvb 5) gab_nil))) (gb_e ge_int)) ga_nil))) (ge_op or_add od_add (gb_e (ge_callB (cr_min2 rfl) cd_min2 (by rfl) M.z_min (by decide +kernel) (gab_cons (gvb 8) (gab_cons (gvb 9) gab_nil)))) (gb_e (ge_callB (cr_max2 rfl) cd_max2 (by rfl) M.z_max (by decide +kernel) (gab_cons (gvb 8) (gab_cons (gvb 9) gab_nil))))))))))
      (gss_one (gs_ret (ge_tup (gal_cons (gv 7) (gal_cons (ge_callTy cr_tuple cd_tuple (by rfl) M.z_tuple (by decide +kernel) (gab_cons (gvb 5) gab_nil)) gal_nil)))))))))), law_law_parts⟩
-- law_rank depth 1
theorem ok_law_rank (M : Mo K mg g ad fd) : FnOk P w K mg base CX0 1 (ad 33) (fd 33) ["_law_places", "_law_ties"] (spOf K g S_law_rank) :=
  def_ok M.f_law_rank sc_law_rank S_law_rank_len fun cdv A outer s H E hr => ⟨d_law_rank,
    (gss_cons (gs_setW (i := 3) sc_law_rank.nd rfl (by first | exact .inl rfl | exact .inr rfl) (gnw_dictP rfl (by rfl) M.z_dict (gb_e (ge_n (gn_lc' rfl sc_law_rank.nd (gi_srcB (gvb 0)) (blkOk_by (N := N_law_rank) (sc := (defScope st_law_rank)) (own := [("_law_place", 2)]) (by decide +kernel)) (fun s H C cl fp => (gg_name (j := 2) sc_law_rank.nd rfl (by first | exact .inl rfl | exact .inr rfl))) (fun s H C cl fp => gts_nil) (fun s H C cl fp => (ge_tup (gal_cons (gv 2) (gal_cons (gv 2) gal_nil)))))))))
      (gss_cons (gs_for PassesOwn.never rfl (gi_src (gv 1)) (gg_name (j := 4) sc_law_rank.nd rfl (by first | exact .inl rfl | exact .inr rfl))
      (gss_cons (gs_par (i := 5) (j := 6) rfl sc_law_rank.nd rfl rfl (by decide) rfl rfl (gal_cons (ge_callB (cr_min2 rfl) cd_min2 (by rfl) M.z_min (by decide +kernel) (gab_cons (gb_e (ge_dix hr.units (gvb 3) (ge_ix (gvb 4) (gb_e ge_int)))) (gab_cons (gb_e (ge_dix hr.units (gvb 3) (ge_ix (gvb 4) (gb_e ge_int)))) gab_nil))) (gal_cons (ge_callB (cr_max2 rfl) cd_max2 (by rfl) M.z_max (by decide +kernel) (gab_cons (gb_e (ge_dix hr.units (gvb 3) (ge_ix (gvb 4) (gb_e ge_int)))) (gab_cons (gb_e (ge_dix hr.units (gvb 3) (ge_ix (gvb 4) (gb_e ge_int)))) gab_nil))) gal_nil)) rfl)
      (gss_one (gs_for PassesOwn.never rfl (gi_src (gv 0)) (gg_name (j := 2) sc_law_rank.nd rfl (by first | exact .inl rfl | exact .inr rfl))
      (gss_one (gs_if (gt_cmp (or_eq hr.units) od_eq (gb_e (ge_dix hr.units (gvb 3) (gv 2))) (gvb 6) rfl) (gss_one (gs_setD hr.units 3 (gv 5) (gv 2))) gss_nil))))))
      (gss_one (gs_ret (ge_op op_sub od_sub (gb_e (ge_callB cr_len cd_len0 (by rfl) M.z_len (by decide +kernel) (gab_cons (gvb 0) gab_nil))) (gb_e (ge_lenSetS rfl (by rfl) M.z_len (by rfl) M.z_set (gb_e (ge_n (gn_lc' rfl sc_law_rank.nd (gi_srcB (gvb 0)) (blkOk_by (N := N_law_rank) (sc := (defScope st_law_rank)) (own := [("_law_place", 2)]) (by decide +kernel)) (fun s H C cl fp => (gg_name (j := 2) sc_law_rank.nd rfl (by first | exact .inl rfl | exact .inr rfl))) (fun s H C cl fp => gts_nil) (fun s H C cl fp => (ge_dix hr.units (gvb 3) (gv 2))))))))))))), law_law_rank⟩
-- law_lots depth 1
theorem ok_law_lots (M : Mo K mg g ad fd) : FnOk P w K mg base CX0 1 (ad 34) (fd 34) ["_law_many"] (spOf K g S_law_lots) :=
  def_ok M.f_law_lots sc_law_lots S_law_lots_len fun cdv A outer s H E hr => ⟨d_law_lots,
    (gss_cons (gs_set (i := 1) sc_law_lots.nd rfl (by first | exact .inl rfl | exact .inr rfl) (ge_n (gn_lst (gal_cons (ge_tup gal_nil) gal_nil))))
      (gss_cons (gs_for PassesOwn.never rfl (gi_range (by rfl) M.z_range (gv 0)) (gg_name (j := 2) sc_law_lots.nd rfl (by first | exact .inl rfl | exact .inr rfl))
      (gss_one (gs_set (i := 1) sc_law_lots.nd rfl (by first | exact .inl rfl | exact .inr rfl) (ge_op or_add od_add (gvb 1) (gb_e (ge_n (gn_lc' rfl sc_law_lots.nd (gi_srcB (gvb 1)) (blkOk_by (N := N_law_lots) (sc := (defScope st_law_lots)) (own := [("_law_lot", 3)]) (by decide +kernel)) (fun s H C cl fp => (gg_name (j := 3) sc_law_lots.nd rfl (by first | exact .inl rfl | exact .inr rfl))) (fun s H C cl fp => gts_nil) (fun s H C cl fp => (ge_op or_add od_add (gvb 3) (gb_e (ge_tup (gal_cons (gv 2) gal_nil))))))))))))
      (gss_one (gs_ret (ge_n (gn_callB (cr_sort0 hr.units) cn_sorted0 (by rfl) M.z_sorted (by decide +kernel) (gab_cons (gvb 1) gab_nil))))))), law_law_lots⟩
-- law_counted depth 2
theorem ok_law_counted (M : Mo K mg g ad fd) : FnOk P w K mg base CX0 2 (ad 35) (fd 35) ["_law_places", "_law_ties"] (spOf K g S_law_counted) :=
  def_ok M.f_law_counted sc_law_counted S_law_counted_len fun cdv A outer s H E hr => ⟨d_law_counted,
    (gss_cons (gs_set (i := 2) sc_law_counted.nd rfl (by first | exact .inl rfl | exact .inr rfl) (ge_call (ok_law_rank M) (hr.mono (by decide)) (by rfl) M.m_law_rank M.f_law_rank.kp M.b_law_rank (ga_cons (gv 0) (ga_cons (gv 1) ga_nil))))
      (gss_cons (gs_setLcTb (i := 3) rfl sc_law_counted.nd rfl rfl rfl (gi_bor (gi_range (by rfl) M.z_range (ge_op or_add od_add (gvb 2) (gb_e ge_int)))) (blkOk_by (N := N_law_counted) (sc := (defScope st_law_counted)) (own := [("_law_k", 8)]) (by decide +kernel)) (fun s H C cl fp => (gg_name (j := 8) sc_law_counted.nd rfl (by first | exact .inl rfl | exact .inr rfl))) (fun s H C cl fp => (gn_repL (ge_n (gn_lst (gal_cons ge_int gal_nil))) (ge_op or_add od_add (gb_e (ge_op op_sub od_sub (gb_e (ge_callB cr_len cd_len0 (by rfl) M.z_len (by decide +kernel) (gab_cons (gvb 1) gab_nil))) (gvb 2))) (gb_e ge_int)))))
      (gss_cons (gs_for PassesOwn.never rfl (gi_src (ge_call (ok_law_lots M) (hr.mono (by decide)) (by rfl) M.m_law_lots M.f_law_lots.kp M.b_law_lots (ga_cons (ge_callB cr_len cd_len0 (by rfl) M.z_len (by decide +kernel) (gab_cons (gvb 1) gab_nil)) ga_nil))) (gg_name (j := 4) sc_law_counted.nd rfl (by first | exact .inl rfl | exact .inr rfl))
      (gss_cons (gs_set (i := 5) sc_law_counted.nd rfl (by first | exact .inl rfl | exact .inr rfl) (ge_call (ok_law_rank M) (hr.mono (by decide)) (by rfl) M.m_law_rank M.f_law_rank.kp M.b_law_rank (ga_cons (gv 0) (ga_cons (ge_n (gn_lc' rfl sc_law_counted.nd (gi_srcB (gvb 4)) (blkOk_by (N := N_law_counted) (sc := (defScope st_law_counted)) (own := [("_law_k", 8)]) (by decide +kernel)) (fun s H C cl fp => (gg_name (j := 8) sc_law_counted.nd rfl (by first | exact .inl rfl | exact .inr rfl))) (fun s H C cl fp => gts_nil) (fun s H C cl fp => (ge_ix (gvb 1) (gvb 8))))) ga_nil))))
      (gss_cons (gs_par (i := 6) (j := 7) rfl sc_law_counted.nd rfl rfl (by decide) rfl rfl (gal_cons (ge_op op_sub od_sub (gvb 2) (gvb 5)) (gal_cons (ge_op op_sub od_sub (gb_e (ge_callB cr_len cd_len0 (by rfl) M.z_len (by decide +kernel) (gab_cons (gvb 4) gab_nil))) (gvb 5)) gal_nil)) rfl)
      (gss_one (gs_setT 3 (ge_op or_add od_add (gb_e (ge_ixT 3 (gv 6) (gv 7))) (gb_e ge_int)) (gv 6) (gv 7))))))
      (gss_one (gs_freezeT 3 (gs_ret (ge_callTy cr_tuple cd_tuple (by rfl) M.z_tuple (by decide +kernel) (gab_cons (gb_e (ge_n (gn_lc' rfl sc_law_counted.nd (gi_srcB (gvb 3)) (blkOk_by (N := N_law_counted) (sc := (defScope st_law_counted)) (own := [("_law_row", 9)]) (by decide +kernel)) (fun s H C cl fp => (gg_name (j := 9) sc_law_counted.nd rfl (by first | exact .inl rfl | exact .inr rfl))) (fun s H C cl fp => gts_nil) (fun s H C cl fp => (ge_callTy cr_tuple cd_tuple (by rfl) M.z_tuple (by decide +kernel) (gab_cons (gvb 9) gab_nil)))))) gab_nil)))))))), law_law_counted⟩
-- law_power depth 1
theorem ok_law_power (M : Mo K mg g ad fd) : FnOk P w K mg base CX0 1 (ad 36) (fd 36) ["_law_number", "_law_many"] (spOf K g S_law_power) :=
  def_ok M.f_law_power sc_law_power S_law_power_len fun cdv A outer s H E hr => ⟨d_law_power,
    (gss_cons (gs_set (i := 2) sc_law_power.nd rfl (by first | exact .inl rfl | exact .inr rfl) ge_int)
      (gss_cons (gs_for PassesOwn.never rfl (gi_range (by rfl) M.z_range (gv 1)) (gg_name (j := 3) sc_law_power.nd rfl (by first | exact .inl rfl | exact .inr rfl))
      (gss_one (gs_set (i := 2) sc_law_power.nd rfl (by first | exact .inl rfl | exact .inr rfl) (ge_op op_mulW od_mulW (gvb 2) (gvb 0)))))
      (gss_one (gs_ret (gv 2))))), law_law_power⟩
-- law_sum depth 2
theorem ok_law_sum (M : Mo K mg g ad fd) : FnOk P w K mg base CX0 2 (ad 37) (fd 37) ["_law_rows", "_law_left_x", "_law_right_y"] (spOf K g S_law_sum) :=
  def_ok M.f_law_sum sc_law_sum S_law_sum_len fun cdv A outer s H E hr => ⟨d_law_sum,
    (gss_cons (gs_mix3 (i := 3) (j := 4) (l := 5) rfl sc_law_sum.nd rfl rfl rfl (by decide) (by decide) (by decide) rfl rfl rfl (gmx_val (ge_op op_sub od_sub (gb_e (ge_callB cr_len cd_len0 (by rfl) M.z_len (by decide +kernel) (gab_cons (gvb 0) gab_nil))) (gb_e ge_int)) (gmx_val (ge_op op_sub od_sub (gb_e (ge_callB cr_len cd_len0 (by rfl) M.z_len (by decide +kernel) (gab_cons (gb_e (ge_ix (gvb 0) (gb_e ge_int))) gab_nil))) (gb_e ge_int)) (gmx_val ge_int gmx_nil))) rfl)
      (gss_cons (gs_for PassesOwn.never rfl (gi_range (by rfl) M.z_range (ge_op or_add od_add (gvb 3) (gb_e ge_int))) (gg_name (j := 6) sc_law_sum.nd rfl (by first | exact .inl rfl | exact .inr rfl))
      (gss_one (gs_for PassesOwn.never rfl (gi_range (by rfl) M.z_range (ge_op or_add od_add (gvb 4) (gb_e ge_int))) (gg_name (j := 7) sc_law_sum.nd rfl (by first | exact .inl rfl | exact .inr rfl))
      (gss_cons (gs_set (i := 8) sc_law_sum.nd rfl (by first | exact .inl rfl | exact .inr rfl) (ge_op op_mulW od_mulW (gb_e (ge_call (ok_law_power M) (hr.mono (by decide)) (by rfl) M.m_law_power M.f_law_power.kp M.b_law_power (ga_cons (ge_ix (gvb 1) (gb_e ge_int)) (ga_cons (gv 6) ga_nil)))) (gb_e (ge_call (ok_law_power M) (hr.mono (by decide)) (by rfl) M.m_law_power M.f_law_power.kp M.b_law_power (ga_cons (ge_ix (gvb 1) (gb_e ge_int)) (ga_cons (ge_op op_sub od_sub (gvb 3) (gvb 6)) ga_nil))))))
      (gss_one (gs_set (i := 5) sc_law_sum.nd rfl (by first | exact .inl rfl | exact .inr rfl) (ge_op or_add od_add (gvb 5) (gb_e (ge_op op_mulW od_mulW (gb_e (ge_op op_mulW od_mulW (gb_e (ge_op op_mulW od_mulW (gb_e (ge_ix (gb_e (ge_ix (gvb 0) (gvb 6))) (gvb 7))) (gvb 8))) (gb_e (ge_call (ok_law_power M) (hr.mono (by decide)) (by rfl) M.m_law_power M.f_law_power.kp M.b_law_power (ga_cons (ge_ix (gvb 2) (gb_e ge_int)) (ga_cons (gv 7) ga_nil)))))) (gb_e (ge_call (ok_law_power M) (hr.mono (by decide)) (by rfl) M.m_law_power M.f_law_power.kp M.b_law_power (ga_cons (ge_ix (gvb 2) (gb_e ge_int)) (ga_cons (ge_op op_sub od_sub (gvb 4) (gvb 7)) ga_nil)))))))))))))
      (gss_one (gs_ret (ge_tup (gal_cons (gv 5) (gal_cons (ge_op op_mulW od_mulW (gb_e (ge_call (ok_law_power M) (hr.mono (by decide)) (by rfl) M.m_law_power M.f_law_power.kp M.b_law_power (ga_cons (ge_ix (gvb 1) (gb_e ge_int)) (ga_cons (gv 3) ga_nil)))) (gb_e (ge_call (ok_law_power M) (hr.mono (by decide)) (by rfl) M.m_law_power M.f_law_power.kp M.b_law_power (ga_cons (ge_ix (gvb 2) (gb_e ge_int)) (ga_cons (gv 4) ga_nil))))) gal_nil))))))), law_law_sum⟩
-- law_common depth 1
theorem ok_law_common (M : Mo K mg g ad fd) : FnOk P w K mg base CX0 1 (ad 38) (fd 38) ["_law_one", "_law_other"] (spOf K g S_law_common) :=
  def_ok M.f_law_common sc_law_common S_law_common_len fun cdv A outer s H E hr => ⟨d_law_common,
    (gss_cons (gs_par (i := 0) (j := 1) rfl sc_law_common.nd rfl rfl (by decide) rfl rfl (gal_cons (ge_callB call_abs cd_abs (by rfl) M.z_abs (by decide +kernel) (gab_cons (gvb 0) gab_nil)) (gal_cons (ge_callB call_abs cd_abs (by rfl) M.z_abs (by decide +kernel) (gab_cons (gvb 1) gab_nil)) gal_nil)) rfl)
      (gss_cons (gs_for PassesOwn.never rfl (gi_range (by rfl) M.z_range ge_int) (gg_name (j := 2) sc_law_common.nd rfl (by first | exact .inl rfl | exact .inr rfl))
      (gss_cons (gs_if (gt_cmp (or_eq hr.units) od_eq (gvb 1) (gb_e ge_int) rfl) (gss_one gs_break) gss_nil)
      (gss_one (gs_par (i := 0) (j := 1) rfl sc_law_common.nd rfl rfl (by decide) rfl rfl (gal_cons (gv 1) (gal_cons (ge_op op_mod od_mod (gb_e (ge_callTy call_int1 cd_int (by rfl) M.z_int (by decide +kernel) (gab_cons (gvb 0) gab_nil))) (gvb 1)) gal_nil)) rfl))))
      (gss_one (gs_ret (gv 0))))), law_law_common⟩
-- law_fraction depth 3
theorem ok_law_fraction (M : Mo K mg g ad fd) : FnOk P w K mg base CX0 3 (ad 39) (fd 39) ["_law_pot_here"] (spOf K g S_law_fraction) :=
  def_ok M.f_law_fraction sc_law_fraction S_law_fraction_len fun cdv A outer s H E hr => ⟨d_law_fraction,
    (gss_cons (gs_par (i := 1) (j := 2) rfl sc_law_fraction.nd rfl rfl (by decide) rfl rfl (gal_cons (ge_call (ok_law_dip M) (hr.mono (by decide)) (by rfl) M.m_law_dip M.f_law_dip.kp M.b_law_dip (ga_cask 0 (ga_cons ge_int ga_nil))) (gal_cons (ge_ix (gb_e (ge_n (gn_lst (gal_cons ge_int (gal_cons ge_negI gal_nil))))) (gb_e (ge_call (ok_law_dip M) (hr.mono (by decide)) (by rfl) M.m_law_dip M.f_law_dip.kp M.b_law_dip (ga_cask 0 (ga_cons ge_int ga_nil))))) gal_nil)) rfl)
      (gss_cons (gs_if (gt_cmp or_lt od_lt (gvb 1) (gb_e ge_int) rfl) (gss_one (gs_ret (ge_tup (gal_cons (ge_call (ok_law_any M) (hr.mono (by decide)) (by rfl) M.m_law_any M.f_law_any.kp M.b_law_any (ga_cask 0 (ga_cons (ge_n (gn_lst (gal_cons ge_int (gal_cons ge_int (gal_cons ge_int (gal_cons ge_negI (gal_cons ge_int (gal_cons ge_negI gal_nil)))))))) ga_nil))) (gal_cons ge_int gal_nil))))) gss_nil)
      (gss_cons (gs_par (i := 3) (j := 4) rfl sc_law_fraction.nd rfl rfl (by decide) rfl rfl (gal_cons (ge_call (ok_law_dip M) (hr.mono (by decide)) (by rfl) M.m_law_dip M.f_law_dip.kp M.b_law_dip (ga_cask 0 (ga_cons (ge_ix (gb_e (ge_n (gn_lst (gal_cons ge_int (gal_cons (ge_op or_add od_add (gb_e (ge_op op_pow od_pow (gb_e ge_int) (gb_e ge_int))) (gb_e ge_int)) gal_nil))))) (gb_e (ge_op op_sub od_sub (gvb 1) (gb_e ge_int)))) ga_nil))) (gal_cons (ge_op or_add od_add (gb_e ge_int) (gb_e (ge_call (ok_law_dip M) (hr.mono (by decide)) (by rfl) M.m_law_dip M.f_law_dip.kp M.b_law_dip (ga_cask 0 (ga_cons (ge_ix (gb_e (ge_n (gn_lst (gal_cons ge_int (gal_cons ge_int gal_nil))))) (gb_e (ge_op op_sub od_sub (gvb 1) (gb_e ge_int)))) ga_nil))))) gal_nil)) rfl)
      (gss_cons (gs_set (i := 5) sc_law_fraction.nd rfl (by first | exact .inl rfl | exact .inr rfl) (ge_call (ok_law_common M) (hr.mono (by decide)) (by rfl) M.m_law_common M.f_law_common.kp M.b_law_common (ga_cons (gv 3) (ga_cons (gv 4) ga_nil))))
      (gss_one (gs_ret (ge_tup (gal_cons (ge_op or_mul od_mul (gvb 2) (gb_e (ge_op op_fdiv od_fdiv (gvb 3) (gvb 5)))) (gal_cons (ge_op op_fdiv od_fdiv (gvb 4) (gvb 5)) gal_nil))))))))), law_law_fraction⟩
-- law_table_right depth 3
theorem ok_law_table_right (M : Mo K mg g ad fd) : FnOk P w K mg base CX0 3 (ad 40) (fd 40) ["_law_told", "_law_counts"] (spOf K g S_law_table_right) :=
  def_ok M.f_law_table_right sc_law_table_right S_law_table_right_len fun cdv A outer s H E hr => ⟨d_law_table_right,
    (gss_cons (gs_if (gw_pt (gw_or (gt_not (gt_val (ge_isi M.wty (.ty "tuple") (pe_bltn (by rfl) M.z_tuple rfl rfl) (by intro x b h; cases x <;> simp only [isTupD] at h <;> first | (cases h; exact kit_ty (by decide +kernel)) | cases h) (by rfl) M.z_isinstance (gvb 0)))) (gw_or1 (gt_cmp (or_ne hr.units) od_ne (gb_e (ge_n (gn_lc' rfl sc_law_table_right.nd (gi_srcB (gvb 0)) (blkOk_by (N := N_law_table_right) (sc := (defScope st_law_table_right)) (own := [("_law_row", 2)]) (by decide +kernel)) (fun s H C cl fp => (gg_name (j := 2) sc_law_table_right.nd rfl (by first | exact .inl rfl | exact .inr rfl))) (fun s H C cl fp => gts_nil) (fun s H C cl fp => (ge_callB cr_len cd_len0 (by rfl) M.z_len (by decide +kernel) (gab_cons (gvb 2) gab_nil)))))) (gb_e (ge_n (gn_lc' rfl sc_law_table_right.nd (gi_srcB (gvb 1)) (blkOk_by (N := N_law_table_right) (sc := (defScope st_law_table_right)) (own := [("_law_row", 2)]) (by decide +kernel)) (fun s H C cl fp => (gg_name (j := 2) sc_law_table_right.nd rfl (by first | exact .inl rfl | exact .inr rfl))) (fun s H C cl fp => gts_nil) (fun s H C cl fp => (ge_callB cr_len cd_len0 (by rfl) M.z_len (by decide +kernel) (gab_cons (gvb 2) gab_nil)))))) rfl)))) (gss_one (gs_ret ge_bl)) gss_nil)
      (gss_cons (gs_for PassesOwn.never rfl (gi_src (gv 0)) (gg_name (j := 2) sc_law_table_right.nd rfl (by first | exact .inl rfl | exact .inr rfl))
      (gss_cons (gs_if (gw_pt (gw_or (gt_not (gt_val (ge_isi M.wty (.ty "tuple") (pe_bltn (by rfl) M.z_tuple rfl rfl) (by intro x b h; cases x <;> simp only [isTupD] at h <;> first | (cases h; exact kit_ty (by decide +kernel)) | cases h) (by rfl) M.z_isinstance (gvb 2)))) (gw_or1 (gt_not (gt_val (ge_callB (cr_all rfl) cd_all (by rfl) M.z_all (by decide +kernel) (gab_cons (gb_e (ge_n (gn_lc' rfl sc_law_table_right.nd (gi_srcB (gvb 2)) (blkOk_by (N := N_law_table_right) (sc := (defScope st_law_table_right)) (own := [("_law_each", 5)]) (by decide +kernel)) (fun s H C cl fp => (gg_name (j := 5) sc_law_table_right.nd rfl (by first | exact .inl rfl | exact .inr rfl))) (fun s H C cl fp => gts_nil) (fun s H C cl fp => (ge_and (ge_isi M.wty (.ty "int") (pe_bltn (by rfl) M.z_int rfl rfl) (by intro x b h; cases x <;> simp only [isIntD] at h <;> first | (cases h; exact kit_ty (by decide +kernel)) | cases h) (by rfl) M.z_isinstance (gvb 5)) (ge_one (ge_cmp or_ge od_ge (gvb 5) (gb_e ge_int) rfl))))))) gab_nil))))))) (gss_one (gs_ret ge_bl)) gss_nil)
      (gss_one (gs_if (gt_cmp or_in od_in (gb_e ge_bl) (gb_e (ge_n (gn_lc' rfl sc_law_table_right.nd (gi_srcB (gvb 2)) (blkOk_by (N := N_law_table_right) (sc := (defScope st_law_table_right)) (own := [("_law_each", 5)]) (by decide +kernel)) (fun s H C cl fp => (gg_name (j := 5) sc_law_table_right.nd rfl (by first | exact .inl rfl | exact .inr rfl))) (fun s H C cl fp => gts_nil) (fun s H C cl fp => (ge_isi M.wty (.ty "bool") (pe_bltn (by rfl) M.z_bool rfl rfl) (by intro x b h; cases x <;> simp only [isBoolD] at h <;> first | (cases h; exact kit_ty (by decide +kernel)) | cases h) (by rfl) M.z_isinstance (gvb 5)))))) rfl) (gss_one (gs_ret ge_bl)) gss_nil))))
      (gss_cons (gs_for PassesOwn.never rfl (gi_range (by rfl) M.z_range (ge_callB cr_len cd_len0 (by rfl) M.z_len (by decide +kernel) (gab_cons (gvb 1) gab_nil))) (gg_name (j := 3) sc_law_table_right.nd rfl (by first | exact .inl rfl | exact .inr rfl))
      (gss_one (gs_for PassesOwn.never rfl (gi_range (by rfl) M.z_range (ge_callB cr_len cd_len0 (by rfl) M.z_len (by decide +kernel) (gab_cons (gb_e (ge_ix (gvb 1) (gb_e ge_int))) gab_nil))) (gg_name (j := 4) sc_law_table_right.nd rfl (by first | exact .inl rfl | exact .inr rfl))
      (gss_one (gs_if (gt_cmp (or_ne hr.units) od_ne (gb_e (ge_call (ok_law_sum M) (hr.mono (by decide)) (by rfl) M.m_law_sum M.f_law_sum.kp M.b_law_sum (ga_cons (gv 0) (ga_cons (ge_tup (gal_cons (ge_op or_add od_add (gvb 3) (gb_e ge_int)) (gal_cons ge_int gal_nil))) (ga_cons (ge_tup (gal_cons (ge_op or_add od_add (gvb 4) (gb_e ge_int)) (gal_cons ge_int gal_nil))) ga_nil))))) (gb_e (ge_call (ok_law_sum M) (hr.mono (by decide)) (by rfl) M.m_law_sum M.f_law_sum.kp M.b_law_sum (ga_cons (gv 1) (ga_cons (ge_tup (gal_cons (gv 3) (gal_cons ge_int gal_nil))) (ga_cons (ge_tup (gal_cons (gv 4) (gal_cons ge_int gal_nil))) ga_nil))))) rfl) (gss_one (gs_ret ge_bl)) gss_nil)))))
      (gss_one (gs_ret ge_bl))))), law_law_table_right⟩
-- law_right depth 9
theorem ok_law_right (M : Mo K mg g ad fd) : FnG P w K mg base 9 (ad 41) (fd 41) ["_law_pot_here"] (spOf K g S_law_right) :=
  def_okG M.f_law_right sc_law_right S_law_right_len fun cdv A outer s H E hr calm => ⟨d_law_right,
    (gss_cons (gs_asg (ge_call (ok_law_parts M) (hr.mono (by decide)) (by rfl) M.m_law_parts M.f_law_parts.kp M.b_law_parts (ga_cask 0 (ga_cons ge_int (ga_cons ge_int ga_nil)))) (gg_tupK K rfl (ggs_cons (gg_name (j := 1) sc_law_right.nd rfl (by first | exact .inl rfl | exact .inr rfl)) (ggs_cons (gg_name (j := 2) sc_law_right.nd rfl (by first | exact .inl rfl | exact .inr rfl)) ggs_nil))))
      (gss_cons (gs_par (i := 3) (j := 4) rfl sc_law_right.nd rfl rfl (by decide) rfl rfl (gal_cons (ge_make M (hr.mono (by decide)) (by rfl) (ga_cons (gv 1) (ga_cons (gv 2) ga_nil))) (gal_cons (ge_call (ok_law_counted M) (hr.mono (by decide)) (by rfl) M.m_law_counted M.f_law_counted.kp M.b_law_counted (ga_cons (gv 1) (ga_cons (gv 2) ga_nil))) gal_nil)) rfl)
      (gss_cons (gs_if (gw_pt (gw_or (gt_cmp (or_ne hr.units) od_ne (gb_e (ge_callB (cr_repr calm hr.units) cd_repr (by rfl) M.z_repr (by decide +kernel) (gab_cons (gb_e (ge_call (ok_lot_counts M) (hr.mono (by decide)) (by rfl) M.m_lot_counts M.f_lot_counts.kp M.b_lot_counts (ga_cons (gv 3) ga_nil))) gab_nil))) (gb_e (ge_callB (cr_repr calm hr.units) cd_repr (by rfl) M.z_repr (by decide +kernel) (gab_cons (gvb 4) gab_nil))) rfl) (gw_or1 (gt_cmp (or_ne hr.units) od_ne (gb_e (ge_callK (ok_lot_counts M) (hr.mono (by decide)) (by rfl) M.m_lot_counts M.f_lot_counts.kp M.kw_lot_counts_0 pm0_rel rfl (gk_cons (gv 3) (mono_var _) gk_nil) rfl)) (gvb 4) rfl)))) (gss_one (gs_ret ge_bl)) gss_nil)
      (gss_cons (gs_if (gw_pt (gw_or (gt_not (gt_val (ge_call (ok_law_table_right M) (hr.mono (by decide)) (by rfl) M.m_law_table_right M.f_law_table_right.kp M.b_law_table_right (ga_cons (ge_call (ok_table M) (hr.mono (by decide)) (by rfl) M.m_table M.f_table.kp M.b_table (ga_cons (gv 3) ga_nil)) (ga_cons (gv 4) ga_nil))))) (gw_or1 (gt_cmp (or_ne hr.units) od_ne (gb_e (ge_callK (ok_table M) (hr.mono (by decide)) (by rfl) M.m_table M.f_table.kp M.kw_table_0 pm0_rel rfl (gk_cons (gv 3) (mono_var _) gk_nil) rfl)) (gb_e (ge_call (ok_table M) (hr.mono (by decide)) (by rfl) M.m_table M.f_table.kp M.b_table (ga_cons (gv 3) ga_nil))) rfl)))) (gss_one (gs_ret ge_bl)) gss_nil)
      (gss_cons (gs_for PassesOwn.never rfl (gi_range (by rfl) M.z_range ge_int) (gg_name (j := 5) sc_law_right.nd rfl (by first | exact .inl rfl | exact .inr rfl))
      (gss_cons (gs_par (i := 6) (j := 7) rfl sc_law_right.nd rfl rfl (by decide) rfl rfl (gal_cons (ge_call (ok_law_fraction M) (hr.mono (by decide)) (by rfl) M.m_law_fraction M.f_law_fraction.kp M.b_law_fraction (ga_cask 0 ga_nil)) (gal_cons (ge_call (ok_law_fraction M) (hr.mono (by decide)) (by rfl) M.m_law_fraction M.f_law_fraction.kp M.b_law_fraction (ga_cask 0 ga_nil)) gal_nil)) rfl)
      (gss_cons (gs_asg (ge_call (ok_law_sum M) (hr.mono (by decide)) (by rfl) M.m_law_sum M.f_law_sum.kp M.b_law_sum (ga_cons (gv 4) (ga_cons (ge_tup (gal_cons (ge_op op_sub od_sub (gb_e (ge_ix (gvb 6) (gb_e ge_int))) (gb_e (ge_ix (gvb 6) (gb_e ge_int)))) (gal_cons (ge_ix (gvb 6) (gb_e ge_int)) gal_nil))) (ga_cons (ge_tup (gal_cons (ge_op op_sub od_sub (gb_e (ge_ix (gvb 7) (gb_e ge_int))) (gb_e (ge_ix (gvb 7) (gb_e ge_int)))) (gal_cons (ge_ix (gvb 7) (gb_e ge_int)) gal_nil))) ga_nil)))) (gg_tupK K rfl (ggs_cons (gg_name (j := 8) sc_law_right.nd rfl (by first | exact .inl rfl | exact .inr rfl)) (ggs_cons (gg_name (j := 9) sc_law_right.nd rfl (by first | exact .inl rfl | exact .inr rfl)) ggs_nil))))
      (gss_cons (gs_set (i := 10) sc_law_right.nd rfl (by first | exact .inl rfl | exact .inr rfl) (ge_call (ok_law_common M) (hr.mono (by decide)) (by rfl) M.m_law_common M.f_law_common.kp M.b_law_common (ga_cons (gv 8) (ga_cons (gv 9) ga_nil))))
      (gss_cons (gs_set (i := 11) sc_law_right.nd rfl (by first | exact .inl rfl | exact .inr rfl) (ge_tup (gal_cons (ge_op op_fdivW od_fdivW (gvb 8) (gvb 10)) (gal_cons (ge_op op_fdivW od_fdivW (gvb 9) (gvb 10)) gal_nil))))
      (gss_one (gs_if (gw_pt (gw_or (gt_cmp (or_ne hr.units) od_ne (gb_e (ge_callB (cr_repr calm hr.units) cd_repr (by rfl) M.z_repr (by decide +kernel) (gab_cons (gb_e (ge_call (ok_value M) (hr.mono (by decide)) (by rfl) M.m_value M.f_value.kp M.b_value (ga_cons (gv 3) (ga_cons (gv 6) (ga_cons (gv 7) ga_nil))))) gab_nil))) (gb_e (ge_callB (cr_repr calm hr.units) cd_repr (by rfl) M.z_repr (by decide +kernel) (gab_cons (gvb 11) gab_nil))) rfl) (gw_or1 (gt_cmp (or_ne hr.units) od_ne (gb_e (ge_callK (ok_value M) (hr.mono (by decide)) (by rfl) M.m_value M.f_value.kp M.kw_value_120 pm120_rel rfl (gk_cons (gv 7) (mono_var _) (gk_cons (gv 3) (mono_var _) (gk_cons (gv 6) (mono_var _) gk_nil))) rfl)) (gvb 11) rfl)))) (gss_one (gs_ret ge_bl)) gss_nil)))))))
      (gss_one (gs_ret ge_bl))))))), law_law_right⟩
end K15
namespace K15
open PySem L2 G T
variable {P : Program} {w : World} {K : PySem.W.Frag} {mg : Str → Option Value} {base : Heap} {g : Gp} {ad : Nat → Addr} {fd : Nat → FuncData}
def spPot (K : PySem.W.Frag) : Sp := fun vs H Q _ => ∃ (a : Addr) (ns : List Int) (k : Nat), vs = [.ref a, .int (k : Nat)] ∧ SqL K H a (ns.map V.int) ∧ k < 1000 ∧ ns.length ≤ 63 ∧
  ∀ p H' (f s t : Int), Ex H H' → H p = none → H' p = some (.lst [.int f, .int s, .int t]) → 0 ≤ f → 0 ≤ s → s < 2147483629 → 0 ≤ t → t < 2147480009 → Q (.ref p) H'
theorem ok_pot (M : Mo K mg g ad fd) : FnOk P w K mg base CX0 1 (ad 29) (fd 29) ["_law_script", "_law_k"] (spPot K) := by
  refine M.f_law_pot.ok sc_law_pot (fun vs H Q E h => ?_) (fun cdv A outer s H vs Q E hr h => ?_)
  · obtain ⟨a, ns, k, rfl, _⟩ := h
    rfl
  · obtain ⟨a, ns, k, rfl, hS, hk, hlen, q⟩ := h
    -- the end, from any cell and any mixed number
    obtain ⟨t3, p3, fin'⟩ : ∃ t, PSs (cxOf CX0 P w K mg base N_law_pot "_law_pot" (defScope st_law_pot) (ad 29) cdv A outer s H E).nox ((defBody st_law_pot).drop 3) t ∧ ∀ (H1 : Hp) (cell one : Int) (y4 : Option V), Ex H H1 → 0 ≤ one → one < 2147483629 → t { nx := fun _ H' => Q .non H', rt := Q } [some (.ref a), some (.int (k : Nat)), some (.int cell), some (.int one), y4] H1 := by
      refine ⟨_, pss_one (ps_ret (pe_lst (pa_cons (pe_ifExp (PW.pt (pw_or (pt_cmpR op_lt (pv 2) pe_int (nomark _)) (pw_or1 (pt_cmpR op_ge (pv 2) (pe_op op_pow pe_int pe_int) (nomark _))))) (pe_callB call_abs (by rfl) M.z_abs (by decide +kernel) (pa_cons (pv 2) pa_nil)) pe_int) (pa_cons (pv 3) (pa_cons (pe_op op_mod (pe_callTy call_int1 (by rfl) M.z_int (by decide +kernel) (pa_cons (pe_op op_add (pe_op op_add (pe_op op_mul (pv 3) pe_int) (pe_op op_mul pe_int (pv 1))) pe_int) pa_nil)) pe_int) pa_nil))))), fun H1 cell one y4 e1 h0 h1 => ?_⟩
      have hone : (-(2 ^ 64) < one ∧ one < 2 ^ 64) := by omega
      have hkk : (-(2 ^ 64) < ((k : Nat) : Int) ∧ ((k : Nat) : Int) < 2 ^ 64) := by omega
      have ret : ∀ f : Int, 0 ≤ f → (tCons (tVar 3) (tCons (tOp (rI (fun _ j => 0 < j) fun i j => .int (i % j)) (tCB (fun xs H Q => (∃ i, xs = [.int i] ∧ Q (.int i) H) ∨ ∃ k, xs = [.bl k] ∧ Q (.int (if k then 1 else 0)) H) (tCons (tOp (rI0 fun i j => .int (i + j)) (tOp (rI0 fun i j => .int (i + j)) (tOp (rI CMul fun i j => .int (i * j)) (tVar 3) (tC (.int 69697))) (tOp (rI CMul fun i j => .int (i * j)) (tC (.int 7741)) (tVar 1))) (tC (.int 5))) tNil)) (tC (.int 2147480009))) tNil)) [some (.ref a), some (.int (k : Nat)), some (.int cell), some (.int one), y4] H1 fun vs H2 => ((V.int f :: vs).length ≤ sizeLine ∧ ∀ p, H2 p = none → Q (.ref p) (upd H2 p (.lst (V.int f :: vs)))) := by
        intro f hf
        refine ⟨_, rfl, _, rfl, one, 69697, rfl, rfl, .inl hone, _, rfl, 7741, (k : Nat), rfl, rfl, .inr hkk, _, _, rfl, rfl, _, 5, rfl, rfl, .inl ⟨_, rfl, _, 2147480009, rfl, rfl, (show (0 : Int) < 2147480009 by decide), (ll (show 3 ≤ LL by decide)), fun p hp => ?_⟩⟩
        have hp0 : H p = none := ex_none e1 hp
        exact q p _ f one _ (e1.trans (Evl.Ex.new hp)) hp0 upd_same hf h0 h1 (Int.emod_nonneg _ (by decide)) (Int.emod_lt_of_pos _ (by decide))
      refine ⟨_, rfl, cell, 0, rfl, rfl, _, rfl, ?_⟩
      by_cases h2 : cell < 0
      · rw [decide_eq_true h2]
        refine ⟨_, rfl, cell, rfl, ?_⟩
        rw [if_pos h2]
        exact ret _ (by omega)
      · rw [decide_eq_false h2]
        refine ⟨_, rfl, 10, 16, rfl, rfl, ⟨by decide, by decide, by decide⟩, cell, _, rfl, rfl, _, rfl, ?_⟩
        by_cases h3 : ((10 : Int) ^ (16 : Int).toNat) ≤ cell
        · rw [decide_eq_true h3]
          refine ⟨_, rfl, cell, rfl, ?_⟩
          rw [if_neg h2]
          exact ret _ (by omega)
        · rw [decide_eq_false h3]
          exact ret _ (by omega)
    obtain ⟨t2, p2, two⟩ : ∃ t, PSs (cxOf CX0 P w K mg base N_law_pot "_law_pot" (defScope st_law_pot) (ad 29) cdv A outer s H E).nox ((defBody st_law_pot).drop 1) t ∧ ∀ (cell : Int), t { nx := fun _ H' => Q .non H', rt := Q } [some (.ref a), some (.int (k : Nat)), some (.int cell), none, none] H := by
      refine ⟨_, pss_cons (ps_set (i := 3) sc_law_pot.nd rfl (.inl rfl) (pe_op op_mod (pe_callTy call_int1 (by rfl) M.z_int (by decide +kernel) (pa_cons (pv 2) pa_nil)) pe_int))
        (pss_cons (ps_for PassesOwn.never rfl (pi_list (pe_slice sl_list (pv 0) po_none (po_some pe_int))) (pg_name (i := 4) sc_law_pot.nd rfl (.inl rfl))
          (pss_one (ps_set (i := 3) sc_law_pot.nd rfl (.inl rfl) (pe_op op_mod (pe_callTy call_int1 (by rfl) M.z_int (by decide +kernel) (pa_cons (pe_op op_add (pe_op op_add (pe_op op_mul (pv 3) pe_int) (pe_op op_mod (pe_callTy call_int1 (by rfl) M.z_int (by decide +kernel) (pa_cons (pv 4) pa_nil)) pe_int)) pe_int) pa_nil)) pe_int)))) p3), fun cell => ?_⟩
      refine ⟨_, rfl, .inl ⟨cell, rfl, cell, 2147483629, rfl, rfl, (show (0 : Int) < 2147483629 by decide), ?_⟩⟩
      refine ⟨_, rfl, 6, rfl, a, ns.map V.int, rfl, hS, fun p hp => ?_⟩
      have e1 : Ex H (upd H p (.lst (cutV (ns.map V.int) none (some 6)))) := Evl.Ex.new hp
      have hP : SqL K (upd H p (.lst (cutV (ns.map V.int) none (some 6)))) p (cutV (ns.map V.int) none (some 6)) := SqL.of upd_same
      obtain ⟨ms, hms⟩ : ∃ ms : List Int, cutV (ns.map V.int) none (some 6) = ms.map V.int := ⟨(ns.drop (HT.sIx (ns.map V.int).length 0 none)).take (HT.sIx (ns.map V.int).length (ns.map V.int).length (some 6) - HT.sIx (ns.map V.int).length 0 none), by
        unfold cutV; rw [← List.map_drop, ← List.map_take]⟩
      rw [hms] at hP e1 ⊢
      generalize upd H p (.lst (ms.map V.int)) = H1 at *
      refine ⟨p, rfl, ⟨_, hP⟩, fun i m σ H3 => ∃ (one : Int) (y4 : Option V), σ = [some (.ref a), some (.int (k : Nat)), some (.int cell), some (.int one), y4] ∧ 0 ≤ one ∧ one < 2147483629 ∧ i + m = ms.length ∧ H3 = H1, ⟨ms.length, _, none, rfl, Int.emod_nonneg _ (by decide), Int.emod_lt_of_pos _ (by decide), by omega, rfl⟩, fun i m σ H3 hW => ?_⟩
      obtain ⟨one, y4, rfl, o0, o1, em, rfl⟩ := hW
      by_cases hi : i < ms.length
      · have gi : (ms.map V.int)[i]? = some (.int ms[i]) := by rw [List.getElem?_map, List.getElem?_eq_getElem hi]; rfl
        refine .inr ⟨⟨_, _, hP, gi⟩, fun σ' H' => ∃ (one : Int) (y4 : Option V), σ' = [some (.ref a), some (.int (k : Nat)), some (.int cell), some (.int one), y4] ∧ 0 ≤ one ∧ one < 2147483629 ∧ H' = H3, fun σ' H' hN => ?_, fun v H' hy => ?_⟩
        · obtain ⟨c3, z3, e1, e2, e3, e4⟩ := hN
          exact ⟨m - 1, by omega, c3, z3, e1, e2, e3, by omega, e4⟩
        · obtain ⟨rfl, fv⟩ := hy
          have ev : v = .int ms[i] := Option.some.inj ((fv _ hP).symm.trans gi)
          subst ev
          have ho : (-(2 ^ 64) < one ∧ one < 2 ^ 64) := by omega
          refine ⟨_, rfl, one, 48611, rfl, rfl, .inl ho, _, rfl, .inl ⟨ms[i], rfl, ms[i], 2147480009, rfl, rfl, (show (0 : Int) < 2147480009 by decide), _, _, rfl, rfl, _, 13, rfl, rfl, .inl ⟨_, rfl, _, 2147483629, rfl, rfl, (show (0 : Int) < 2147483629 by decide), _, _, rfl, Int.emod_nonneg _ (by decide), Int.emod_lt_of_pos _ (by decide), rfl⟩⟩⟩
      · refine .inl ⟨⟨_, hP, ?_⟩, fin' H3 cell one y4 e1 o0 o1⟩
        rw [List.length_map]; omega
    refine ⟨_, pss_cons (ps_set (i := 2) sc_law_pot.nd rfl (.inl rfl) (pe_ifExp (pt_cmpR op_lt (pv 1) (pe_callB call_len_seq (by rfl) M.z_len PySem.boot_len (pa_cons (pv 0) pa_nil)) (nomark _)) (pe_callTy call_int1 (by rfl) M.z_int (by decide +kernel) (pa_cons (pe_ix ix_list (pv 0) (pv 1) (fun _ _ => rfl)) pa_nil)) (pe_op op_add (pe_op op_mul pe_int (pv 1)) pe_int))) p2, ?_⟩
    refine ⟨_, rfl, _, rfl, a, ns.map V.int, rfl, .inl hS, (k : Nat), _, rfl, rfl, _, rfl, ?_⟩
    by_cases hlt : ((k : Nat) : Int) < ((ns.map V.int).length : Nat)
    · rw [decide_eq_true hlt]
      rw [List.length_map] at hlt
      have hk' : k < ns.length := by omega
      exact ⟨_, rfl, _, rfl, a, ns.map V.int, (k : Nat), .int ns[k], rfl, rfl, hS, atI_nat (by rw [List.getElem?_map, List.getElem?_eq_getElem hk']; rfl), .inl ⟨_, rfl, two ns[k]⟩⟩
    · rw [decide_eq_false hlt]
      exact ⟨_, rfl, 7919, (k : Nat), rfl, rfl, .inl ⟨by decide, by decide⟩, _, 31, rfl, rfl, two _⟩
/-- len(script) -/
def dLenScr (i : Nat) : DE := fun env m Q => ∃ ns, env[i]? = some (.scr ns) ∧ Q (.int (ns.length : Nat)) m
theorem ge_lenScr {X : Cx} (i : Nat) {x : Str} {p p2 pos : Pos} (hg : Gl X "len") (hm : X.mg "len" = none) (hN : X.N[i]? = some x := by rfl) (hv : Vis X.env.scope x := by first | exact Or.inl rfl | exact Or.inr (Or.inl rfl) | exact Or.inr (Or.inr rfl)) (hd : (x == ("__debug__" : Str)) = false := by decide)
    (hcd : (x == ("__classdict__" : Str)) = false := by decide) (hs : starEach [.Name x p2] X.env = (false, eval (.Name x p2) X.env) :: starEach [] X.env := by rfl) : GE g X (.Call (.Name "len" p) [.Name x p2] [] pos) (dLenScr i) :=
  PE.weak (pe_callB call_len_seq hg hm PySem.boot_len (pa_cons (pe_var hN hv hd hcd) pa_nil hs) (by decide) (by decide) hs rfl) fun σ H Q ⟨c, F, env, m, Q1, r, ⟨ns, hns, q⟩, kk⟩ => by
    obtain ⟨a, e, h⟩ := r.slot i _ hns
    refine ⟨_, e, a, ns.map V.int, rfl, .inl (Evl.ex_l r.sub h), ?_⟩
    rw [List.length_map]
    exact kk _ H F m _ r (Fresh.refl r.sub r.ck) (.int _) q
/-- _law_right(_law_pot(script, k)) -/
def dRight (i j : Nat) : DE := fun env m Q => ∃ ns k, env[i]? = some (.scr ns) ∧ env[j]? = some (.val (natD k)) ∧ ns.length ≤ 63 ∧ k < 1000 ∧ Q (.bl true) m
theorem ge_right {X : Cx} (M : Mo X.K X.mg g ad fd) (i j : Nat) {x y : Str} {p p2 p3 p4 pos pos2 : Pos} (hr : Room 9 X.A) (calm : Calm X.A) (hg1 : Gl X "_law_right") (hg2 : Gl X "_law_pot") (hN : X.N[i]? = some x := by rfl) (hv : Vis X.env.scope x := by first | exact Or.inl rfl | exact Or.inr (Or.inl rfl) | exact Or.inr (Or.inr rfl)) (hd : (x == ("__debug__" : Str)) = false := by decide)
    (hcd : (x == ("__classdict__" : Str)) = false := by decide) (hN2 : X.N[j]? = some y := by rfl) (hv2 : Vis X.env.scope y := by first | exact Or.inl rfl | exact Or.inr (Or.inl rfl) | exact Or.inr (Or.inr rfl)) (hd2 : (y == ("__debug__" : Str)) = false := by decide) (hcd2 : (y == ("__classdict__" : Str)) = false := by decide)
    (hs1 : starEach [.Name x p3, .Name y p4] X.env = (false, eval (.Name x p3) X.env) :: starEach [.Name y p4] X.env := by rfl) (hs2 : starEach [.Name y p4] X.env = (false, eval (.Name y p4) X.env) :: starEach [] X.env := by rfl)
    (hs3 : starEach [.Call (.Name "_law_pot" p2) [.Name x p3, .Name y p4] [] pos2] X.env = (false, eval (.Call (.Name "_law_pot" p2) [.Name x p3, .Name y p4] [] pos2) X.env) :: starEach [] X.env := by rfl) :
    GE g X (.Call (.Name "_law_right" p) [.Call (.Name "_law_pot" p2) [.Name x p3, .Name y p4] [] pos2] [] pos) (dRight i j) :=
  PE.weak (pe_callG (ok_law_right M) hr calm hg1 M.m_law_right M.f_law_right.kp M.b_law_right (pa_cons (pe_call (ok_pot M) (hr.mono (by decide)) hg2 M.m_law_pot M.f_law_pot.kp M.b_law_pot .nil pass0 (pa_cons (pe_var hN hv hd hcd) (pa_cons (pe_var hN2 hv2 hd2 hcd2) pa_nil hs2) hs1) (by decide) hs1 (by rw [hs2]; rfl)) pa_nil hs3) (by decide) hs3 rfl) fun σ H Q ⟨c, F, env, m, Q1, r, ⟨ns, k, h1, h2, hlen, hk, q⟩, kk⟩ => by
    obtain ⟨a, e1, hS⟩ := r.slot i _ h1
    obtain ⟨v, e2, rv⟩ := r.slot j _ h2
    have rv' : Rep X.K g F (.int (k : Nat)) v := rv
    cases rv'
    refine ⟨_, e1, _, e2, a, ns, k, rfl, Evl.ex_l r.sub hS, hk, hlen, fun pp H1 f s t ex hp hH1 hf hs0 hs1 ht0 ht1 => ?_⟩
    have hF : F pp = none := ex_none r.sub hp
    refine ⟨some pp, F, [.cask], 0, fun d _ => d = .bl true, r.sub.trans ex, .cons ⟨pp, rfl, rfl⟩ .nil, fun b z => ?_, ⟨rfl, rfl⟩, fun v2 H2 F2 m2 x2 fr _ rp ex2 => ?_⟩
    · cases z
      exact ⟨hF, _, hH1, by rw [M.ck]; exact ⟨f, s, t, rfl, hf, hs0, hs1, ht0, ht1⟩⟩
    · subst ex2
      have ne : ∀ {b : Addr} {o : HO}, H b = some o → (some pp : Option Addr) ≠ some b := fun hb z => by cases z; rw [hp] at hb; cases hb
      have fresh : Fresh c F H F2 H2 := by
        refine ⟨fr.ff, fr.fh, fun b o hb _ => fr.hh b o (ex b o hb) (ne hb), fun b o hb => ?_, fun b z => ?_⟩
        · rcases fr.new b o hb with u | u
          · exact .inl u
          · exact .inr (ex_none ex u)
        · obtain ⟨u1, ys, u2, _⟩ := r.ck b z
          cases w2 : F2 b with
          | none => rfl
          | some o =>
            rcases fr.new b o w2 with u | u
            · rw [u1] at u; cases u
            · rw [ex b _ u2] at u; cases u
      have ck2 : Ck g c m F2 H2 := fun b z => by
        obtain ⟨u1, ys, u2, u3⟩ := r.ck b z
        exact ⟨fresh.nc b z, ys, fr.hh b _ (ex b _ u2) (ne u2), u3⟩
      exact kk v2 H2 F2 m _ (r.fresh fresh ck2) fresh rp q
def d_law : DS := dRet (dCallB allD (dConsL (dNew (dLc (dIRng (dCallB maxD2 (dConsL (dC (.int 2)) (dConsL (dCallB minD2 (dConsL (dLenScr 0) (dConsL (dC (.int 3)) dNilL))) dNilL)))) (tgN 1) dYes (dRight 0 1) [1])) dNilL))
def S_law : G.Spec := fun as m Q => ∃ ns, ns.length ≤ 63 ∧ as = [.scr ns] ∧ ∀ m', Q (.bl true) m'
theorem S_law_len : ∀ as m Q, S_law as m Q → as.length = 1 := by rintro as m Q ⟨_, _, rfl, _⟩; rfl
theorem law_law : ∀ as m Q, S_law as m Q → d_law (pad N_law as) m (fin Q) := by
  rintro as m Q ⟨ns, hlen, rfl, q⟩
  refine ⟨_, rfl, _, rfl, _, rfl, ?_⟩
  obtain ⟨n, hn, e⟩ : ∃ n : Nat, n ≤ 3 ∧ (if (if (3 : Int) < (ns.length : Nat) then (3 : Int) else (ns.length : Nat)) > 2 then (if (3 : Int) < (ns.length : Nat) then (3 : Int) else (ns.length : Nat)) else 2) = (n : Nat) := by
    refine ⟨(if (if (3 : Int) < (ns.length : Nat) then (3 : Int) else (ns.length : Nat)) > 2 then (if (3 : Int) < (ns.length : Nat) then (3 : Int) else (ns.length : Nat)) else 2).toNat, ?_, ?_⟩ <;> (repeat' split) <;> omega
  rw [e]
  refine ⟨(n : Nat), rfl, by omega, by omega, ?_⟩
  rw [natD_map]
  refine ⟨by rw [List.length_map, List.length_range]; have := llv; omega, ?_⟩
  refine lcR_m natD (fun _ => .bl true) (List.range n) m _ (fun i hi => ?_) ⟨_, all_true _, q m⟩
  have := List.mem_range.mp hi
  exact ⟨_, rfl, fun m Q q => ⟨ns, i, rfl, rfl, hlen, by omega, q⟩⟩
theorem ok_law (M : Mo K mg g ad fd) : FnG P w K mg base 10 (ad 42) (fd 42) ["_law_script"] (spOf K g S_law) :=
  def_okG M.f_law sc_law S_law_len fun cdv A outer s H E hr calm => ⟨d_law,
    (gss_one (gs_ret (ge_callB (cr_all rfl) cd_all (by rfl) M.z_all (by decide +kernel) (gab_cons (gb_e (ge_n (gn_lc' rfl sc_law.nd (gi_bor (gi_range (by rfl) M.z_range (ge_callB (cr_max2 rfl) cd_max2 (by rfl) M.z_max (by decide +kernel) (gab_cons (gb_e ge_int) (gab_cons (gb_e (ge_callB (cr_min2 rfl) cd_min2 (by rfl) M.z_min (by decide +kernel) (gab_cons (gb_e (ge_lenScr 0 (by rfl) M.z_len)) (gab_cons (gb_e ge_int) gab_nil)))) gab_nil))))) (blkOk_by (N := N_law) (sc := defScope st_law) (own := [("_law_k", 1)]) (by decide +kernel)) (fun s H C cl fp => gg_name (j := 1) sc_law.nd rfl (.inl rfl)) (fun s H C cl fp => gts_nil) (fun s H C cl fp => ge_right M 0 1 hr calm (by rfl) (by rfl))))) gab_nil)))), law_law⟩
end K15
namespace K15
open PySem L2 G T
def spLaw (K : PySem.W.Frag) : Sp := fun vs H Q _ => ∃ (a : Addr) (ns : List Int), vs = [.ref a] ∧ SqL K H a (ns.map V.int) ∧ ns.length ≤ 63 ∧ ∀ H', Q (.bl true) H'
theorem all_mk {P : Program} {w : World} {K : PySem.W.Frag} {h : Heap} {mg : Str → Option Value} {fa C f0 f1 f2 f3 f4 f5 f6 f7 f8 f9 f10 f11 f12 f13 f14 f15 f16 f17 f18 f19 f20 f21 f22 f23 f24 f25 f26 f27 f28 f29 f30 f31 f32 f33 f34 f35 f36 f37 f38 f39 f40 f41 f42 : Addr} (X : K.In h) (G : h.Ns mainGlobals mg) (hfa : mg "law" = some (.ref fa))
    {od0 an0 : Option Addr} {sl0 : Array (Option Value)} {oc0 kV0 dc0 pm0 cd0 ct0 : Value}
    {od1 an1 : Option Addr} {sl1 : Array (Option Value)} {oc1 kV1 dc1 pm1 cd1 ct1 : Value}
    {od2 an2 : Option Addr} {sl2 : Array (Option Value)} {oc2 kV2 dc2 pm2 cd2 ct2 : Value}
    {od3 an3 : Option Addr} {sl3 : Array (Option Value)} {oc3 kV3 dc3 pm3 cd3 ct3 : Value}
    {od4 an4 : Option Addr} {sl4 : Array (Option Value)} {oc4 kV4 dc4 pm4 cd4 ct4 : Value}
    {od5 an5 : Option Addr} {sl5 : Array (Option Value)} {oc5 kV5 dc5 pm5 cd5 ct5 : Value}
    {od6 an6 : Option Addr} {sl6 : Array (Option Value)} {oc6 kV6 dc6 pm6 cd6 ct6 : Value}
    {od7 an7 : Option Addr} {sl7 : Array (Option Value)} {oc7 kV7 dc7 pm7 cd7 ct7 : Value}
    {od8 an8 : Option Addr} {sl8 : Array (Option Value)} {oc8 kV8 dc8 pm8 cd8 ct8 : Value}
    {od9 an9 : Option Addr} {sl9 : Array (Option Value)} {oc9 kV9 dc9 pm9 cd9 ct9 : Value}
    {od10 an10 : Option Addr} {sl10 : Array (Option Value)} {oc10 kV10 dc10 pm10 cd10 ct10 : Value}
    {od11 an11 : Option Addr} {sl11 : Array (Option Value)} {oc11 kV11 dc11 pm11 cd11 ct11 : Value}
    {od12 an12 : Option Addr} {sl12 : Array (Option Value)} {oc12 kV12 dc12 pm12 cd12 ct12 : Value}
    {od13 an13 : Option Addr} {sl13 : Array (Option Value)} {oc13 kV13 dc13 pm13 cd13 ct13 : Value}
    {od14 an14 : Option Addr} {sl14 : Array (Option Value)} {oc14 kV14 dc14 pm14 cd14 ct14 : Value}
    {od15 an15 : Option Addr} {sl15 : Array (Option Value)} {oc15 kV15 dc15 pm15 cd15 ct15 : Value}
    {od16 an16 : Option Addr} {sl16 : Array (Option Value)} {oc16 kV16 dc16 pm16 cd16 ct16 : Value}
    {od17 an17 : Option Addr} {sl17 : Array (Option Value)} {oc17 kV17 dc17 pm17 cd17 ct17 : Value}
    {od18 an18 : Option Addr} {sl18 : Array (Option Value)} {oc18 kV18 dc18 pm18 cd18 ct18 : Value}
    {od19 an19 : Option Addr} {sl19 : Array (Option Value)} {oc19 kV19 dc19 pm19 cd19 ct19 : Value}
    {od20 an20 : Option Addr} {sl20 : Array (Option Value)} {oc20 kV20 dc20 pm20 cd20 ct20 : Value}
    {od21 an21 : Option Addr} {sl21 : Array (Option Value)} {oc21 kV21 dc21 pm21 cd21 ct21 : Value}
    {od22 an22 : Option Addr} {sl22 : Array (Option Value)} {oc22 kV22 dc22 pm22 cd22 ct22 : Value}
    {od23 an23 : Option Addr} {sl23 : Array (Option Value)} {oc23 kV23 dc23 pm23 cd23 ct23 : Value}
    {od24 an24 : Option Addr} {sl24 : Array (Option Value)} {oc24 kV24 dc24 pm24 cd24 ct24 : Value}
    {od25 an25 : Option Addr} {sl25 : Array (Option Value)} {oc25 kV25 dc25 pm25 cd25 ct25 : Value}
    {od26 an26 : Option Addr} {sl26 : Array (Option Value)} {oc26 kV26 dc26 pm26 cd26 ct26 : Value}
    {od27 an27 : Option Addr} {sl27 : Array (Option Value)} {oc27 kV27 dc27 pm27 cd27 ct27 : Value}
    {od28 an28 : Option Addr} {sl28 : Array (Option Value)} {oc28 kV28 dc28 pm28 cd28 ct28 : Value}
    {od29 an29 : Option Addr} {sl29 : Array (Option Value)} {oc29 kV29 dc29 pm29 cd29 ct29 : Value}
    {od30 an30 : Option Addr} {sl30 : Array (Option Value)} {oc30 kV30 dc30 pm30 cd30 ct30 : Value}
    {od31 an31 : Option Addr} {sl31 : Array (Option Value)} {oc31 kV31 dc31 pm31 cd31 ct31 : Value}
    {od32 an32 : Option Addr} {sl32 : Array (Option Value)} {oc32 kV32 dc32 pm32 cd32 ct32 : Value}
    {od33 an33 : Option Addr} {sl33 : Array (Option Value)} {oc33 kV33 dc33 pm33 cd33 ct33 : Value}
    {od34 an34 : Option Addr} {sl34 : Array (Option Value)} {oc34 kV34 dc34 pm34 cd34 ct34 : Value}
    {od35 an35 : Option Addr} {sl35 : Array (Option Value)} {oc35 kV35 dc35 pm35 cd35 ct35 : Value}
    {od36 an36 : Option Addr} {sl36 : Array (Option Value)} {oc36 kV36 dc36 pm36 cd36 ct36 : Value}
    {od37 an37 : Option Addr} {sl37 : Array (Option Value)} {oc37 kV37 dc37 pm37 cd37 ct37 : Value}
    {od38 an38 : Option Addr} {sl38 : Array (Option Value)} {oc38 kV38 dc38 pm38 cd38 ct38 : Value}
    {od39 an39 : Option Addr} {sl39 : Array (Option Value)} {oc39 kV39 dc39 pm39 cd39 ct39 : Value}
    {od40 an40 : Option Addr} {sl40 : Array (Option Value)} {oc40 kV40 dc40 pm40 cd40 ct40 : Value}
    {od41 an41 : Option Addr} {sl41 : Array (Option Value)} {oc41 kV41 dc41 pm41 cd41 ct41 : Value}
    {od42 an42 : Option Addr} {sl42 : Array (Option Value)} {oc42 kV42 dc42 pm42 cd42 ct42 : Value}
    (a0 : PySem.W.nsIn K mainGlobals "is_integer" = some (some (.ref f0)))
    (l0 : K.lookup f0 = some ⟨oc0, od0, .func (PySem.W.fnOf "is_integer" "is_integer" (defArgs st_is_integer) (defBody st_is_integer) (defScope st_is_integer) .none kV0 dc0 pm0 an0 cd0 ct0), sl0⟩) (c0 : PySem.W.codeIn K cd0 "is_integer" = true) (k0 : PySem.W.keepIn K (.ref f0) = true)
    (a1 : PySem.W.nsIn K mainGlobals "is_between" = some (some (.ref f1)))
    (l1 : K.lookup f1 = some ⟨oc1, od1, .func (PySem.W.fnOf "is_between" "is_between" (defArgs st_is_between) (defBody st_is_between) (defScope st_is_between) .none kV1 dc1 pm1 an1 cd1 ct1), sl1⟩) (c1 : PySem.W.codeIn K cd1 "is_between" = true) (k1 : PySem.W.keepIn K (.ref f1) = true)
    (a2 : PySem.W.nsIn K mainGlobals "common_divisor" = some (some (.ref f2)))
    (l2 : K.lookup f2 = some ⟨oc2, od2, .func (PySem.W.fnOf "common_divisor" "common_divisor" (defArgs st_common_divisor) (defBody st_common_divisor) (defScope st_common_divisor) .none kV2 dc2 pm2 an2 cd2 ct2), sl2⟩) (c2 : PySem.W.codeIn K cd2 "common_divisor" = true) (k2 : PySem.W.keepIn K (.ref f2) = true)
    (a3 : PySem.W.nsIn K mainGlobals "fraction" = some (some (.ref f3)))
    (l3 : K.lookup f3 = some ⟨oc3, od3, .func (PySem.W.fnOf "fraction" "fraction" (defArgs st_fraction) (defBody st_fraction) (defScope st_fraction) .none kV3 dc3 pm3 an3 cd3 ct3), sl3⟩) (c3 : PySem.W.codeIn K cd3 "fraction" = true) (k3 : PySem.W.keepIn K (.ref f3) = true)
    (a4 : PySem.W.nsIn K mainGlobals "is_fraction" = some (some (.ref f4)))
    (l4 : K.lookup f4 = some ⟨oc4, od4, .func (PySem.W.fnOf "is_fraction" "is_fraction" (defArgs st_is_fraction) (defBody st_is_fraction) (defScope st_is_fraction) .none kV4 dc4 pm4 an4 cd4 ct4), sl4⟩) (c4 : PySem.W.codeIn K cd4 "is_fraction" = true) (k4 : PySem.W.keepIn K (.ref f4) = true)
    (a5 : PySem.W.nsIn K mainGlobals "are_letters" = some (some (.ref f5)))
    (l5 : K.lookup f5 = some ⟨oc5, od5, .func (PySem.W.fnOf "are_letters" "are_letters" (defArgs st_are_letters) (defBody st_are_letters) (defScope st_are_letters) .none kV5 dc5 pm5 an5 cd5 ct5), sl5⟩) (c5 : PySem.W.codeIn K cd5 "are_letters" = true) (k5 : PySem.W.keepIn K (.ref f5) = true)
    (a6 : PySem.W.nsIn K mainGlobals "are_places" = some (some (.ref f6)))
    (l6 : K.lookup f6 = some ⟨oc6, od6, .func (PySem.W.fnOf "are_places" "are_places" (defArgs st_are_places) (defBody st_are_places) (defScope st_are_places) .none kV6 dc6 pm6 an6 cd6 ct6), sl6⟩) (c6 : PySem.W.codeIn K cd6 "are_places" = true) (k6 : PySem.W.keepIn K (.ref f6) = true)
    (a7 : PySem.W.nsIn K mainGlobals "is_tie" = some (some (.ref f7)))
    (l7 : K.lookup f7 = some ⟨oc7, od7, .func (PySem.W.fnOf "is_tie" "is_tie" (defArgs st_is_tie) (defBody st_is_tie) (defScope st_is_tie) .none kV7 dc7 pm7 an7 cd7 ct7), sl7⟩) (c7 : PySem.W.codeIn K cd7 "is_tie" = true) (k7 : PySem.W.keepIn K (.ref f7) = true)
    (a8 : PySem.W.nsIn K mainGlobals "wrong_tie" = some (some (.ref f8)))
    (l8 : K.lookup f8 = some ⟨oc8, od8, .func (PySem.W.fnOf "wrong_tie" "wrong_tie" (defArgs st_wrong_tie) (defBody st_wrong_tie) (defScope st_wrong_tie) .none kV8 dc8 pm8 an8 cd8 ct8), sl8⟩) (c8 : PySem.W.codeIn K cd8 "wrong_tie" = true) (k8 : PySem.W.keepIn K (.ref f8) = true)
    (a9 : PySem.W.findIn K (.ref C) "__init__" = some (some (.ref f9)))
    (l9 : K.lookup f9 = some ⟨oc9, od9, .func (PySem.W.fnOf "__init__" "Web.__init__" (defArgs st_Webinit) (defBody st_Webinit) (defScope st_Webinit) .none kV9 dc9 pm9 an9 cd9 ct9), sl9⟩) (c9 : PySem.W.codeIn K cd9 "Web.__init__" = true) (k9 : PySem.W.keepIn K (.ref f9) = true)
    (a10 : PySem.W.findIn K (.ref C) "__len__" = some (some (.ref f10)))
    (l10 : K.lookup f10 = some ⟨oc10, od10, .func (PySem.W.fnOf "__len__" "Web.__len__" (defArgs st_Weblen) (defBody st_Weblen) (defScope st_Weblen) .none kV10 dc10 pm10 an10 cd10 ct10), sl10⟩) (c10 : PySem.W.codeIn K cd10 "Web.__len__" = true) (k10 : PySem.W.keepIn K (.ref f10) = true)
    (a11 : PySem.W.nsIn K mainGlobals "check_web" = some (some (.ref f11)))
    (l11 : K.lookup f11 = some ⟨oc11, od11, .func (PySem.W.fnOf "check_web" "check_web" (defArgs st_check_web) (defBody st_check_web) (defScope st_check_web) .none kV11 dc11 pm11 an11 cd11 ct11), sl11⟩) (c11 : PySem.W.codeIn K cd11 "check_web" = true) (k11 : PySem.W.keepIn K (.ref f11) = true)
    (a12 : PySem.W.nsIn K mainGlobals "herds_of" = some (some (.ref f12)))
    (l12 : K.lookup f12 = some ⟨oc12, od12, .func (PySem.W.fnOf "herds_of" "herds_of" (defArgs st_herds_of) (defBody st_herds_of) (defScope st_herds_of) .none kV12 dc12 pm12 an12 cd12 ct12), sl12⟩) (c12 : PySem.W.codeIn K cd12 "herds_of" = true) (k12 : PySem.W.keepIn K (.ref f12) = true)
    (a13 : PySem.W.nsIn K mainGlobals "every_tie" = some (some (.ref f13)))
    (l13 : K.lookup f13 = some ⟨oc13, od13, .func (PySem.W.fnOf "every_tie" "every_tie" (defArgs st_every_tie) (defBody st_every_tie) (defScope st_every_tie) .none kV13 dc13 pm13 an13 cd13 ct13), sl13⟩) (c13 : PySem.W.codeIn K cd13 "every_tie" = true) (k13 : PySem.W.keepIn K (.ref f13) = true)
    (a14 : PySem.W.nsIn K mainGlobals "ties_of" = some (some (.ref f14)))
    (l14 : K.lookup f14 = some ⟨oc14, od14, .func (PySem.W.fnOf "ties_of" "ties_of" (defArgs st_ties_of) (defBody st_ties_of) (defScope st_ties_of) .none kV14 dc14 pm14 an14 cd14 ct14), sl14⟩) (c14 : PySem.W.codeIn K cd14 "ties_of" = true) (k14 : PySem.W.keepIn K (.ref f14) = true)
    (a15 : PySem.W.nsIn K mainGlobals "pieces_of" = some (some (.ref f15)))
    (l15 : K.lookup f15 = some ⟨oc15, od15, .func (PySem.W.fnOf "pieces_of" "pieces_of" (defArgs st_pieces_of) (defBody st_pieces_of) (defScope st_pieces_of) .none kV15 dc15 pm15 an15 cd15 ct15), sl15⟩) (c15 : PySem.W.codeIn K cd15 "pieces_of" = true) (k15 : PySem.W.keepIn K (.ref f15) = true)
    (a16 : PySem.W.nsIn K mainGlobals "rank_of" = some (some (.ref f16)))
    (l16 : K.lookup f16 = some ⟨oc16, od16, .func (PySem.W.fnOf "rank_of" "rank_of" (defArgs st_rank_of) (defBody st_rank_of) (defScope st_rank_of) .none kV16 dc16 pm16 an16 cd16 ct16), sl16⟩) (c16 : PySem.W.codeIn K cd16 "rank_of" = true) (k16 : PySem.W.keepIn K (.ref f16) = true)
    (a17 : PySem.W.nsIn K mainGlobals "spare_of" = some (some (.ref f17)))
    (l17 : K.lookup f17 = some ⟨oc17, od17, .func (PySem.W.fnOf "spare_of" "spare_of" (defArgs st_spare_of) (defBody st_spare_of) (defScope st_spare_of) .none kV17 dc17 pm17 an17 cd17 ct17), sl17⟩) (c17 : PySem.W.codeIn K cd17 "spare_of" = true) (k17 : PySem.W.keepIn K (.ref f17) = true)
    (a18 : PySem.W.nsIn K mainGlobals "every_lot" = some (some (.ref f18)))
    (l18 : K.lookup f18 = some ⟨oc18, od18, .func (PySem.W.fnOf "every_lot" "every_lot" (defArgs st_every_lot) (defBody st_every_lot) (defScope st_every_lot) .none kV18 dc18 pm18 an18 cd18 ct18), sl18⟩) (c18 : PySem.W.codeIn K cd18 "every_lot" = true) (k18 : PySem.W.keepIn K (.ref f18) = true)
    (a19 : PySem.W.nsIn K mainGlobals "empty_rows" = some (some (.ref f19)))
    (l19 : K.lookup f19 = some ⟨oc19, od19, .func (PySem.W.fnOf "empty_rows" "empty_rows" (defArgs st_empty_rows) (defBody st_empty_rows) (defScope st_empty_rows) .none kV19 dc19 pm19 an19 cd19 ct19), sl19⟩) (c19 : PySem.W.codeIn K cd19 "empty_rows" = true) (k19 : PySem.W.keepIn K (.ref f19) = true)
    (a20 : PySem.W.nsIn K mainGlobals "as_table" = some (some (.ref f20)))
    (l20 : K.lookup f20 = some ⟨oc20, od20, .func (PySem.W.fnOf "as_table" "as_table" (defArgs st_as_table) (defBody st_as_table) (defScope st_as_table) .none kV20 dc20 pm20 an20 cd20 ct20), sl20⟩) (c20 : PySem.W.codeIn K cd20 "as_table" = true) (k20 : PySem.W.keepIn K (.ref f20) = true)
    (a21 : PySem.W.nsIn K mainGlobals "counted_lots" = some (some (.ref f21)))
    (l21 : K.lookup f21 = some ⟨oc21, od21, .func (PySem.W.fnOf "counted_lots" "counted_lots" (defArgs st_counted_lots) (defBody st_counted_lots) (defScope st_counted_lots) .none kV21 dc21 pm21 an21 cd21 ct21), sl21⟩) (c21 : PySem.W.codeIn K cd21 "counted_lots" = true) (k21 : PySem.W.keepIn K (.ref f21) = true)
    (a22 : PySem.W.nsIn K mainGlobals "lot_counts" = some (some (.ref f22)))
    (l22 : K.lookup f22 = some ⟨oc22, od22, .func (PySem.W.fnOf "lot_counts" "lot_counts" (defArgs st_lot_counts) (defBody st_lot_counts) (defScope st_lot_counts) .none kV22 dc22 pm22 an22 cd22 ct22), sl22⟩) (c22 : PySem.W.codeIn K cd22 "lot_counts" = true) (k22 : PySem.W.keepIn K (.ref f22) = true)
    (a23 : PySem.W.nsIn K mainGlobals "ways_to_choose" = some (some (.ref f23)))
    (l23 : K.lookup f23 = some ⟨oc23, od23, .func (PySem.W.fnOf "ways_to_choose" "ways_to_choose" (defArgs st_ways_to_choose) (defBody st_ways_to_choose) (defScope st_ways_to_choose) .none kV23 dc23 pm23 an23 cd23 ct23), sl23⟩) (c23 : PySem.W.codeIn K cd23 "ways_to_choose" = true) (k23 : PySem.W.keepIn K (.ref f23) = true)
    (a24 : PySem.W.nsIn K mainGlobals "shifted" = some (some (.ref f24)))
    (l24 : K.lookup f24 = some ⟨oc24, od24, .func (PySem.W.fnOf "shifted" "shifted" (defArgs st_shifted) (defBody st_shifted) (defScope st_shifted) .none kV24 dc24 pm24 an24 cd24 ct24), sl24⟩) (c24 : PySem.W.codeIn K cd24 "shifted" = true) (k24 : PySem.W.keepIn K (.ref f24) = true)
    (a25 : PySem.W.nsIn K mainGlobals "table_rows" = some (some (.ref f25)))
    (l25 : K.lookup f25 = some ⟨oc25, od25, .func (PySem.W.fnOf "table_rows" "table_rows" (defArgs st_table_rows) (defBody st_table_rows) (defScope st_table_rows) .none kV25 dc25 pm25 an25 cd25 ct25), sl25⟩) (c25 : PySem.W.codeIn K cd25 "table_rows" = true) (k25 : PySem.W.keepIn K (.ref f25) = true)
    (a26 : PySem.W.nsIn K mainGlobals "table" = some (some (.ref f26)))
    (l26 : K.lookup f26 = some ⟨oc26, od26, .func (PySem.W.fnOf "table" "table" (defArgs st_table) (defBody st_table) (defScope st_table) .none kV26 dc26 pm26 an26 cd26 ct26), sl26⟩) (c26 : PySem.W.codeIn K cd26 "table" = true) (k26 : PySem.W.keepIn K (.ref f26) = true)
    (a27 : PySem.W.nsIn K mainGlobals "power" = some (some (.ref f27)))
    (l27 : K.lookup f27 = some ⟨oc27, od27, .func (PySem.W.fnOf "power" "power" (defArgs st_power) (defBody st_power) (defScope st_power) .none kV27 dc27 pm27 an27 cd27 ct27), sl27⟩) (c27 : PySem.W.codeIn K cd27 "power" = true) (k27 : PySem.W.keepIn K (.ref f27) = true)
    (a28 : PySem.W.nsIn K mainGlobals "value" = some (some (.ref f28)))
    (l28 : K.lookup f28 = some ⟨oc28, od28, .func (PySem.W.fnOf "value" "value" (defArgs st_value) (defBody st_value) (defScope st_value) .none kV28 dc28 pm28 an28 cd28 ct28), sl28⟩) (c28 : PySem.W.codeIn K cd28 "value" = true) (k28 : PySem.W.keepIn K (.ref f28) = true)
    (a29 : PySem.W.nsIn K mainGlobals "_law_pot" = some (some (.ref f29)))
    (l29 : K.lookup f29 = some ⟨oc29, od29, .func (PySem.W.fnOf "_law_pot" "_law_pot" (defArgs st_law_pot) (defBody st_law_pot) (defScope st_law_pot) .none kV29 dc29 pm29 an29 cd29 ct29), sl29⟩) (c29 : PySem.W.codeIn K cd29 "_law_pot" = true) (k29 : PySem.W.keepIn K (.ref f29) = true)
    (a30 : PySem.W.nsIn K mainGlobals "_law_dip" = some (some (.ref f30)))
    (l30 : K.lookup f30 = some ⟨oc30, od30, .func (PySem.W.fnOf "_law_dip" "_law_dip" (defArgs st_law_dip) (defBody st_law_dip) (defScope st_law_dip) .none kV30 dc30 pm30 an30 cd30 ct30), sl30⟩) (c30 : PySem.W.codeIn K cd30 "_law_dip" = true) (k30 : PySem.W.keepIn K (.ref f30) = true)
    (a31 : PySem.W.nsIn K mainGlobals "_law_any" = some (some (.ref f31)))
    (l31 : K.lookup f31 = some ⟨oc31, od31, .func (PySem.W.fnOf "_law_any" "_law_any" (defArgs st_law_any) (defBody st_law_any) (defScope st_law_any) .none kV31 dc31 pm31 an31 cd31 ct31), sl31⟩) (c31 : PySem.W.codeIn K cd31 "_law_any" = true) (k31 : PySem.W.keepIn K (.ref f31) = true)
    (a32 : PySem.W.nsIn K mainGlobals "_law_parts" = some (some (.ref f32)))
    (l32 : K.lookup f32 = some ⟨oc32, od32, .func (PySem.W.fnOf "_law_parts" "_law_parts" (defArgs st_law_parts) (defBody st_law_parts) (defScope st_law_parts) .none kV32 dc32 pm32 an32 cd32 ct32), sl32⟩) (c32 : PySem.W.codeIn K cd32 "_law_parts" = true) (k32 : PySem.W.keepIn K (.ref f32) = true)
    (a33 : PySem.W.nsIn K mainGlobals "_law_rank" = some (some (.ref f33)))
    (l33 : K.lookup f33 = some ⟨oc33, od33, .func (PySem.W.fnOf "_law_rank" "_law_rank" (defArgs st_law_rank) (defBody st_law_rank) (defScope st_law_rank) .none kV33 dc33 pm33 an33 cd33 ct33), sl33⟩) (c33 : PySem.W.codeIn K cd33 "_law_rank" = true) (k33 : PySem.W.keepIn K (.ref f33) = true)
    (a34 : PySem.W.nsIn K mainGlobals "_law_lots" = some (some (.ref f34)))
    (l34 : K.lookup f34 = some ⟨oc34, od34, .func (PySem.W.fnOf "_law_lots" "_law_lots" (defArgs st_law_lots) (defBody st_law_lots) (defScope st_law_lots) .none kV34 dc34 pm34 an34 cd34 ct34), sl34⟩) (c34 : PySem.W.codeIn K cd34 "_law_lots" = true) (k34 : PySem.W.keepIn K (.ref f34) = true)
    (a35 : PySem.W.nsIn K mainGlobals "_law_counted" = some (some (.ref f35)))
    (l35 : K.lookup f35 = some ⟨oc35, od35, .func (PySem.W.fnOf "_law_counted" "_law_counted" (defArgs st_law_counted) (defBody st_law_counted) (defScope st_law_counted) .none kV35 dc35 pm35 an35 cd35 ct35), sl35⟩) (c35 : PySem.W.codeIn K cd35 "_law_counted" = true) (k35 : PySem.W.keepIn K (.ref f35) = true)
    (a36 : PySem.W.nsIn K mainGlobals "_law_power" = some (some (.ref f36)))
    (l36 : K.lookup f36 = some ⟨oc36, od36, .func (PySem.W.fnOf "_law_power" "_law_power" (defArgs st_law_power) (defBody st_law_power) (defScope st_law_power) .none kV36 dc36 pm36 an36 cd36 ct36), sl36⟩) (c36 : PySem.W.codeIn K cd36 "_law_power" = true) (k36 : PySem.W.keepIn K (.ref f36) = true)
    (a37 : PySem.W.nsIn K mainGlobals "_law_sum" = some (some (.ref f37)))
    (l37 : K.lookup f37 = some ⟨oc37, od37, .func (PySem.W.fnOf "_law_sum" "_law_sum" (defArgs st_law_sum) (defBody st_law_sum) (defScope st_law_sum) .none kV37 dc37 pm37 an37 cd37 ct37), sl37⟩) (c37 : PySem.W.codeIn K cd37 "_law_sum" = true) (k37 : PySem.W.keepIn K (.ref f37) = true)
    (a38 : PySem.W.nsIn K mainGlobals "_law_common" = some (some (.ref f38)))
    (l38 : K.lookup f38 = some ⟨oc38, od38, .func (PySem.W.fnOf "_law_common" "_law_common" (defArgs st_law_common) (defBody st_law_common) (defScope st_law_common) .none kV38 dc38 pm38 an38 cd38 ct38), sl38⟩) (c38 : PySem.W.codeIn K cd38 "_law_common" = true) (k38 : PySem.W.keepIn K (.ref f38) = true)
    (a39 : PySem.W.nsIn K mainGlobals "_law_fraction" = some (some (.ref f39)))
    (l39 : K.lookup f39 = some ⟨oc39, od39, .func (PySem.W.fnOf "_law_fraction" "_law_fraction" (defArgs st_law_fraction) (defBody st_law_fraction) (defScope st_law_fraction) .none kV39 dc39 pm39 an39 cd39 ct39), sl39⟩) (c39 : PySem.W.codeIn K cd39 "_law_fraction" = true) (k39 : PySem.W.keepIn K (.ref f39) = true)
    (a40 : PySem.W.nsIn K mainGlobals "_law_table_right" = some (some (.ref f40)))
    (l40 : K.lookup f40 = some ⟨oc40, od40, .func (PySem.W.fnOf "_law_table_right" "_law_table_right" (defArgs st_law_table_right) (defBody st_law_table_right) (defScope st_law_table_right) .none kV40 dc40 pm40 an40 cd40 ct40), sl40⟩) (c40 : PySem.W.codeIn K cd40 "_law_table_right" = true) (k40 : PySem.W.keepIn K (.ref f40) = true)
    (a41 : PySem.W.nsIn K mainGlobals "_law_right" = some (some (.ref f41)))
    (l41 : K.lookup f41 = some ⟨oc41, od41, .func (PySem.W.fnOf "_law_right" "_law_right" (defArgs st_law_right) (defBody st_law_right) (defScope st_law_right) .none kV41 dc41 pm41 an41 cd41 ct41), sl41⟩) (c41 : PySem.W.codeIn K cd41 "_law_right" = true) (k41 : PySem.W.keepIn K (.ref f41) = true)
    (a42 : PySem.W.nsIn K mainGlobals "law" = some (some (.ref f42)))
    (l42 : K.lookup f42 = some ⟨oc42, od42, .func (PySem.W.fnOf "law" "law" (defArgs st_law) (defBody st_law) (defScope st_law) .none kV42 dc42 pm42 an42 cd42 ct42), sl42⟩) (c42 : PySem.W.codeIn K cd42 "law" = true) (k42 : PySem.W.keepIn K (.ref f42) = true)
    (aW : PySem.W.nsIn K mainGlobals "Web" = some (some (.ref C)))
    (z_len : PySem.W.nsIn K mainGlobals "len" = some none)
    (z_all : PySem.W.nsIn K mainGlobals "all" = some none)
    (z_abs : PySem.W.nsIn K mainGlobals "abs" = some none)
    (z_int : PySem.W.nsIn K mainGlobals "int" = some none)
    (z_bool : PySem.W.nsIn K mainGlobals "bool" = some none)
    (z_divmod : PySem.W.nsIn K mainGlobals "divmod" = some none)
    (z_min : PySem.W.nsIn K mainGlobals "min" = some none)
    (z_max : PySem.W.nsIn K mainGlobals "max" = some none)
    (z_tuple : PySem.W.nsIn K mainGlobals "tuple" = some none)
    (z_list : PySem.W.nsIn K mainGlobals "list" = some none)
    (z_sorted : PySem.W.nsIn K mainGlobals "sorted" = some none)
    (z_set : PySem.W.nsIn K mainGlobals "set" = some none)
    (z_dict : PySem.W.nsIn K mainGlobals "dict" = some none)
    (z_str : PySem.W.nsIn K mainGlobals "str" = some none)
    (z_isinstance : PySem.W.nsIn K mainGlobals "isinstance" = some none)
    (z_enumerate : PySem.W.nsIn K mainGlobals "enumerate" = some none)
    (z_range : PySem.W.nsIn K mainGlobals "range" = some none)
    (z_repr : PySem.W.nsIn K mainGlobals "repr" = some none)
    {tk_MOST_PLACES : Tok} {tk_MOST_TIES : Tok} {tk_LETTERS : Tok} {tk_MOST_TOP : Tok} {tk_MOST_BOTTOM : Tok}
    (v_MOST_PLACES : PySem.W.nsIn K mainGlobals "MOST_PLACES" = some (some (.int 7 tk_MOST_PLACES)))
    (v_MOST_TIES : PySem.W.nsIn K mainGlobals "MOST_TIES" = some (some (.int 11 tk_MOST_TIES)))
    (v_LETTERS : PySem.W.nsIn K mainGlobals "LETTERS" = some (some (.str "abcdefgh" tk_LETTERS)))
    (v_MOST_TOP : PySem.W.nsIn K mainGlobals "MOST_TOP" = some (some (.int 1000000 tk_MOST_TOP)))
    (v_MOST_BOTTOM : PySem.W.nsIn K mainGlobals "MOST_BOTTOM" = some (some (.int 1000 tk_MOST_BOTTOM)))
    (w1 : PySem.W.plainGet K C Str.empty = true)
    (w2 : PySem.W.hasDictIn K C = true)
    (w3 : PySem.W.plainOver K C = true)
    (w4 : PySem.W.findIn K (.ref C) "__setattr__" = some (some (.builtin "object.__setattr__")))
    (w5 : PySem.W.findIn K (.ref C) "__class__" = some (some (.builtin "object.__class__")))
    (w6 : PySem.W.specialIn K (.builtin "object.__class__") "__get__" = some (some (.builtin "getset_descriptor.__get__")))
    (w7 : PySem.W.takesIn K (.builtin "object.__class__") = true)
    (w8 : PySem.W.mroIn K C (.type "object") = some true)
    (w9 : PySem.W.findIn K (.ref C) "places" = some none)
    (w10 : PySem.W.findIn K (.ref C) "ties" = some none)
    (w11 : PySem.W.isFn K (.ref f10) = true)
    (w12 : PySem.W.makesIn K C = true)
    (w13 : PySem.W.isFn K (.ref f9) = true)
    (w14 : PySem.W.keepIn K (.ref C) = true)
    : ∃ fd : FuncData, (∀ (s : Shared) (v : Value), BindsTo s fd ⟨[v], []⟩ [("_law_script", v)]) ∧ ∀ base : Heap, K.In base → base.Ns mainGlobals mg → FnG P w K mg base 10 fa fd ["_law_script"] (spLaw K) := by
  have e := hfa.symm.trans (PySem.W.mg_of X G a42)
  cases e
  have F0 := fun_mk (st := st_is_integer) l0 c0 k0
  have b0 := F0.binds (ps := ["value"]) fun _ _ _ _ _ _ us hl => match us, hl with | [_], _ => rfl
  have F1 := fun_mk (st := st_is_between) l1 c1 k1
  have b1 := F1.binds (ps := ["value", "least", "most"]) fun _ _ _ _ _ _ us hl => match us, hl with | [_, _, _], _ => rfl
  have F2 := fun_mk (st := st_common_divisor) l2 c2 k2
  have b2 := F2.binds (ps := ["one", "other"]) fun _ _ _ _ _ _ us hl => match us, hl with | [_, _], _ => rfl
  have F3 := fun_mk (st := st_fraction) l3 c3 k3
  have b3 := F3.binds (ps := ["top", "bottom"]) fun _ _ _ _ _ _ us hl => match us, hl with | [_, _], _ => rfl
  have F4 := fun_mk (st := st_is_fraction) l4 c4 k4
  have b4 := F4.binds (ps := ["value"]) fun _ _ _ _ _ _ us hl => match us, hl with | [_], _ => rfl
  have F5 := fun_mk (st := st_are_letters) l5 c5 k5
  have b5 := F5.binds (ps := ["value"]) fun _ _ _ _ _ _ us hl => match us, hl with | [_], _ => rfl
  have F6 := fun_mk (st := st_are_places) l6 c6 k6
  have b6 := F6.binds (ps := ["value"]) fun _ _ _ _ _ _ us hl => match us, hl with | [_], _ => rfl
  have F7 := fun_mk (st := st_is_tie) l7 c7 k7
  have b7 := F7.binds (ps := ["places", "value"]) fun _ _ _ _ _ _ us hl => match us, hl with | [_, _], _ => rfl
  have F8 := fun_mk (st := st_wrong_tie) l8 c8 k8
  have b8 := F8.binds (ps := ["places", "ties"]) fun _ _ _ _ _ _ us hl => match us, hl with | [_, _], _ => rfl
  have F9 := fun_mk (st := st_Webinit) l9 c9 k9
  have b9 := F9.binds (ps := ["self", "places", "ties"]) fun _ _ _ _ _ _ us hl => match us, hl with | [_, _, _], _ => rfl
  have F10 := fun_mk (st := st_Weblen) l10 c10 k10
  have b10 := F10.binds (ps := ["self"]) fun _ _ _ _ _ _ us hl => match us, hl with | [_], _ => rfl
  have F11 := fun_mk (st := st_check_web) l11 c11 k11
  have b11 := F11.binds (ps := ["web"]) fun _ _ _ _ _ _ us hl => match us, hl with | [_], _ => rfl
  have F12 := fun_mk (st := st_herds_of) l12 c12 k12
  have b12 := F12.binds (ps := ["places", "ties"]) fun _ _ _ _ _ _ us hl => match us, hl with | [_, _], _ => rfl
  have F13 := fun_mk (st := st_every_tie) l13 c13 k13
  have b13 := F13.binds (ps := ["web"]) fun _ _ _ _ _ _ us hl => match us, hl with | [_], _ => rfl
  have F14 := fun_mk (st := st_ties_of) l14 c14 k14
  have b14 := F14.binds (ps := ["web", "lot"]) fun _ _ _ _ _ _ us hl => match us, hl with | [_, _], _ => rfl
  have F15 := fun_mk (st := st_pieces_of) l15 c15 k15
  have b15 := F15.binds (ps := ["web", "lot"]) fun _ _ _ _ _ _ us hl => match us, hl with | [_, _], _ => rfl
  have F16 := fun_mk (st := st_rank_of) l16 c16 k16
  have b16 := F16.binds (ps := ["web", "lot"]) fun _ _ _ _ _ _ us hl => match us, hl with | [_, _], _ => rfl
  have F17 := fun_mk (st := st_spare_of) l17 c17 k17
  have b17 := F17.binds (ps := ["web", "lot"]) fun _ _ _ _ _ _ us hl => match us, hl with | [_, _], _ => rfl
  have F18 := fun_mk (st := st_every_lot) l18 c18 k18
  have b18 := F18.binds (ps := ["web"]) fun _ _ _ _ _ _ us hl => match us, hl with | [_], _ => rfl
  have F19 := fun_mk (st := st_empty_rows) l19 c19 k19
  have b19 := F19.binds (ps := ["web"]) fun _ _ _ _ _ _ us hl => match us, hl with | [_], _ => rfl
  have F20 := fun_mk (st := st_as_table) l20 c20 k20
  have b20 := F20.binds (ps := ["rows"]) fun _ _ _ _ _ _ us hl => match us, hl with | [_], _ => rfl
  have F21 := fun_mk (st := st_counted_lots) l21 c21 k21
  have b21 := F21.binds (ps := ["web"]) fun _ _ _ _ _ _ us hl => match us, hl with | [_], _ => rfl
  have F22 := fun_mk (st := st_lot_counts) l22 c22 k22
  have b22 := F22.binds (ps := ["web"]) fun _ _ _ _ _ _ us hl => match us, hl with | [_], _ => rfl
  have F23 := fun_mk (st := st_ways_to_choose) l23 c23 k23
  have b23 := F23.binds (ps := ["many", "some"]) fun _ _ _ _ _ _ us hl => match us, hl with | [_, _], _ => rfl
  have F24 := fun_mk (st := st_shifted) l24 c24 k24
  have b24 := F24.binds (ps := ["row"]) fun _ _ _ _ _ _ us hl => match us, hl with | [_], _ => rfl
  have F25 := fun_mk (st := st_table_rows) l25 c25 k25
  have b25 := F25.binds (ps := ["web"]) fun _ _ _ _ _ _ us hl => match us, hl with | [_], _ => rfl
  have F26 := fun_mk (st := st_table) l26 c26 k26
  have b26 := F26.binds (ps := ["web"]) fun _ _ _ _ _ _ us hl => match us, hl with | [_], _ => rfl
  have F27 := fun_mk (st := st_power) l27 c27 k27
  have b27 := F27.binds (ps := ["number", "many"]) fun _ _ _ _ _ _ us hl => match us, hl with | [_, _], _ => rfl
  have F28 := fun_mk (st := st_value) l28 c28 k28
  have b28 := F28.binds (ps := ["web", "x", "y"]) fun _ _ _ _ _ _ us hl => match us, hl with | [_, _, _], _ => rfl
  have F29 := fun_mk (st := st_law_pot) l29 c29 k29
  have b29 := F29.binds (ps := ["_law_script", "_law_k"]) fun _ _ _ _ _ _ us hl => match us, hl with | [_, _], _ => rfl
  have F30 := fun_mk (st := st_law_dip) l30 c30 k30
  have b30 := F30.binds (ps := ["_law_pot_here", "_law_many"]) fun _ _ _ _ _ _ us hl => match us, hl with | [_, _], _ => rfl
  have F31 := fun_mk (st := st_law_any) l31 c31 k31
  have b31 := F31.binds (ps := ["_law_pot_here", "_law_some"]) fun _ _ _ _ _ _ us hl => match us, hl with | [_, _], _ => rfl
  have F32 := fun_mk (st := st_law_parts) l32 c32 k32
  have b32 := F32.binds (ps := ["_law_pot_here", "_law_most", "_law_many"]) fun _ _ _ _ _ _ us hl => match us, hl with | [_, _, _], _ => rfl
  have F33 := fun_mk (st := st_law_rank) l33 c33 k33
  have b33 := F33.binds (ps := ["_law_places", "_law_ties"]) fun _ _ _ _ _ _ us hl => match us, hl with | [_, _], _ => rfl
  have F34 := fun_mk (st := st_law_lots) l34 c34 k34
  have b34 := F34.binds (ps := ["_law_many"]) fun _ _ _ _ _ _ us hl => match us, hl with | [_], _ => rfl
  have F35 := fun_mk (st := st_law_counted) l35 c35 k35
  have b35 := F35.binds (ps := ["_law_places", "_law_ties"]) fun _ _ _ _ _ _ us hl => match us, hl with | [_, _], _ => rfl
  have F36 := fun_mk (st := st_law_power) l36 c36 k36
  have b36 := F36.binds (ps := ["_law_number", "_law_many"]) fun _ _ _ _ _ _ us hl => match us, hl with | [_, _], _ => rfl
  have F37 := fun_mk (st := st_law_sum) l37 c37 k37
  have b37 := F37.binds (ps := ["_law_rows", "_law_left_x", "_law_right_y"]) fun _ _ _ _ _ _ us hl => match us, hl with | [_, _, _], _ => rfl
  have F38 := fun_mk (st := st_law_common) l38 c38 k38
  have b38 := F38.binds (ps := ["_law_one", "_law_other"]) fun _ _ _ _ _ _ us hl => match us, hl with | [_, _], _ => rfl
  have F39 := fun_mk (st := st_law_fraction) l39 c39 k39
  have b39 := F39.binds (ps := ["_law_pot_here"]) fun _ _ _ _ _ _ us hl => match us, hl with | [_], _ => rfl
  have F40 := fun_mk (st := st_law_table_right) l40 c40 k40
  have b40 := F40.binds (ps := ["_law_told", "_law_counts"]) fun _ _ _ _ _ _ us hl => match us, hl with | [_, _], _ => rfl
  have F41 := fun_mk (st := st_law_right) l41 c41 k41
  have b41 := F41.binds (ps := ["_law_pot_here"]) fun _ _ _ _ _ _ us hl => match us, hl with | [_], _ => rfl
  have F42 := fun_mk (st := st_law) l42 c42 k42
  have b42 := F42.binds (ps := ["_law_script"]) fun _ _ _ _ _ _ us hl => match us, hl with | [_], _ => rfl
  have M : Mo K mg ⟨C, T.ckOk⟩ (fun i => [f0, f1, f2, f3, f4, f5, f6, f7, f8, f9, f10, f11, f12, f13, f14, f15, f16, f17, f18, f19, f20, f21, f22, f23, f24, f25, f26, f27, f28, f29, f30, f31, f32, f33, f34, f35, f36, f37, f38, f39, f40, f41, fa].getD i 0) (fun i => [PySem.W.fnOf "is_integer" "is_integer" (defArgs st_is_integer) (defBody st_is_integer) (defScope st_is_integer) .none kV0 dc0 pm0 an0 cd0 ct0, PySem.W.fnOf "is_between" "is_between" (defArgs st_is_between) (defBody st_is_between) (defScope st_is_between) .none kV1 dc1 pm1 an1 cd1 ct1, PySem.W.fnOf "common_divisor" "common_divisor" (defArgs st_common_divisor) (defBody st_common_divisor) (defScope st_common_divisor) .none kV2 dc2 pm2 an2 cd2 ct2, PySem.W.fnOf "fraction" "fraction" (defArgs st_fraction) (defBody st_fraction) (defScope st_fraction) .none kV3 dc3 pm3 an3 cd3 ct3, PySem.W.fnOf "is_fraction" "is_fraction" (defArgs st_is_fraction) (defBody st_is_fraction) (defScope st_is_fraction) .none kV4 dc4 pm4 an4 cd4 ct4, PySem.W.fnOf "are_letters" "are_letters" (defArgs st_are_letters) (defBody st_are_letters) (defScope st_are_letters) .none kV5 dc5 pm5 an5 cd5 ct5, PySem.W.fnOf "are_places" "are_places" (defArgs st_are_places) (defBody st_are_places) (defScope st_are_places) .none kV6 dc6 pm6 an6 cd6 ct6, PySem.W.fnOf "is_tie" "is_tie" (defArgs st_is_tie) (defBody st_is_tie) (defScope st_is_tie) .none kV7 dc7 pm7 an7 cd7 ct7, PySem.W.fnOf "wrong_tie" "wrong_tie" (defArgs st_wrong_tie) (defBody st_wrong_tie) (defScope st_wrong_tie) .none kV8 dc8 pm8 an8 cd8 ct8, PySem.W.fnOf "__init__" "Web.__init__" (defArgs st_Webinit) (defBody st_Webinit) (defScope st_Webinit) .none kV9 dc9 pm9 an9 cd9 ct9, PySem.W.fnOf "__len__" "Web.__len__" (defArgs st_Weblen) (defBody st_Weblen) (defScope st_Weblen) .none kV10 dc10 pm10 an10 cd10 ct10, PySem.W.fnOf "check_web" "check_web" (defArgs st_check_web) (defBody st_check_web) (defScope st_check_web) .none kV11 dc11 pm11 an11 cd11 ct11, PySem.W.fnOf "herds_of" "herds_of" (defArgs st_herds_of) (defBody st_herds_of) (defScope st_herds_of) .none kV12 dc12 pm12 an12 cd12 ct12, PySem.W.fnOf "every_tie" "every_tie" (defArgs st_every_tie) (defBody st_every_tie) (defScope st_every_tie) .none kV13 dc13 pm13 an13 cd13 ct13, PySem.W.fnOf "ties_of" "ties_of" (defArgs st_ties_of) (defBody st_ties_of) (defScope st_ties_of) .none kV14 dc14 pm14 an14 cd14 ct14, PySem.W.fnOf "pieces_of" "pieces_of" (defArgs st_pieces_of) (defBody st_pieces_of) (defScope st_pieces_of) .none kV15 dc15 pm15 an15 cd15 ct15, PySem.W.fnOf "rank_of" "rank_of" (defArgs st_rank_of) (defBody st_rank_of) (defScope st_rank_of) .none kV16 dc16 pm16 an16 cd16 ct16, PySem.W.fnOf "spare_of" "spare_of" (defArgs st_spare_of) (defBody st_spare_of) (defScope st_spare_of) .none kV17 dc17 pm17 an17 cd17 ct17, PySem.W.fnOf "every_lot" "every_lot" (defArgs st_every_lot) (defBody st_every_lot) (defScope st_every_lot) .none kV18 dc18 pm18 an18 cd18 ct18, PySem.W.fnOf "empty_rows" "empty_rows" (defArgs st_empty_rows) (defBody st_empty_rows) (defScope st_empty_rows) .none kV19 dc19 pm19 an19 cd19 ct19, PySem.W.fnOf "as_table" "as_table" (defArgs st_as_table) (defBody st_as_table) (defScope st_as_table) .none kV20 dc20 pm20 an20 cd20 ct20, PySem.W.fnOf "counted_lots" "counted_lots" (defArgs st_counted_lots) (defBody st_counted_lots) (defScope st_counted_lots) .none kV21 dc21 pm21 an21 cd21 ct21, PySem.W.fnOf "lot_counts" "lot_counts" (defArgs st_lot_counts) (defBody st_lot_counts) (defScope st_lot_counts) .none kV22 dc22 pm22 an22 cd22 ct22, PySem.W.fnOf "ways_to_choose" "ways_to_choose" (defArgs st_ways_to_choose) (defBody st_ways_to_choose) (defScope st_ways_to_choose) .none kV23 dc23 pm23 an23 cd23 ct23, PySem.W.fnOf "shifted" "shifted" (defArgs st_shifted) (defBody st_shifted) (defScope st_shifted) .none kV24 dc24 pm24 an24 cd24 ct24, PySem.W.fnOf "table_rows" "table_rows" (defArgs st_table_rows) (defBody st_table_rows) (defScope st_table_rows) .none kV25 dc25 pm25 an25 cd25 ct25, PySem.W.fnOf "table" "table" (defArgs st_table) (defBody st_table) (defScope st_table) .none kV26 dc26 pm26 an26 cd26 ct26, PySem.W.fnOf "power" "power" (defArgs st_power) (defBody st_power) (defScope st_power) .none kV27 dc27 pm27 an27 cd27 ct27, PySem.W.fnOf "value" "value" (defArgs st_value) (defBody st_value) (defScope st_value) .none kV28 dc28 pm28 an28 cd28 ct28, PySem.W.fnOf "_law_pot" "_law_pot" (defArgs st_law_pot) (defBody st_law_pot) (defScope st_law_pot) .none kV29 dc29 pm29 an29 cd29 ct29, PySem.W.fnOf "_law_dip" "_law_dip" (defArgs st_law_dip) (defBody st_law_dip) (defScope st_law_dip) .none kV30 dc30 pm30 an30 cd30 ct30, PySem.W.fnOf "_law_any" "_law_any" (defArgs st_law_any) (defBody st_law_any) (defScope st_law_any) .none kV31 dc31 pm31 an31 cd31 ct31, PySem.W.fnOf "_law_parts" "_law_parts" (defArgs st_law_parts) (defBody st_law_parts) (defScope st_law_parts) .none kV32 dc32 pm32 an32 cd32 ct32, PySem.W.fnOf "_law_rank" "_law_rank" (defArgs st_law_rank) (defBody st_law_rank) (defScope st_law_rank) .none kV33 dc33 pm33 an33 cd33 ct33, PySem.W.fnOf "_law_lots" "_law_lots" (defArgs st_law_lots) (defBody st_law_lots) (defScope st_law_lots) .none kV34 dc34 pm34 an34 cd34 ct34, PySem.W.fnOf "_law_counted" "_law_counted" (defArgs st_law_counted) (defBody st_law_counted) (defScope st_law_counted) .none kV35 dc35 pm35 an35 cd35 ct35, PySem.W.fnOf "_law_power" "_law_power" (defArgs st_law_power) (defBody st_law_power) (defScope st_law_power) .none kV36 dc36 pm36 an36 cd36 ct36, PySem.W.fnOf "_law_sum" "_law_sum" (defArgs st_law_sum) (defBody st_law_sum) (defScope st_law_sum) .none kV37 dc37 pm37 an37 cd37 ct37, PySem.W.fnOf "_law_common" "_law_common" (defArgs st_law_common) (defBody st_law_common) (defScope st_law_common) .none kV38 dc38 pm38 an38 cd38 ct38, PySem.W.fnOf "_law_fraction" "_law_fraction" (defArgs st_law_fraction) (defBody st_law_fraction) (defScope st_law_fraction) .none kV39 dc39 pm39 an39 cd39 ct39, PySem.W.fnOf "_law_table_right" "_law_table_right" (defArgs st_law_table_right) (defBody st_law_table_right) (defScope st_law_table_right) .none kV40 dc40 pm40 an40 cd40 ct40, PySem.W.fnOf "_law_right" "_law_right" (defArgs st_law_right) (defBody st_law_right) (defScope st_law_right) .none kV41 dc41 pm41 an41 cd41 ct41, PySem.W.fnOf "law" "law" (defArgs st_law) (defBody st_law) (defScope st_law) .none kV42 dc42 pm42 an42 cd42 ct42].getD i (PySem.W.fnOf "law" "law" (defArgs st_law) (defBody st_law) (defScope st_law) .none kV42 dc42 pm42 an42 cd42 ct42)) := {
    f_is_integer := F0
    b_is_integer := b0
    m_is_integer := PySem.W.mg_of X G a0
    f_is_between := F1
    b_is_between := b1
    m_is_between := PySem.W.mg_of X G a1
    f_common_divisor := F2
    b_common_divisor := b2
    m_common_divisor := PySem.W.mg_of X G a2
    f_fraction := F3
    b_fraction := b3
    m_fraction := PySem.W.mg_of X G a3
    f_is_fraction := F4
    b_is_fraction := b4
    m_is_fraction := PySem.W.mg_of X G a4
    f_are_letters := F5
    b_are_letters := b5
    m_are_letters := PySem.W.mg_of X G a5
    f_are_places := F6
    b_are_places := b6
    m_are_places := PySem.W.mg_of X G a6
    f_is_tie := F7
    b_is_tie := b7
    m_is_tie := PySem.W.mg_of X G a7
    f_wrong_tie := F8
    b_wrong_tie := b8
    m_wrong_tie := PySem.W.mg_of X G a8
    f_Webinit := F9
    b_Webinit := b9
    f_Weblen := F10
    b_Weblen := b10
    f_check_web := F11
    b_check_web := b11
    m_check_web := PySem.W.mg_of X G a11
    f_herds_of := F12
    b_herds_of := b12
    m_herds_of := PySem.W.mg_of X G a12
    f_every_tie := F13
    b_every_tie := b13
    m_every_tie := PySem.W.mg_of X G a13
    f_ties_of := F14
    b_ties_of := b14
    m_ties_of := PySem.W.mg_of X G a14
    f_pieces_of := F15
    b_pieces_of := b15
    m_pieces_of := PySem.W.mg_of X G a15
    f_rank_of := F16
    b_rank_of := b16
    m_rank_of := PySem.W.mg_of X G a16
    f_spare_of := F17
    b_spare_of := b17
    m_spare_of := PySem.W.mg_of X G a17
    f_every_lot := F18
    b_every_lot := b18
    m_every_lot := PySem.W.mg_of X G a18
    f_empty_rows := F19
    b_empty_rows := b19
    m_empty_rows := PySem.W.mg_of X G a19
    f_as_table := F20
    b_as_table := b20
    m_as_table := PySem.W.mg_of X G a20
    f_counted_lots := F21
    b_counted_lots := b21
    m_counted_lots := PySem.W.mg_of X G a21
    f_lot_counts := F22
    b_lot_counts := b22
    m_lot_counts := PySem.W.mg_of X G a22
    f_ways_to_choose := F23
    b_ways_to_choose := b23
    m_ways_to_choose := PySem.W.mg_of X G a23
    f_shifted := F24
    b_shifted := b24
    m_shifted := PySem.W.mg_of X G a24
    f_table_rows := F25
    b_table_rows := b25
    m_table_rows := PySem.W.mg_of X G a25
    f_table := F26
    b_table := b26
    m_table := PySem.W.mg_of X G a26
    f_power := F27
    b_power := b27
    m_power := PySem.W.mg_of X G a27
    f_value := F28
    b_value := b28
    m_value := PySem.W.mg_of X G a28
    f_law_pot := F29
    b_law_pot := b29
    m_law_pot := PySem.W.mg_of X G a29
    f_law_dip := F30
    b_law_dip := b30
    m_law_dip := PySem.W.mg_of X G a30
    f_law_any := F31
    b_law_any := b31
    m_law_any := PySem.W.mg_of X G a31
    f_law_parts := F32
    b_law_parts := b32
    m_law_parts := PySem.W.mg_of X G a32
    f_law_rank := F33
    b_law_rank := b33
    m_law_rank := PySem.W.mg_of X G a33
    f_law_lots := F34
    b_law_lots := b34
    m_law_lots := PySem.W.mg_of X G a34
    f_law_counted := F35
    b_law_counted := b35
    m_law_counted := PySem.W.mg_of X G a35
    f_law_power := F36
    b_law_power := b36
    m_law_power := PySem.W.mg_of X G a36
    f_law_sum := F37
    b_law_sum := b37
    m_law_sum := PySem.W.mg_of X G a37
    f_law_common := F38
    b_law_common := b38
    m_law_common := PySem.W.mg_of X G a38
    f_law_fraction := F39
    b_law_fraction := b39
    m_law_fraction := PySem.W.mg_of X G a39
    f_law_table_right := F40
    b_law_table_right := b40
    m_law_table_right := PySem.W.mg_of X G a40
    f_law_right := F41
    b_law_right := b41
    m_law_right := PySem.W.mg_of X G a41
    f_law := F42
    b_law := b42
    m_law := PySem.W.mg_of X G a42
    kw_lot_counts_0 := fun s ws _ hl => match ws, hl with | [_], _ => .of_eq rfl
    kw_table_0 := fun s ws _ hl => match ws, hl with | [_], _ => .of_eq rfl
    kw_value_120 := fun s ws _ hl => match ws, hl with | [_, _, _], _ => .of_eq rfl
    m_Web := PySem.W.mg_of X G aW
    z_len := PySem.W.mg_none_of X G z_len
    z_all := PySem.W.mg_none_of X G z_all
    z_abs := PySem.W.mg_none_of X G z_abs
    z_int := PySem.W.mg_none_of X G z_int
    z_bool := PySem.W.mg_none_of X G z_bool
    z_divmod := PySem.W.mg_none_of X G z_divmod
    z_min := PySem.W.mg_none_of X G z_min
    z_max := PySem.W.mg_none_of X G z_max
    z_tuple := PySem.W.mg_none_of X G z_tuple
    z_list := PySem.W.mg_none_of X G z_list
    z_sorted := PySem.W.mg_none_of X G z_sorted
    z_set := PySem.W.mg_none_of X G z_set
    z_dict := PySem.W.mg_none_of X G z_dict
    z_str := PySem.W.mg_none_of X G z_str
    z_isinstance := PySem.W.mg_none_of X G z_isinstance
    z_enumerate := PySem.W.mg_none_of X G z_enumerate
    z_range := PySem.W.mg_none_of X G z_range
    z_repr := PySem.W.mg_none_of X G z_repr
    g_MOST_PLACES := ⟨_, PySem.W.mg_of X G v_MOST_PLACES⟩
    g_MOST_TIES := ⟨_, PySem.W.mg_of X G v_MOST_TIES⟩
    g_LETTERS := ⟨_, PySem.W.mg_of X G v_LETTERS⟩
    g_MOST_TOP := ⟨_, PySem.W.mg_of X G v_MOST_TOP⟩
    g_MOST_BOTTOM := ⟨_, PySem.W.mg_of X G v_MOST_BOTTOM⟩
    wty := ⟨⟨w1, w2, w3, w4⟩, w5, w6, w7, w8⟩
    ck := rfl
    np := w9
    nt := w10
    fl := a10
    il := w11
    mkw := ⟨w12, a9, w13, w14⟩ }
  refine ⟨_, fun s v => .of_eq rfl, fun base _ _ => (ok_law M).imp ?_⟩
  rintro vs H Q E ⟨a, ns, rfl, hS, hl, q⟩
  refine ⟨none, H, [.scr ns], 0, fun d _ => d = .bl true, fun _ _ h => h, .cons ⟨a, rfl, hS⟩ .nil, (fun _ z => nomatch z), ⟨ns, hl, rfl, fun _ => rfl⟩, fun v H' F' m' x _ _ rp e => ?_⟩
  subst e
  cases rp
  exact q H'
end K15
open PySem PySem.W PyProof.Rows
set_option maxHeartbeats 0 in
theorem PySem.Challenge.cw_webreckon_k15_whole_lot_counts_tables_an_holds : PySem.Challenge.rw_webreckon_k15_whole_lot_counts_tables_an.Holds := by
  w_on; o_law; k_head; (case hw => w_witness2)
  k_fill
  refine G.walk_ofG (l := PySem.Challenge.rw_webreckon_k15_whole_lot_counts_tables_an) (n := 63) (k := 10) (x := "_law_script") (sp := fun w => K15.spLaw _) rfl (by decide) rfl ⟨rfl, by decide, by decide⟩ (fun w h Y => PySem.W.kIn_of Y) ?F (fun _ _ a ns hl _ hS => ⟨a, ns, rfl, hS, hl, fun _ => rfl⟩)
  case F =>
    intro w mg fa h KX G hmg
    refine' K15.all_mk KX G hmg ?a0 ?l0 ?c0 ?k0 ?a1 ?l1 ?c1 ?k1 ?a2 ?l2 ?c2 ?k2 ?a3 ?l3 ?c3 ?k3 ?a4 ?l4 ?c4 ?k4 ?a5 ?l5 ?c5 ?k5 ?a6 ?l6 ?c6 ?k6 ?a7 ?l7 ?c7 ?k7 ?a8 ?l8 ?c8 ?k8 ?a9 ?l9 ?c9 ?k9 ?a10 ?l10 ?c10 ?k10 ?a11 ?l11 ?c11 ?k11 ?a12 ?l12 ?c12 ?k12 ?a13 ?l13 ?c13 ?k13 ?a14 ?l14 ?c14 ?k14 ?a15 ?l15 ?c15 ?k15 ?a16 ?l16 ?c16 ?k16 ?a17 ?l17 ?c17 ?k17 ?a18 ?l18 ?c18 ?k18 ?a19 ?l19 ?c19 ?k19 ?a20 ?l20 ?c20 ?k20 ?a21 ?l21 ?c21 ?k21 ?a22 ?l22 ?c22 ?k22 ?a23 ?l23 ?c23 ?k23 ?a24 ?l24 ?c24 ?k24 ?a25 ?l25 ?c25 ?k25 ?a26 ?l26 ?c26 ?k26 ?a27 ?l27 ?c27 ?k27 ?a28 ?l28 ?c28 ?k28 ?a29 ?l29 ?c29 ?k29 ?a30 ?l30 ?c30 ?k30 ?a31 ?l31 ?c31 ?k31 ?a32 ?l32 ?c32 ?k32 ?a33 ?l33 ?c33 ?k33 ?a34 ?l34 ?c34 ?k34 ?a35 ?l35 ?c35 ?k35 ?a36 ?l36 ?c36 ?k36 ?a37 ?l37 ?c37 ?k37 ?a38 ?l38 ?c38 ?k38 ?a39 ?l39 ?c39 ?k39 ?a40 ?l40 ?c40 ?k40 ?a41 ?l41 ?c41 ?k41 ?a42 ?l42 ?c42 ?k42 ?aW ?z_len ?z_all ?z_abs ?z_int ?z_bool ?z_divmod ?z_min ?z_max ?z_tuple ?z_list ?z_sorted ?z_set ?z_dict ?z_str ?z_isinstance ?z_enumerate ?z_range ?z_repr ?v_MOST_PLACES ?v_MOST_TIES ?v_LETTERS ?v_MOST_TOP ?v_MOST_BOTTOM ?w1 ?w2 ?w3 ?w4 ?w5 ?w6 ?w7 ?w8 ?w9 ?w10 ?w11 ?w12 ?w13 ?w14
    (case aW => k_is); (case a0 => k_is); (case l0 => k_is); (case c0 => k_is); (case k0 => k_is); (case a1 => k_is); (case l1 => k_is); (case c1 => k_is); (case k1 => k_is); (case a2 => k_is); (case l2 => k_is); (case c2 => k_is); (case k2 => k_is); (case a3 => k_is); (case l3 => k_is); (case c3 => k_is); (case k3 => k_is); (case a4 => k_is); (case l4 => k_is); (case c4 => k_is); (case k4 => k_is); (case a5 => k_is); (case l5 => k_is); (case c5 => k_is); (case k5 => k_is); (case a6 => k_is); (case l6 => k_is); (case c6 => k_is); (case k6 => k_is); (case a7 => k_is); (case l7 => k_is); (case c7 => k_is); (case k7 => k_is); (case a8 => k_is); (case l8 => k_is); (case c8 => k_is); (case k8 => k_is); (case a9 => k_is); (case l9 => k_is); (case c9 => k_is); (case k9 => k_is); (case a10 => k_is); (case l10 => k_is); (case c10 => k_is); (case k10 => k_is); (case a11 => k_is); (case l11 => k_is); (case c11 => k_is); (case k11 => k_is); (case a12 => k_is); (case l12 => k_is); (case c12 => k_is); (case k12 => k_is); (case a13 => k_is); (case l13 => k_is); (case c13 => k_is); (case k13 => k_is); (case a14 => k_is); (case l14 => k_is); (case c14 => k_is); (case k14 => k_is); (case a15 => k_is); (case l15 => k_is); (case c15 => k_is); (case k15 => k_is); (case a16 => k_is); (case l16 => k_is); (case c16 => k_is); (case k16 => k_is); (case a17 => k_is); (case l17 => k_is); (case c17 => k_is); (case k17 => k_is); (case a18 => k_is); (case l18 => k_is); (case c18 => k_is); (case k18 => k_is); (case a19 => k_is); (case l19 => k_is); (case c19 => k_is); (case k19 => k_is); (case a20 => k_is); (case l20 => k_is); (case c20 => k_is); (case k20 => k_is); (case a21 => k_is); (case l21 => k_is); (case c21 => k_is); (case k21 => k_is); (case a22 => k_is); (case l22 => k_is); (case c22 => k_is); (case k22 => k_is); (case a23 => k_is); (case l23 => k_is); (case c23 => k_is); (case k23 => k_is); (case a24 => k_is); (case l24 => k_is); (case c24 => k_is); (case k24 => k_is); (case a25 => k_is); (case l25 => k_is); (case c25 => k_is); (case k25 => k_is); (case a26 => k_is); (case l26 => k_is); (case c26 => k_is); (case k26 => k_is); (case a27 => k_is); (case l27 => k_is); (case c27 => k_is); (case k27 => k_is); (case a28 => k_is); (case l28 => k_is); (case c28 => k_is); (case k28 => k_is); (case a29 => k_is); (case l29 => k_is); (case c29 => k_is); (case k29 => k_is); (case a30 => k_is); (case l30 => k_is); (case c30 => k_is); (case k30 => k_is); (case a31 => k_is); (case l31 => k_is); (case c31 => k_is); (case k31 => k_is); (case a32 => k_is); (case l32 => k_is); (case c32 => k_is); (case k32 => k_is); (case a33 => k_is); (case l33 => k_is); (case c33 => k_is); (case k33 => k_is); (case a34 => k_is); (case l34 => k_is); (case c34 => k_is); (case k34 => k_is); (case a35 => k_is); (case l35 => k_is); (case c35 => k_is); (case k35 => k_is); (case a36 => k_is); (case l36 => k_is); (case c36 => k_is); (case k36 => k_is); (case a37 => k_is); (case l37 => k_is); (case c37 => k_is); (case k37 => k_is); (case a38 => k_is); (case l38 => k_is); (case c38 => k_is); (case k38 => k_is); (case a39 => k_is); (case l39 => k_is); (case c39 => k_is); (case k39 => k_is); (case a40 => k_is); (case l40 => k_is); (case c40 => k_is); (case k40 => k_is); (case a41 => k_is); (case l41 => k_is); (case c41 => k_is); (case k41 => k_is); (case a42 => k_is); (case l42 => k_is); (case c42 => k_is); (case k42 => k_is); (case z_len => k_is); (case z_all => k_is); (case z_abs => k_is); (case z_int => k_is); (case z_bool => k_is); (case z_divmod => k_is); (case z_min => k_is); (case z_max => k_is); (case z_tuple => k_is); (case z_list => k_is); (case z_sorted => k_is); (case z_set => k_is); (case z_dict => k_is); (case z_str => k_is); (case z_isinstance => k_is); (case z_enumerate => k_is); (case z_range => k_is); (case z_repr => k_is); (case v_MOST_PLACES => k_is); (case v_MOST_TIES => k_is); (case v_LETTERS => k_is); (case v_MOST_TOP => k_is); (case v_MOST_BOTTOM => k_is); (case w1 => k_is); (case w2 => k_is); (case w3 => k_is); (case w4 => k_is); (case w5 => k_is); (case w6 => k_is); (case w7 => k_is); (case w8 => k_is); (case w9 => k_is); (case w10 => k_is); (case w11 => k_is); (case w12 => k_is); (case w13 => k_is); (case w14 => k_is)
